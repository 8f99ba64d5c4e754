/- Laws for the walk. -/
import Derived.Test.YtgjkifdilflcbaaGreatZbd
import Derived.Test.YtgjkifdilflcbaaGreatZbe
set_option linter.unusedVariables false
set_option maxHeartbeats 4000000
namespace Tr
theorem rt_step{a r g:Nat}(h:a<(r+2 ^ (g+1))*(r+2 ^ (g+1))):a<(r+2 ^ g+2 ^ g)*(r+2 ^ g+2 ^ g):=by
 rw[Nat.add_assoc,show 2 ^ g+2 ^ g=2 ^ (g+1) by rw[Nat.pow_succ]; omega]; exact h
theorem rt_first{a N:Nat}(h:a<2 ^ N):a<(0+2 ^ (N / 2+1))*(0+2 ^ (N / 2+1)):=by
 rw[Nat.zero_add,←Nat.pow_add]
 exact Nat.lt_of_lt_of_le h (Nat.pow_le_pow_right (by decide) (by omega))
end Tr
namespace Go.Proofs.YtgjkifdilflcbaaGreat
open Go.RowKit Tr
theorem sbits_any(a:Nat)(va:Value)(w:World)(ha:WSl w va (words a))(hn:(words a).length<549755813888) :
  Calls Tryz.prog 180 #[va] w fun e w'=>∃ N:Nat,e=.returned (.int .i64 N)∧Hid (BitsOf a N)∧N≤32*(words a).length∧w=w':=by
 by_cases hz:a=0
 ·subst hz
  rw[words_zero] at ha ⊢
  obtain⟨p,cap,rfl,_,_⟩:=ha
  go_enter Tryz.func180,Tryz.ntmps180
  go_wp2_with fail
  go_ret
  exact⟨0,rfl,Lib.hid bits_zero,Nat.zero_le _,rfl⟩
 ·have hm0:0<(words a).length:=List.length_pos_iff.2 (fun h=>hz (words_eq_nil.1 h))
  refine(sbits_row a _ rfl hm0 va w ha hn).mono ?_
  rintro e w' ⟨⟨k,k1,k2,k3,k4,rfl⟩,rfl⟩
  exact⟨_,rfl,Lib.hid (sbits_end rfl hm0 rfl k1 k3 k4),by omega,rfl⟩
theorem sroot_any(n R:Nat)(h1:R*R≤n)(h2:n<(R+1)*(R+1))(w:World)(hs:(strN n).size<1073741824)(hn:(words n).length<1073741824) :
  Calls Tryz.prog 158 #[encZ (n:Int)] w fun e w'=>e=.returned (.tuple #[encZ (R:Int),encZ ((n - R*R:Nat):Int)])∧Below w.heap.size w w':=by
 have e0:encZ (n:Int)=.agg #[.bool false,.string (strN n)]:=by simp[encZ]
 rw[e0]
 go_enter Tryz.func158,Tryz.ntmps158
 go_wp2_with fail
 obtain⟨W,hW⟩:∃ W,W=((w.alloc (.cells #[.bool false,.string (strN n)] 23)).alloc (.cells #[.bool false,.string ⟨#[]⟩] 23)).alloc (.cells #[.bool false,.string ⟨#[]⟩] 23):=⟨_,rfl⟩
 have hbW:Below w.heap.size w W:=by rw[hW]; exact((br.alloc (Nat.le_refl _) _).alloc (by simp) _).alloc (by simp; omega) _
 have b2:W.heap[w.heap.size+1]?=some (.cells #[.bool false,.string ⟨#[]⟩] 23 (0,0)):=by
  rw[hW,heap_alloc_old]
  ·have:=heap_alloc_new (w.alloc (.cells #[.bool false,.string (strN n)] 23)) (.cells #[.bool false,.string ⟨#[]⟩] 23)
   simpa using this
  ·simp
 have b3:W.heap[w.heap.size+1+1]?=some (.cells #[.bool false,.string ⟨#[]⟩] 23 (0,0)):=by
  rw[hW]
  have:=heap_alloc_new ((w.alloc (.cells #[.bool false,.string (strN n)] 23)).alloc (.cells #[.bool false,.string ⟨#[]⟩] 23)) (.cells #[.bool false,.string ⟨#[]⟩] 23)
  simpa using this
 rw[←hW]
 clear hW
 refine(swords_any n (by omega) W).mono ?_
 rintro e w1 ⟨v4,rfl,hv4,hb1⟩
 go_wp2_with fail
 refine(sbits_any n v4 w1 hv4 (by omega)).mono ?_
 rintro e w2 ⟨N,rfl,hN,hN2,rfl⟩
 have e2:(N:Int).tdiv 2=((N / 2:Nat):Int):=by rw[Int.tdiv_eq_ediv_of_nonneg (by omega)]; omega
 have e5:wrap64 ((N:Int) / 2)=(N:Int) / 2:=by unfold wrap64; omega
 have hf:=rt_first hN.out.1
 have HF:=Lib.hid (And.intro hf hN2)
 have HB:=Lib.hid (And.intro b2 (And.intro b3 hbW))
 have HV:=Lib.hid hv4
 have HN:=Lib.hid (And.intro hn (And.intro h1 h2))
 clear hf hN hN2 b2 b3 hbW hv4 hn hs h1 h2
 go_wp2_with fail
 simp only[e5]
 clear e5 e2
 go_loopg [5,6,7] (N / 2+1) (fun g p q u wr=>∃ r,WSl wr p (words r)∧q=.int .i64 ((g:Int) - 1)∧Hid (r*r≤n)∧Hid (n<(r+2 ^ g)*(r+2 ^ g))∧Hid (g≤N / 2+1)∧Below w1.heap.size w1 wr)
 case atStart=>exact⟨0,by rw[words_zero]; exact⟨none,0,rfl,Nat.le_refl _,fun h=>absurd rfl h⟩,by congr 1; omega,Lib.hid (Nat.zero_le _),Lib.hid HF.out.1,Lib.hid (Nat.le_refl _),Below.refl _ _⟩
 case round =>
  obtain⟨r,hr,rfl,hr1,hr2,hg,hB⟩:=hrel
  have hrn:r≤n:=by
   rcases Nat.eq_zero_or_pos r with h|h
   ·omega
   ·exact Nat.le_trans (Nat.le_mul_of_pos_left r h) hr1.out
  have hlr:(words r).length≤(words n).length:=words_length_le (Nat.lt_of_le_of_lt hrn (lt_words n))
  cases gk with
  | zero =>
   have hRr:r=R:=root_one hr1.out (by simpa using hr2.out) HN.out.2.1 HN.out.2.2
   subst hRr
   have ez:∀ k:Nat,encZ (sgn false k)=.agg #[.bool false,.string (strN k)]:=fun k=>by simp[encZ,sgn]
   have hlen:(words r).length<1073741824:=Nat.lt_of_le_of_lt hlr HN.out.1
   have HL:=Lib.hid (And.intro hlen (And.intro hr1.out hlr))
   have HR:=Lib.hid hr
   have EZ:=Lib.hid ez
   clear hr1 hr2 hg hrn hlr hlen hr ez
   go_wp2_with fail
   refine(smade_any false (words r) u5 wr (wok_words _) HR.out (by have:=HL.out.1; omega)).mono ?_
   rintro e w3 ⟨rfl,hb3⟩
   rw[EZ.out,wv_words]
   go_wp2_with fail
   refine(sproduct_any (words r) (words r) u5 u5 w3 (wok_words _) (wok_words _) (HR.out.below hb3) (HR.out.below hb3) (by have:=HL.out.1; omega) (by have:=HL.out.1; omega)).mono ?_
   rintro e w4 ⟨v35,rfl,hv35,hb4⟩
   rw[wv_words] at hv35
   go_wp2_with fail
   have hb14:Below w1.heap.size w1 w4:=hB.trans ((hb3.trans (hb4.mono hb3.size)).mono hB.size)
   refine(sless_any (words n) (words (r*r)) v4 v35 w4 (wok_words _) (wok_words _) (by rw[wv_words,wv_words]; exact HL.out.2.1) (words_length_le (Nat.lt_of_le_of_lt HL.out.2.1 (lt_words n))) (HV.out.below hb14) hv35 (by have:=HN.out.1; omega)).mono ?_
   rintro e w5 ⟨v36,rfl,hv36,hb5⟩
   rw[wv_words,wv_words] at hv36
   go_wp2_with fail
   refine(smade_any false (words (n - r*r)) v36 w5 (wok_words _) hv36 (by
    have:=words_length_le (Nat.lt_of_le_of_lt (Nat.sub_le n (r*r)) (lt_words n))
    have:=HN.out.1; omega)).mono ?_
   rintro e w6 ⟨rfl,hb6⟩
   rw[EZ.out,wv_words]
   have hb16:Below W.heap.size W w6:=hb1.trans ((hb14.trans ((hb5.trans (hb6.mono hb5.size)).mono hb14.size)).mono hb1.size)
   have c2:=(hb16.block _ (Array.getElem?_eq_some_iff.1 HB.out.1).1).trans HB.out.1
   have c3:=(hb16.block _ (Array.getElem?_eq_some_iff.1 HB.out.2.1).1).trans HB.out.2.1
   have hbw:Below w.heap.size w w6:=HB.out.2.2.trans (hb16.mono HB.out.2.2.size)
   have c20:w6.cell? ⟨w.heap.size+1,0,none⟩=some (.bool false):=by simp[World.cell?,c2]
   have c21:w6.cell? ⟨w.heap.size+1,1,none⟩=some (.string ⟨#[]⟩):=by simp[World.cell?,c2]
   have c30:w6.cell? ⟨w.heap.size+1+1,0,none⟩=some (.bool false):=by simp[World.cell?,c3]
   have c31:w6.cell? ⟨w.heap.size+1+1,1,none⟩=some (.string ⟨#[]⟩):=by simp[World.cell?,c3]
   have f2:∀ i,w6.frozen? ⟨w.heap.size+1,i,none⟩=false:=fun i=>by simp[World.frozen?,c2]
   have f3:∀ i,w6.frozen? ⟨w.heap.size+1+1,i,none⟩=false:=fun i=>by simp[World.frozen?,c3]
   have g2:=f2 0
   have g21:=f2 1
   have g3:=f3 0
   have g31:=f3 1
   clear f2 f3 c2 c3
   go_wp2_with fail
   refine bodyPost_ret (v:=.tuple #[.agg #[.bool false,.string (strN r)],.agg #[.bool false,.string (strN (n - r*r))]]) (by simp[results,Tryz.results158,go_sem,c20,c21,c30,c31]) rfl ⟨by simp[encZ],?_⟩
   exact(((hbw.setCell (by simp) _).setCell (by simp) _).setCell (by simp; omega) _).setCell (by simp; omega) _
  | succ k =>
   have e3:((k+1:Nat):Int) - 1=(k:Int):=by omega
   rw[e3]
   have hk:k<34359738368:=by have:=hg.out; have:=HF.out.2; have:=HN.out.1; omega
   have hp2:2 ^ k<4294967296 ^ (k / 32+1):=shl_lt k
   have hxl:(words (r+2 ^ k)).length<549755813888:=by
    have:=words_length_le (sum_lt (Nat.lt_of_le_of_lt hrn (lt_words n)) hp2)
    have:=HN.out.1; omega
   have hlr2:(words r).length<549755813888:=by have:=HN.out.1; omega
   have hpl:(words (2 ^ k)).length<549755813888:=by have:=words_length_le hp2; omega
   have hstep:=rt_step hr2.out
   have HL:=Lib.hid (And.intro hxl (And.intro hlr2 (And.intro hpl hstep)))
   have HR:=Lib.hid hr
   have HI:=Lib.hid (And.intro hr1.out (And.intro hg.out hr2.out))
   clear hxl hlr2 hpl hstep hp2 hr hr1 hr2 hg hlr hrn
   go_wp2_with fail
   have hb2:Below wr.heap.size wr (wr.alloc (.cells #[.int .u32 1] 176)):=br.alloc (Nat.le_refl _) _
   refine(sup_any [1] k (.slice (some ⟨wr.heap.size,0,none⟩) 1 1) _ (by rw[wok_cons]; exact⟨by decide,wok_nil⟩) ((Blk.new wr [1]).wsl (k:=1) (cap:=1) (by simp) (by omega)) (by simp) (by omega)).mono ?_
   rintro e w3 ⟨v21,rfl,hv21,hb3⟩
   rw[show wv [1]*2 ^ k=2 ^ k by simp[wv]] at hv21
   have hb13:=hb2.trans (hb3.mono hb2.size)
   go_wp2_with fail
   refine(smore_any (words r) (words (2 ^ k)) u5 v21 w3 (wok_words _) (wok_words _) (HR.out.below hb13) hv21 HL.out.2.1 HL.out.2.2.1).mono ?_
   rintro e w4 ⟨v22,rfl,hv22,hb4⟩
   rw[wv_words,wv_words] at hv22
   have hb14:=hb13.trans (hb4.mono hb13.size)
   go_wp2_with fail
   refine(sproduct_any (words (r+2 ^ k)) (words (r+2 ^ k)) v22 v22 w4 (wok_words _) (wok_words _) hv22 hv22 HL.out.1 HL.out.1).mono ?_
   rintro e w5 ⟨v25,rfl,hv25,hb5⟩
   rw[wv_words] at hv25
   have hb15:=hb14.trans (hb5.mono hb14.size)
   have hb1r:Below w1.heap.size w1 w5:=hB.trans (hb15.mono hB.size)
   go_wp2_with fail
   have hpp:(words ((r+2 ^ k)*(r+2 ^ k))).length<1099511627776:=by
    have:=words_length_le (show(r+2 ^ k)*(r+2 ^ k)<4294967296 ^ ((words (r+2 ^ k)).length+(words (r+2 ^ k)).length) by rw[Nat.pow_add]; exact Nat.mul_lt_mul'' (lt_words _) (lt_words _))
    have:=HL.out.1; omega
   refine(sunder_any ((r+2 ^ k)*(r+2 ^ k)) n v25 v4 w5 hv25 (HV.out.below hb1r) hpp).mono ?_
   rintro e w6 ⟨rfl,nn,rfl⟩
   have hb16:Below w1.heap.size w1 (w5.drewN nn):=hb1r.trans ⟨rfl,rfl,rfl,Nat.le_refl _,fun _ _=>rfl⟩
   have ek:(k:Int) - 1=((k:Nat):Int) - 1:=rfl
   by_cases hc:(r+2 ^ k)*(r+2 ^ k)≤n
   ·have hcz:cmpZ ((r+2 ^ k)*(r+2 ^ k)) n≤0:=by
     unfold cmpZ
     split
     ·decide
     ·rw[if_neg (by omega)]; decide
    go_wp2_with fail
    go_roundg k
    case rel=>exact⟨r+2 ^ k,(hv22.below hb5).drewN nn,rfl,Lib.hid hc,Lib.hid HL.out.2.2.2,Lib.hid (by have:=HI.out.2.1; omega),hb16⟩
    case measure=>omega
   ·have hcz:¬cmpZ ((r+2 ^ k)*(r+2 ^ k)) n≤0:=by unfold cmpZ; rw[if_neg (by omega),if_pos (by omega)]; decide
    go_wp2_with fail
    go_roundg k
    case rel=>exact⟨r,(HR.out.below hb15).drewN nn,rfl,Lib.hid HI.out.1,Lib.hid (by omega),Lib.hid (by have:=HI.out.2.1; omega),hb16⟩
    case measure=>omega
end Go.Proofs.YtgjkifdilflcbaaGreat
namespace Go.Proofs.YtgjkifdilflcbaaGreat
open Go.RowKit Tr
theorem sq_eq0{a:Rat}(h:a*a=0):a=0:=(Rat.mul_eq_zero.1 h).elim id id
theorem sq_inj{a b:Rat}(ha:0≤a)(hb:0≤b)(h:a*a=b*b):a=b:=by
 have h1:(a - b)*(a+b)=0:=by grind
 rcases Rat.mul_eq_zero.1 h1 with h|h
 ·grind
 ·have h2:a=0:=by grind
  grind
def HasR(q:Rat):Prop:=∃ r,0≤r∧r*r=q
open Classical in
noncomputable def sqr(q:Rat):Rat:=if h:HasR q then h.choose else 0
theorem sqr_ok{q:Rat}(h:HasR q):0≤sqr q∧sqr q*sqr q=q:=by
 unfold sqr; rw[dif_pos h]; exact h.choose_spec
theorem sqr_eq{q r:Rat}(h0:0≤r)(h:r*r=q):HasR q∧sqr q=r:=by
 have hh:HasR q:=⟨r,h0,h⟩
 exact⟨hh,sq_inj (sqr_ok hh).1 h0 ((sqr_ok hh).2.trans h.symm)⟩
theorem sqr_nonneg(q:Rat):0≤sqr q:=by
 unfold sqr; split
 ·rename_i h; exact h.choose_spec.1
 ·exact Rat.le_refl
def IsRt(z r:QC):Prop:=r*r=z∧(0<r.re∨r.re=0∧0≤r.im)
def HasQ(z:QC):Prop:=∃ r,IsRt z r
open Classical in
noncomputable def rt(z:QC):QC:=if h:HasQ z then h.choose else⟨0,0⟩
theorem rt_ok{z:QC}(h:HasQ z):IsRt z (rt z):=by
 unfold rt; rw[dif_pos h]; exact h.choose_spec
def nm(z:QC):Rat:=z.re*z.re+z.im*z.im
theorem rt_parts{z r:QC}(h:IsRt z r):sqr (nm z)=nm r∧HasR (nm z):=by
 obtain⟨h1,h2⟩:=h
 have e:nm r*nm r=nm z:=by rw[←h1]; unfold nm; simp only[qmr,qmi]; grind
 have:=sqr_eq (r:=nm r) (by unfold nm; exact Rat.add_nonneg (sq_nonneg _) (sq_nonneg _)) e
 exact⟨this.2,this.1⟩
theorem rt_re{z r:QC}(h:IsRt z r):(nm r+z.re)*(1 / 2)=r.re*r.re∧(nm r - z.re)*(1 / 2)=r.im*r.im∧z.im=2*(r.re*r.im):=by
 obtain⟨h1,h2⟩:=h
 rw[←h1]
 simp only[nm,qmr,qmi]
 refine⟨?_,?_,?_⟩<;>grind
theorem rt_re0{z r:QC}(h:IsRt z r):0≤r.re:=by rcases h.2 with h|h<;>grind
theorem rt_one{z r s:QC}(h:IsRt z r)(k:IsRt z s):r=s:=by
 have e:nm r=nm s:=(rt_parts h).1.symm.trans (rt_parts k).1
 obtain⟨a1,a2,a3⟩:=rt_re h
 obtain⟨b1,b2,b3⟩:=rt_re k
 have e1:r.re=s.re:=sq_inj (rt_re0 h) (rt_re0 k) (by rw[←a1,←b1,e])
 refine qc_ext e1 ?_
 have e2:r.im*r.im=s.im*s.im:=by rw[←a2,←b2,e]
 have hr:=h.2
 have hs:=k.2
 by_cases h0:s.re=0
 ·have h0r:r.re=0:=e1.trans h0
  exact sq_inj (by grind) (by grind) e2
 ·have h3:s.re*(r.im - s.im)=0:=by grind
  rcases Rat.mul_eq_zero.1 h3 with h|h
  ·exact absurd h h0
  ·grind
theorem rt_eq{z r:QC}(h:IsRt z r):HasQ z∧rt z=r:=⟨⟨r,h⟩,rt_one (rt_ok ⟨r,h⟩) h⟩
theorem rt_prog{z:QC}{n x y:Rat}(hn:0≤n∧n*n=nm z)(hx:0≤x∧x*x=(n+z.re)*(1 / 2))(hy:0≤y∧y*y=(n - z.re)*(1 / 2)):IsRt z ⟨x,if z.im<0 then -y else y⟩:=by
 obtain⟨hn,en⟩:=hn
 obtain⟨hx,ex⟩:=hx
 obtain⟨hy,ey⟩:=hy
 unfold nm at en
 have e4:(2*(x*y))*(2*(x*y))=z.im*z.im:=by
  have:(2*(x*y))*(2*(x*y))=4*((x*x)*(y*y)):=by grind
  rw[this,ex,ey]; grind
 have hxy:=Rat.mul_nonneg hx hy
 have e5:(if z.im<0 then -(2*(x*y)) else 2*(x*y))=z.im:=by
  split
  ·rename_i hlt
   have:2*(x*y)=-z.im:=sq_inj (by grind) (by grind) (by grind)
   grind
  ·exact sq_inj (by grind) (by grind) e4
 refine⟨qc_ext ?_ ?_,?_⟩
 ·rw[qmr]; simp only; split<;>grind
 ·rw[qmi]; simp only; rw[←e5]; split<;>grind
 ·by_cases h0:x=0
  ·right
   refine⟨h0,?_⟩
   simp only
   have:z.im=0:=by rw[←e5,h0]; split<;>grind
   rw[if_neg (by grind)]; exact hy
  ·left; simp only; grind
theorem rt_prog_iff{z:QC}:HasQ z↔HasR (nm z)∧HasR ((sqr (nm z)+z.re)*(1 / 2))∧HasR ((sqr (nm z) - z.re)*(1 / 2)):=by
 constructor
 ·rintro⟨r,h⟩
  obtain⟨h1,h2⟩:=rt_parts h
  obtain⟨a1,a2,a3⟩:=rt_re h
  refine⟨h2,⟨r.re,rt_re0 h,by rw[h1,a1]⟩,?_⟩
  rcases Rat.nonneg_total r.im with k|k
  ·exact⟨r.im,k,by rw[h1,a2]⟩
  ·exact⟨-r.im,k,by rw[h1,a2]; grind⟩
 ·rintro⟨h1,h2,h3⟩
  exact⟨_,rt_prog (sqr_ok h1) (sqr_ok h2) (sqr_ok h3)⟩
theorem rt_doc{z:QC}{n a:Rat}(hn:0≤n∧n*n=nm z)(ha:0≤a∧a*a=(n+z.re)*(1 / 2)):(a≠0→IsRt z ⟨a,z.im*(1 / 2) / a⟩)∧(a=0→∀ b,0≤b∧b*b=n→IsRt z ⟨a,b⟩)∧(HasQ z→a=0→HasR n):=by
 obtain⟨hn,en⟩:=hn
 obtain⟨ha,ea⟩:=ha
 unfold nm at en
 refine⟨fun h0=>?_,fun h0 b ⟨hb,eb⟩=>?_,?_⟩
 ·have e1:a*(z.im*(1 / 2) / a)=z.im*(1 / 2):=by grind
  have e2:(z.im*(1 / 2) / a)*(z.im*(1 / 2) / a)=(n - z.re)*(1 / 2):=by
   have k:(a*a)*((z.im*(1 / 2) / a)*(z.im*(1 / 2) / a))=(a*a)*((n - z.re)*(1 / 2)):=by
    have:(a*a)*((z.im*(1 / 2) / a)*(z.im*(1 / 2) / a))=(a*(z.im*(1 / 2) / a))*(a*(z.im*(1 / 2) / a)):=by grind
    rw[this,e1,ea]; grind
   have k2:(a*a)*((z.im*(1 / 2) / a)*(z.im*(1 / 2) / a) - (n - z.re)*(1 / 2))=0:=by grind
   rcases Rat.mul_eq_zero.1 k2 with h|h
   ·exact absurd (sq_eq0 h) h0
   ·grind
  refine⟨qc_ext ?_ ?_,.inl ?_⟩
  ·rw[qmr]; simp only; rw[ea,e2]; grind
  ·rw[qmi]; simp only
   generalize z.im*(1 / 2) / a=t at *
   grind
  ·simp only; grind
 ·subst h0
  have e0:n=-z.re:=by grind
  have e1:z.im*z.im=0:=by rw[e0] at en; grind
  have e1:=sq_eq0 e1
  refine⟨qc_ext ?_ ?_,.inr ⟨rfl,hb⟩⟩
  ·rw[qmr]; simp only; grind
  ·rw[qmi]; simp only; grind
 ·rintro⟨r,h⟩ h0
  obtain⟨a1,a2,a3⟩:=rt_re h
  obtain⟨h1,h2⟩:=rt_parts h
  have e:n=nm r:=sq_inj hn (by unfold nm; exact Rat.add_nonneg (sq_nonneg _) (sq_nonneg _)) (by
   have:=(sqr_ok h2).2
   rw[h1] at this
   exact Eq.trans en this.symm)
  have e3:r.re*r.re=0:=by rw[←a1,←e,←ea,h0]; grind
  have e3:=sq_eq0 e3
  have e4:0≤r.im:=by rcases h.2 with k|k<;>grind
  refine⟨r.im,e4,?_⟩
  rw[e]; unfold nm; rw[e3]; grind
theorem self_coprime(r:Rat):Nat.gcd (r.num*r.num).natAbs (r.den*r.den)=1:=by
 rw[Int.natAbs_mul]
 have h:Nat.Coprime r.num.natAbs r.den:=r.reduced
 exact(h.mul_left h).mul_right (h.mul_left h)
theorem sqr_parts{q:Rat}(h:HasR q):q.num=(sqr q).num*(sqr q).num∧q.den=(sqr q).den*(sqr q).den:=by
 have e:=(sqr_ok h).2
 generalize sqr q=r at *
 subst e
 have g:=self_coprime r
 constructor
 ·rw[Rat.num_mul,g]; simp
 ·rw[Rat.den_mul,g]; simp
end Go.Proofs.YtgjkifdilflcbaaGreat
namespace Go.Proofs.YtgjkifdilflcbaaGreat
open Go.RowKit Tr
theorem root_ex(n:Nat):∃ R,R*R≤n∧n<(R+1)*(R+1):=by
 induction n with
 | zero=>exact⟨0,by decide,by decide⟩
 | succ n ih =>
  obtain⟨R,h1,h2⟩:=ih
  by_cases h:n+1<(R+1)*(R+1)
  ·exact⟨R,by omega,h⟩
  ·refine⟨R+1,by omega,?_⟩
   have:(R+1+1)*(R+1+1)=(R+1)*(R+1)+2*R+3:=by rw[Nat.mul_add,Nat.add_mul]; omega
   omega
theorem root_sq{R S n:Nat}(h1:R*R≤n)(h2:n<(R+1)*(R+1))(h:S*S=n):R=S:=by
 subst h
 rcases Nat.lt_trichotomy R S with k|k|k
 ·exact absurd (Nat.mul_le_mul (show R+1≤S from k) (show R+1≤S from k)) (by omega)
 ·exact k
 ·exact absurd (Nat.mul_le_mul (show S+1≤R from k) (show S+1≤R from k)) (by
   have:(S+1)*(S+1)=S*S+2*S+1:=by rw[Nat.mul_add,Nat.add_mul]; omega
   omega)
theorem sqr_roots{q:Rat}(h0:0≤q){R D:Nat}(r1:R*R≤q.num.natAbs)(r2:q.num.natAbs<(R+1)*(R+1))(d1:D*D≤q.den)(d2:q.den<(D+1)*(D+1)) :
  (HasR q↔R*R=q.num.natAbs∧D*D=q.den)∧D≠0∧(HasR q→sqr q=Rat.divInt R D∧(sqr q).num=R∧(sqr q).den=D):=by
 have hD:D≠0:=by
  intro e; subst e
  have:=q.den_nz
  have:q.den<1:=d2
  omega
 have hn:(q.num.natAbs:Int)=q.num:=Int.natAbs_of_nonneg (Rat.num_nonneg.2 h0)
 have key:HasR q→(sqr q).num=R∧(sqr q).den=D:=fun h=>by
  obtain⟨e1,e2⟩:=sqr_parts h
  have hs:0≤(sqr q).num:=Rat.num_nonneg.2 (sqr_nonneg q)
  have e3:(sqr q).num.natAbs*(sqr q).num.natAbs=q.num.natAbs:=by rw[←Int.natAbs_mul,←e1]
  have e4:=root_sq r1 r2 e3
  have e5:=root_sq d1 d2 e2.symm
  exact⟨by rw[e4]; exact(Int.natAbs_of_nonneg hs).symm,e5.symm⟩
 refine⟨⟨fun h=>?_,fun⟨e1,e2⟩=>?_⟩,hD,fun h=>⟨?_,key h⟩⟩
 ·obtain⟨e1,e2⟩:=sqr_parts h
  obtain⟨k1,k2⟩:=key h
  refine⟨?_,by rw[e2,k2]⟩
  rw[e1,k1,Int.natAbs_mul,Int.natAbs_natCast]
 ·refine⟨Rat.divInt R D,?_,?_⟩
  ·exact Rat.divInt_nonneg (Int.natCast_nonneg R) (Int.natCast_nonneg D)
  ·rw[Rat.divInt_mul_divInt]
   conv=>rhs; rw[←Rat.num_divInt_den q]
   rw[←hn,←e1,←e2,Int.natCast_mul,Int.natCast_mul]
 ·obtain⟨k1,k2⟩:=key h
  conv=>lhs; rw[←Rat.num_divInt_den (sqr q)]
  rw[k1,k2]
theorem RL_sqr{q:Rat}{k:Nat}(h:RL q k)(hk:1≤k):RL (sqr q) k:=by
 by_cases hq:HasR q
 ·obtain⟨e1,e2⟩:=sqr_parts hq
  have le:∀ n:Nat,n≤n*n:=fun n=>by rcases n with _|n; exact Nat.le_refl _; exact Nat.le_mul_of_pos_left _ (by omega)
  refine⟨wl_mono ?_ h.1,wl_mono ?_ h.2⟩
  ·rw[e1,Int.natAbs_mul]; exact le _
  ·rw[e2]; exact le _
 ·have:sqr q=0:=by unfold sqr; rw[dif_neg hq]
  rw[this]
  exact⟨by simp[words],Nat.le_trans (words_length_le (k:=1) (by decide)) hk⟩
theorem str_sz{n k:Nat}(h:(words n).length≤k):(strN n).size≤4*k:=by
 rw[size_strN]
 refine byteLE_le (Nat.lt_of_lt_of_le (lt_words n) ?_)
 rw[show(4294967296:Nat)=256 ^ 4 from rfl,←Nat.pow_mul]
 exact Nat.pow_le_pow_right (by decide) (by omega)
end Go.Proofs.YtgjkifdilflcbaaGreat
namespace Go.Proofs.YtgjkifdilflcbaaGreat
open Go.RowKit Tr
theorem scmp(x y:Int)(hx:WL x.natAbs 1073741824)(hy:WL y.natAbs 1073741824):PureC Tryz.prog 75 [encZ x,encZ y] (.int .i64 (cmpI x y)):=by
  have sx:=ssign x
  have sy:=ssign y
  have hu:=gUnder x.natAbs y.natAbs (hx.mono (by decide))
  rcases Int.lt_trichotomy x 0 with h1|h1|h1<;>rcases Int.lt_trichotomy y 0 with h2|h2|h2
  · rw[Int.sign_eq_neg_one_of_neg h1] at sx; rw[Int.sign_eq_neg_one_of_neg h2] at sy
    rcases(by omega:x.natAbs<y.natAbs∨x.natAbs=y.natAbs∨y.natAbs<x.natAbs) with h3|h3|h3
    · rw[show cmpZ x.natAbs y.natAbs=-1 by unfold cmpZ; rw[if_pos (by omega)]] at hu
      rw[show cmpI x y=1 by unfold cmpI; rw[if_neg (by omega),if_pos (by omega)]]
      exact ev_pure (hp := true) (L := cz x ++ cz y ++ [gw (words x.natAbs),gw (words y.natAbs)]) tys_ok mixed
          [gp 78 [.row [.sym 0,.sym 1]] (.r (.c (.lit (.int .i64 (-1))))) eo78 sx rfl rfl,gp 78 [.row [.sym 2,.sym 3]] (.r (.c (.lit (.int .i64 (-1))))) eo78 sy rfl rfl,gm1 124 (.c (.sym 1)) (.r (.c (.sym 4))) eo124 (gWords x.natAbs (hx.mono (by decide))),gm1 124 (.c (.sym 3)) (.r (.c (.sym 5))) eo124 (gWords y.natAbs (hy.mono (by decide))),gm2x 123 (.c (.sym 4)) (.c (.sym 5)) (.r (.c (.lit (.int .i64 (-1))))) eo123 hu] [] []
          Tryz.func75 100 [.row [.sym 0,.sym 1],.row [.sym 2,.sym 3]] (.r (.c (.lit (.int .i64 1)))) (by kernel_rfl) rfl rfl
    · rw[show cmpZ x.natAbs y.natAbs=0 by unfold cmpZ; rw[if_neg (by omega),if_neg (by omega)]] at hu
      rw[show cmpI x y=0 by unfold cmpI; rw[if_neg (by omega),if_neg (by omega)]]
      exact ev_pure (hp := true) (L := cz x ++ cz y ++ [gw (words x.natAbs),gw (words y.natAbs)]) tys_ok mixed
          [gp 78 [.row [.sym 0,.sym 1]] (.r (.c (.lit (.int .i64 (-1))))) eo78 sx rfl rfl,gp 78 [.row [.sym 2,.sym 3]] (.r (.c (.lit (.int .i64 (-1))))) eo78 sy rfl rfl,gm1 124 (.c (.sym 1)) (.r (.c (.sym 4))) eo124 (gWords x.natAbs (hx.mono (by decide))),gm1 124 (.c (.sym 3)) (.r (.c (.sym 5))) eo124 (gWords y.natAbs (hy.mono (by decide))),gm2x 123 (.c (.sym 4)) (.c (.sym 5)) (.r (.c (.lit (.int .i64 0)))) eo123 hu] [] []
          Tryz.func75 100 [.row [.sym 0,.sym 1],.row [.sym 2,.sym 3]] (.r (.c (.lit (.int .i64 0)))) (by kernel_rfl) rfl rfl
    · rw[show cmpZ x.natAbs y.natAbs=1 by unfold cmpZ; rw[if_neg (by omega),if_pos (by omega)]] at hu
      rw[show cmpI x y=-1 by unfold cmpI; rw[if_pos (by omega)]]
      exact ev_pure (hp := true) (L := cz x ++ cz y ++ [gw (words x.natAbs),gw (words y.natAbs)]) tys_ok mixed
          [gp 78 [.row [.sym 0,.sym 1]] (.r (.c (.lit (.int .i64 (-1))))) eo78 sx rfl rfl,gp 78 [.row [.sym 2,.sym 3]] (.r (.c (.lit (.int .i64 (-1))))) eo78 sy rfl rfl,gm1 124 (.c (.sym 1)) (.r (.c (.sym 4))) eo124 (gWords x.natAbs (hx.mono (by decide))),gm1 124 (.c (.sym 3)) (.r (.c (.sym 5))) eo124 (gWords y.natAbs (hy.mono (by decide))),gm2x 123 (.c (.sym 4)) (.c (.sym 5)) (.r (.c (.lit (.int .i64 1)))) eo123 hu] [] []
          Tryz.func75 100 [.row [.sym 0,.sym 1],.row [.sym 2,.sym 3]] (.r (.c (.lit (.int .i64 (-1))))) (by kernel_rfl) rfl rfl
  · rw[Int.sign_eq_neg_one_of_neg h1] at sx; rw[(by rw[h2]; rfl:y.sign=0)] at sy
    rw[show cmpI x y=-1 by unfold cmpI; rw[if_pos (by omega)]]
    exact ev_pure (hp := true) (L := cz x ++ cz y ++ [gw (words x.natAbs),gw (words y.natAbs)]) tys_ok mixed
          [gp 78 [.row [.sym 0,.sym 1]] (.r (.c (.lit (.int .i64 (-1))))) eo78 sx rfl rfl,gp 78 [.row [.sym 2,.sym 3]] (.r (.c (.lit (.int .i64 0)))) eo78 sy rfl rfl] [] []
          Tryz.func75 100 [.row [.sym 0,.sym 1],.row [.sym 2,.sym 3]] (.r (.c (.lit (.int .i64 (-1))))) (by kernel_rfl) rfl rfl
  · rw[Int.sign_eq_neg_one_of_neg h1] at sx; rw[Int.sign_eq_one_of_pos h2] at sy
    rw[show cmpI x y=-1 by unfold cmpI; rw[if_pos (by omega)]]
    exact ev_pure (hp := true) (L := cz x ++ cz y ++ [gw (words x.natAbs),gw (words y.natAbs)]) tys_ok mixed
          [gp 78 [.row [.sym 0,.sym 1]] (.r (.c (.lit (.int .i64 (-1))))) eo78 sx rfl rfl,gp 78 [.row [.sym 2,.sym 3]] (.r (.c (.lit (.int .i64 1)))) eo78 sy rfl rfl] [] []
          Tryz.func75 100 [.row [.sym 0,.sym 1],.row [.sym 2,.sym 3]] (.r (.c (.lit (.int .i64 (-1))))) (by kernel_rfl) rfl rfl
  · rw[(by rw[h1]; rfl:x.sign=0)] at sx; rw[Int.sign_eq_neg_one_of_neg h2] at sy
    rw[show cmpI x y=1 by unfold cmpI; rw[if_neg (by omega),if_pos (by omega)]]
    exact ev_pure (hp := true) (L := cz x ++ cz y ++ [gw (words x.natAbs),gw (words y.natAbs)]) tys_ok mixed
          [gp 78 [.row [.sym 0,.sym 1]] (.r (.c (.lit (.int .i64 0)))) eo78 sx rfl rfl,gp 78 [.row [.sym 2,.sym 3]] (.r (.c (.lit (.int .i64 (-1))))) eo78 sy rfl rfl] [] []
          Tryz.func75 100 [.row [.sym 0,.sym 1],.row [.sym 2,.sym 3]] (.r (.c (.lit (.int .i64 1)))) (by kernel_rfl) rfl rfl
  · rw[(by rw[h1]; rfl:x.sign=0)] at sx; rw[(by rw[h2]; rfl:y.sign=0)] at sy
    rw[show cmpZ x.natAbs y.natAbs=0 by unfold cmpZ; rw[if_neg (by omega),if_neg (by omega)]] at hu
    rw[show cmpI x y=0 by unfold cmpI; rw[if_neg (by omega),if_neg (by omega)]]
    exact ev_pure (hp := true) (L := cz x ++ cz y ++ [gw (words x.natAbs),gw (words y.natAbs)]) tys_ok mixed
          [gp 78 [.row [.sym 0,.sym 1]] (.r (.c (.lit (.int .i64 0)))) eo78 sx rfl rfl,gp 78 [.row [.sym 2,.sym 3]] (.r (.c (.lit (.int .i64 0)))) eo78 sy rfl rfl,gm1 124 (.c (.sym 1)) (.r (.c (.sym 4))) eo124 (gWords x.natAbs (hx.mono (by decide))),gm1 124 (.c (.sym 3)) (.r (.c (.sym 5))) eo124 (gWords y.natAbs (hy.mono (by decide))),gm2x 123 (.c (.sym 4)) (.c (.sym 5)) (.r (.c (.lit (.int .i64 0)))) eo123 hu] [] []
          Tryz.func75 100 [.row [.sym 0,.sym 1],.row [.sym 2,.sym 3]] (.r (.c (.lit (.int .i64 0)))) (by kernel_rfl) rfl rfl
  · rw[(by rw[h1]; rfl:x.sign=0)] at sx; rw[Int.sign_eq_one_of_pos h2] at sy
    rw[show cmpI x y=-1 by unfold cmpI; rw[if_pos (by omega)]]
    exact ev_pure (hp := true) (L := cz x ++ cz y ++ [gw (words x.natAbs),gw (words y.natAbs)]) tys_ok mixed
          [gp 78 [.row [.sym 0,.sym 1]] (.r (.c (.lit (.int .i64 0)))) eo78 sx rfl rfl,gp 78 [.row [.sym 2,.sym 3]] (.r (.c (.lit (.int .i64 1)))) eo78 sy rfl rfl] [] []
          Tryz.func75 100 [.row [.sym 0,.sym 1],.row [.sym 2,.sym 3]] (.r (.c (.lit (.int .i64 (-1))))) (by kernel_rfl) rfl rfl
  · rw[Int.sign_eq_one_of_pos h1] at sx; rw[Int.sign_eq_neg_one_of_neg h2] at sy
    rw[show cmpI x y=1 by unfold cmpI; rw[if_neg (by omega),if_pos (by omega)]]
    exact ev_pure (hp := true) (L := cz x ++ cz y ++ [gw (words x.natAbs),gw (words y.natAbs)]) tys_ok mixed
          [gp 78 [.row [.sym 0,.sym 1]] (.r (.c (.lit (.int .i64 1)))) eo78 sx rfl rfl,gp 78 [.row [.sym 2,.sym 3]] (.r (.c (.lit (.int .i64 (-1))))) eo78 sy rfl rfl] [] []
          Tryz.func75 100 [.row [.sym 0,.sym 1],.row [.sym 2,.sym 3]] (.r (.c (.lit (.int .i64 1)))) (by kernel_rfl) rfl rfl
  · rw[Int.sign_eq_one_of_pos h1] at sx; rw[(by rw[h2]; rfl:y.sign=0)] at sy
    rw[show cmpI x y=1 by unfold cmpI; rw[if_neg (by omega),if_pos (by omega)]]
    exact ev_pure (hp := true) (L := cz x ++ cz y ++ [gw (words x.natAbs),gw (words y.natAbs)]) tys_ok mixed
          [gp 78 [.row [.sym 0,.sym 1]] (.r (.c (.lit (.int .i64 1)))) eo78 sx rfl rfl,gp 78 [.row [.sym 2,.sym 3]] (.r (.c (.lit (.int .i64 0)))) eo78 sy rfl rfl] [] []
          Tryz.func75 100 [.row [.sym 0,.sym 1],.row [.sym 2,.sym 3]] (.r (.c (.lit (.int .i64 1)))) (by kernel_rfl) rfl rfl
  · rw[Int.sign_eq_one_of_pos h1] at sx; rw[Int.sign_eq_one_of_pos h2] at sy
    rcases(by omega:x.natAbs<y.natAbs∨x.natAbs=y.natAbs∨y.natAbs<x.natAbs) with h3|h3|h3
    · rw[show cmpZ x.natAbs y.natAbs=-1 by unfold cmpZ; rw[if_pos (by omega)]] at hu
      rw[show cmpI x y=-1 by unfold cmpI; rw[if_pos (by omega)]]
      exact ev_pure (hp := true) (L := cz x ++ cz y ++ [gw (words x.natAbs),gw (words y.natAbs)]) tys_ok mixed
          [gp 78 [.row [.sym 0,.sym 1]] (.r (.c (.lit (.int .i64 1)))) eo78 sx rfl rfl,gp 78 [.row [.sym 2,.sym 3]] (.r (.c (.lit (.int .i64 1)))) eo78 sy rfl rfl,gm1 124 (.c (.sym 1)) (.r (.c (.sym 4))) eo124 (gWords x.natAbs (hx.mono (by decide))),gm1 124 (.c (.sym 3)) (.r (.c (.sym 5))) eo124 (gWords y.natAbs (hy.mono (by decide))),gm2x 123 (.c (.sym 4)) (.c (.sym 5)) (.r (.c (.lit (.int .i64 (-1))))) eo123 hu] [] []
          Tryz.func75 100 [.row [.sym 0,.sym 1],.row [.sym 2,.sym 3]] (.r (.c (.lit (.int .i64 (-1))))) (by kernel_rfl) rfl rfl
    · rw[show cmpZ x.natAbs y.natAbs=0 by unfold cmpZ; rw[if_neg (by omega),if_neg (by omega)]] at hu
      rw[show cmpI x y=0 by unfold cmpI; rw[if_neg (by omega),if_neg (by omega)]]
      exact ev_pure (hp := true) (L := cz x ++ cz y ++ [gw (words x.natAbs),gw (words y.natAbs)]) tys_ok mixed
          [gp 78 [.row [.sym 0,.sym 1]] (.r (.c (.lit (.int .i64 1)))) eo78 sx rfl rfl,gp 78 [.row [.sym 2,.sym 3]] (.r (.c (.lit (.int .i64 1)))) eo78 sy rfl rfl,gm1 124 (.c (.sym 1)) (.r (.c (.sym 4))) eo124 (gWords x.natAbs (hx.mono (by decide))),gm1 124 (.c (.sym 3)) (.r (.c (.sym 5))) eo124 (gWords y.natAbs (hy.mono (by decide))),gm2x 123 (.c (.sym 4)) (.c (.sym 5)) (.r (.c (.lit (.int .i64 0)))) eo123 hu] [] []
          Tryz.func75 100 [.row [.sym 0,.sym 1],.row [.sym 2,.sym 3]] (.r (.c (.lit (.int .i64 0)))) (by kernel_rfl) rfl rfl
    · rw[show cmpZ x.natAbs y.natAbs=1 by unfold cmpZ; rw[if_neg (by omega),if_pos (by omega)]] at hu
      rw[show cmpI x y=1 by unfold cmpI; rw[if_neg (by omega),if_pos (by omega)]]
      exact ev_pure (hp := true) (L := cz x ++ cz y ++ [gw (words x.natAbs),gw (words y.natAbs)]) tys_ok mixed
          [gp 78 [.row [.sym 0,.sym 1]] (.r (.c (.lit (.int .i64 1)))) eo78 sx rfl rfl,gp 78 [.row [.sym 2,.sym 3]] (.r (.c (.lit (.int .i64 1)))) eo78 sy rfl rfl,gm1 124 (.c (.sym 1)) (.r (.c (.sym 4))) eo124 (gWords x.natAbs (hx.mono (by decide))),gm1 124 (.c (.sym 3)) (.r (.c (.sym 5))) eo124 (gWords y.natAbs (hy.mono (by decide))),gm2x 123 (.c (.sym 4)) (.c (.sym 5)) (.r (.c (.lit (.int .i64 1)))) eo123 hu] [] []
          Tryz.func75 100 [.row [.sym 0,.sym 1],.row [.sym 2,.sym 3]] (.r (.c (.lit (.int .i64 1)))) (by kernel_rfl) rfl rfl
theorem fcmp(x y:Rat)(hx:RL x 134217728)(hy:RL y 134217728):PureC Tryz.prog 34 [encF x,encF y] (.int .i64 (cmpR x y)):=by
  have hc:=scmp (x.num*(y.den:Int)) (y.num*(x.den:Int)) ((WL.mul hx.wn hy.wd.i).mono (by decide)) ((WL.mul hy.wn hx.wd.i).mono (by decide))
  rw[cmpR_int] at hc
  exact ev_pure (hp:=false) (L:=cF (x)++cF (y)++cz (x.num*(y.den:Int))++cz (y.num*(x.den:Int))++[gx (.int .i64 (cmpR x y))]) tys_ok mixed
    [gp 76 [.row [.sym 0,.sym 1],.row [.lit (.bool false),.sym 5]] (.r (.row [.sym 6,.sym 7])) eo76 (stimes_zn _ _ (hx.wn.mono (by decide)) (hy.wd.mono (by decide))) rfl rfl,gp 76 [.row [.sym 3,.sym 4],.row [.lit (.bool false),.sym 2]] (.r (.row [.sym 8,.sym 9])) eo76 (stimes_zn _ _ (hy.wn.mono (by decide)) (hx.wd.mono (by decide))) rfl rfl,gp 75 [.row [.sym 6,.sym 7],.row [.sym 8,.sym 9]] (.r (.c (.sym 10))) eo75 hc rfl rfl]
    [] []
    Tryz.func34 100 [.row [.sym 0,.sym 1,.lit (.bool false),.sym 2],.row [.sym 3,.sym 4,.lit (.bool false),.sym 5]] (.r (.c (.sym 10))) (by kernel_rfl) rfl rfl
theorem fsmall(n d:Int)(h1:-9223372036854775808≤n)(h2:n<9223372036854775808)(h3:-9223372036854775808≤d)(h4:d<9223372036854775808)(h0:d≠0):PureC Tryz.prog 132 [.int .i64 n,.int .i64 d] (encF (Rat.divInt n d)):=by
  have ho:=fof n d h0 (Nat.le_trans (words_length_le (k:=2) (by omega)) (by decide)) (Nat.le_trans (words_length_le (k:=2) (by omega)) (by decide))
  exact ev_pure (hp:=false) (L:=[gx (.int .i64 n),gx (.int .i64 d)]++cz n++cz d++cF (Rat.divInt n d)) tys_ok mixed
    [gp 77 [.c (.sym 0)] (.r (.row [.sym 2,.sym 3])) eo77 (sof n h1 h2) rfl rfl,gp 77 [.c (.sym 1)] (.r (.row [.sym 4,.sym 5])) eo77 (sof d h3 h4) rfl rfl,gp 134 [.row [.sym 2,.sym 3],.row [.sym 4,.sym 5]] (.r (.row [.sym 6,.sym 7,.lit (.bool false),.sym 8])) eo134 ho rfl rfl]
    [] []
    Tryz.func132 100 [.c (.sym 0),.c (.sym 1)] (.r (.row [.sym 6,.sym 7,.lit (.bool false),.sym 8])) (by kernel_rfl) rfl rfl
theorem sroot'(n R k:Nat)(h1:R*R≤n)(h2:n<(R+1)*(R+1))(h:(words n).length≤k)(hk:k≤134217728):PureC Tryz.prog 158 [encZ (n:Int)] (.tuple #[encZ (R:Int),encZ ((n - R*R:Nat):Int)]) :=
 fun w=>sroot_any n R h1 h2 w (by have:=str_sz h; omega) (by omega)
theorem fsqrt_neg(x:Rat)(hx:x<0):PureC Tryz.prog 131 [encF x] (.tuple #[zF,.bool false]):=by
 have hs:x.num.sign<0:=by have:=mt Rat.num_nonneg.1 (Rat.not_le.2 hx); rw[Int.sign_eq_neg_one_of_neg (by omega)]; decide
 exact ev_pure (hp:=false) (L:=cF (x)++[gx (.int .i64 (x.num.sign))]) tys_ok mixed
  [gp 36 [.row [.sym 0,.sym 1,.lit (.bool false),.sym 2]] (.r (.c (.sym 3))) eo36 (fsign x) rfl rfl]
  [gbInt .lss 3 .i64 (.sym 3) (.lit (.int .i64 0)) x.num.sign 0 true (by simp only[cmpB]; rw[decide_eq_true hs]) rfl rfl] []
  Tryz.func131 200 [.row [.sym 0,.sym 1,.lit (.bool false),.sym 2]] (.tup [.row [.lit (.bool false),.lit .str0,.lit (.bool false),.lit .str0],.c (.lit (.bool false))]) (by kernel_rfl) rfl rfl
theorem fsqrt_pos (x : Rat) (hx : 0 ≤ x) (R D a b : Nat) (hr : PureC Tryz.prog 158 [encZ x.num] (.tuple #[encZ (R : Int),encZ (a : Int)])) (hd : PureC Tryz.prog 158 [encN x.den] (.tuple #[encZ (D : Int),encZ (b : Int)])) :
    (a=0→b=0→PureC Tryz.prog 131 [encF x] (.tuple #[.agg #[.bool (decide ((R:Int)<0)),.string (strN (R:Int).natAbs),.bool (decide ((D:Int)<0)),.string (strN (D:Int).natAbs)],.bool true]))∧(¬(a=0∧b=0)→PureC Tryz.prog 131 [encF x] (.tuple #[zF,.bool false])):=by
  have hs:¬x.num.sign<0:=by
    have:=Rat.num_nonneg.2 hx
    rcases(show x.num=0∨0<x.num by omega) with h|h
    · rw[h]; decide
    · rw[Int.sign_eq_one_of_pos h]; decide
  have h3:=ssign (a:Int)
  have h4:=ssign (b:Int)
  refine⟨fun ha hb=>?_,fun hab=>?_⟩
  · exact ev_pure (hp := false) (L := cF (x) ++ [gx (.int .i64 (x.num.sign))] ++ cz (R : Int) ++ cz (a : Int) ++ cz (D : Int) ++ cz (b : Int) ++ [gx (.int .i64 ((a : Int).sign)),gx (.int .i64 ((b : Int).sign))]) tys_ok mixed
      [gp 36 [.row [.sym 0,.sym 1,.lit (.bool false),.sym 2]] (.r (.c (.sym 3))) eo36 (fsign x) rfl rfl,gp 158 [.row [.sym 0,.sym 1]] (.tup [.row [.sym 4,.sym 5],.row [.sym 6,.sym 7]]) eo158 hr rfl rfl,gp 158 [.row [.lit (.bool false),.sym 2]] (.tup [.row [.sym 8,.sym 9],.row [.sym 10,.sym 11]]) eo158 hd rfl rfl,gp 78 [.row [.sym 6,.sym 7]] (.r (.c (.sym 12))) eo78 h3 rfl rfl,gp 78 [.row [.sym 10,.sym 11]] (.r (.c (.sym 13))) eo78 h4 rfl rfl]
      [gbInt .lss 3 .i64 (.sym 3) (.lit (.int .i64 0)) x.num.sign 0 false (by simp only[cmpB]; rw[decide_eq_false hs]) rfl rfl,gbInt .neq 3 .i64 (.sym 12) (.lit (.int .i64 0)) (a:Int).sign 0 false (by subst ha; rfl) rfl rfl,gbInt .neq 3 .i64 (.sym 13) (.lit (.int .i64 0)) (b:Int).sign 0 false (by subst hb; rfl) rfl rfl] []
      Tryz.func131 200 [.row [.sym 0,.sym 1,.lit (.bool false),.sym 2]] (.tup [.row [.sym 4,.sym 5,.sym 8,.sym 9],.c (.lit (.bool true))]) (by kernel_rfl) rfl rfl
  · by_cases ha:a=0
    · have hb:b≠0:=fun h=>hab ⟨ha,h⟩
      exact ev_pure (hp:=false) (L:=cF (x)++[gx (.int .i64 (x.num.sign))]++cz (R:Int)++cz (a:Int)++cz (D:Int)++cz (b:Int)++[gx (.int .i64 ((a:Int).sign)),gx (.int .i64 ((b:Int).sign))]) tys_ok mixed
        [gp 36 [.row [.sym 0,.sym 1,.lit (.bool false),.sym 2]] (.r (.c (.sym 3))) eo36 (fsign x) rfl rfl,gp 158 [.row [.sym 0,.sym 1]] (.tup [.row [.sym 4,.sym 5],.row [.sym 6,.sym 7]]) eo158 hr rfl rfl,gp 158 [.row [.lit (.bool false),.sym 2]] (.tup [.row [.sym 8,.sym 9],.row [.sym 10,.sym 11]]) eo158 hd rfl rfl,gp 78 [.row [.sym 6,.sym 7]] (.r (.c (.sym 12))) eo78 h3 rfl rfl,gp 78 [.row [.sym 10,.sym 11]] (.r (.c (.sym 13))) eo78 h4 rfl rfl]
        [gbInt .lss 3 .i64 (.sym 3) (.lit (.int .i64 0)) x.num.sign 0 false (by simp only[cmpB]; rw[decide_eq_false hs]) rfl rfl,gbInt .neq 3 .i64 (.sym 12) (.lit (.int .i64 0)) (a:Int).sign 0 false (by subst ha; rfl) rfl rfl,gbInt .neq 3 .i64 (.sym 13) (.lit (.int .i64 0)) (b:Int).sign 0 true (by rw[Int.sign_eq_one_of_pos (by omega)]; rfl) rfl rfl] []
        Tryz.func131 200 [.row [.sym 0,.sym 1,.lit (.bool false),.sym 2]] (.tup [.row [.lit (.bool false),.lit .str0,.lit (.bool false),.lit .str0],.c (.lit (.bool false))]) (by kernel_rfl) rfl rfl
    · exact ev_pure (hp := false) (L := cF (x) ++ [gx (.int .i64 (x.num.sign))] ++ cz (R : Int) ++ cz (a : Int) ++ cz (D : Int) ++ cz (b : Int) ++ [gx (.int .i64 ((a : Int).sign)),gx (.int .i64 ((b : Int).sign))]) tys_ok mixed
        [gp 36 [.row [.sym 0,.sym 1,.lit (.bool false),.sym 2]] (.r (.c (.sym 3))) eo36 (fsign x) rfl rfl,gp 158 [.row [.sym 0,.sym 1]] (.tup [.row [.sym 4,.sym 5],.row [.sym 6,.sym 7]]) eo158 hr rfl rfl,gp 158 [.row [.lit (.bool false),.sym 2]] (.tup [.row [.sym 8,.sym 9],.row [.sym 10,.sym 11]]) eo158 hd rfl rfl,gp 78 [.row [.sym 6,.sym 7]] (.r (.c (.sym 12))) eo78 h3 rfl rfl]
        [gbInt .lss 3 .i64 (.sym 3) (.lit (.int .i64 0)) x.num.sign 0 false (by simp only[cmpB]; rw[decide_eq_false hs]) rfl rfl,gbInt .neq 3 .i64 (.sym 12) (.lit (.int .i64 0)) (a:Int).sign 0 true (by rw[Int.sign_eq_one_of_pos (by omega)]; rfl) rfl rfl] []
        Tryz.func131 200 [.row [.sym 0,.sym 1,.lit (.bool false),.sym 2]] (.tup [.row [.lit (.bool false),.lit .str0,.lit (.bool false),.lit .str0],.c (.lit (.bool false))]) (by kernel_rfl) rfl rfl
theorem fsqrt(x:Rat)(hx:RL x 134217728):(HasR x→PureC Tryz.prog 131 [encF x] (.tuple #[encF (sqr x),.bool true]))∧(¬HasR x→PureC Tryz.prog 131 [encF x] (.tuple #[zF,.bool false])):=by
 by_cases h0:0≤x
 ·obtain⟨R,r1,r2⟩:=root_ex x.num.natAbs
  obtain⟨D,d1,d2⟩:=root_ex x.den
  obtain⟨e1,e2,e3⟩:=sqr_roots h0 r1 r2 d1 d2
  have hr:=sroot' x.num.natAbs R _ r1 r2 hx.1 (Nat.le_refl _)
  have hd:=sroot' x.den D _ d1 d2 hx.2 (Nat.le_refl _)
  rw[Int.natAbs_of_nonneg (Rat.num_nonneg.2 h0)] at hr
  rw[encZ_nat] at hd
  obtain⟨k1,k2⟩:=fsqrt_pos x h0 R D _ _ hr hd
  refine⟨fun h=>?_,fun h=>k2 (fun hab=>h (e1.2 ⟨by omega,by omega⟩))⟩
  obtain⟨f1,f2⟩:=e1.1 h
  obtain⟨_,g1,g2⟩:=e3 h
  have:=k1 (by omega) (by omega)
  have e0:encF (sqr x)=.agg #[.bool (decide ((R:Int)<0)),.string (strN (R:Int).natAbs),.bool (decide ((D:Int)<0)),.string (strN (D:Int).natAbs)]:=by
   unfold encF; rw[g1,g2]; simp
  rw[e0]; exact this
 ·have h1:x<0:=Rat.not_le.1 h0
  exact⟨fun⟨r,h2,h3⟩=>absurd (h3▸Rat.mul_nonneg h2 h2) h0,fun _=>fsqrt_neg x h1⟩
end Go.Proofs.YtgjkifdilflcbaaGreat
