/- Laws for the walk. -/
import Derived.Test.YtjlhiaafnpompaaGreatYav
import Derived.Test.YtjlhiaafnpompaaGreatYaw
set_option linter.unusedVariables false
set_option maxHeartbeats 4000000
namespace Tr
theorem newton_step{x r:Nat}(hr:0<r):x<((x / r+r) / 2+1)*((x / r+r) / 2+1):=by
 obtain⟨q,hq⟩:∃ q,q=x / r:=⟨_,rfl⟩
 have h1:x<(q+1)*r:=by
  rw[hq]
  have:=Nat.div_add_mod x r
  have h2:=Nat.mod_lt x hr
  rw[Nat.add_mul,Nat.one_mul,Nat.mul_comm]; omega
 rw[←hq]
 obtain⟨s,hs⟩:∃ s,s=(q+r) / 2+1:=⟨_,rfl⟩
 rw[←hs]
 have h2:q+r+1≤2*s:=by omega
 have h3:(q+r+1)*(q+r+1)≤(2*s)*(2*s):=Nat.mul_le_mul h2 h2
 have h4:4*((q+1)*r)≤(q+r+1)*(q+r+1):=by
  have key:∀ a b:Nat,4*(a*b)≤(a+b)*(a+b):=fun a b=>by
   rcases Nat.le_total a b with h|h
   ·obtain⟨d,rfl⟩:=Nat.exists_eq_add_of_le h
    have:(a+(a+d))*(a+(a+d))=4*(a*(a+d))+d*d:=by
     simp only[Nat.mul_add,Nat.add_mul,Nat.mul_comm d a]; omega
    omega
   ·obtain⟨d,rfl⟩:=Nat.exists_eq_add_of_le h
    have:(b+d+b)*(b+d+b)=4*((b+d)*b)+d*d:=by
     simp only[Nat.mul_add,Nat.add_mul,Nat.mul_comm d b]; omega
    omega
  have:=key (q+1) r
  rw[show q+1+r=q+r+1 by omega] at this
  exact this
 have h5:(2*s)*(2*s)=4*(s*s):=by
  rw[Nat.mul_mul_mul_comm]
 omega
theorem newton_end{x r:Nat}(h:r≤(x / r+r) / 2):r*r≤x:=by
 have h1:r≤x / r:=by omega
 exact Nat.le_trans (Nat.mul_le_mul_right r h1) (Nat.div_mul_le_self x r)
theorem newton_pos{x r:Nat}(hx:0<x)(hr:0<r):0<(x / r+r) / 2:=by
 by_cases h:r=1
 ·subst h; rw[Nat.div_one]; omega
 ·generalize x / r=q
  omega
theorem newton_first{x N:Nat}(h:x<2 ^ N):x<(2 ^ (N / 2+1)+1)*(2 ^ (N / 2+1)+1):=by
 have h1:(2:Nat) ^ N≤2 ^ (N / 2+1)*2 ^ (N / 2+1):=by
  rw[←Nat.pow_add]; exact Nat.pow_le_pow_right (by decide) (by omega)
 have h2:2 ^ (N / 2+1)*2 ^ (N / 2+1)≤(2 ^ (N / 2+1)+1)*(2 ^ (N / 2+1)+1):=Nat.mul_le_mul (by omega) (by omega)
 omega
theorem root_one{x a b:Nat}(h1:a*a≤x)(h2:x<(a+1)*(a+1))(h3:b*b≤x)(h4:x<(b+1)*(b+1)):a=b:=by
 rcases Nat.lt_trichotomy a b with h|h|h
 ·have:=Nat.mul_le_mul (show a+1≤b from h) (show a+1≤b from h); omega
 ·exact h
 ·have:=Nat.mul_le_mul (show b+1≤a from h) (show b+1≤a from h); omega
end Tr
namespace Go.Proofs.YtjlhiaafnpompaaGreat
open Go.RowKit Tr
def OwnI(B:Nat)(z:Int)(w:World):Prop:=∃ C,w.heap[B]?=some (.cells C 127 (0,0))∧0+1<C.size∧NoW (.cells C 127 (0,0))∧IntP z (.pointer (some ⟨B,0,none⟩)) w NoA
theorem Put.own{B:Nat}{C:Array Value}{z:Int}{w w':World}(h:Put B 0 C 127 z w w')(ho:0+1<C.size)(hC:NoW (.cells C 127 (0,0))):OwnI B z w':=by
 have h1:=h.intP ho (A:=NoA) (fun _ h=>h.elim)
 obtain⟨h2,sl,h3,h4⟩:=h
 obtain⟨p,cap,rfl,_,_⟩:=id h4
 refine⟨_,h3,by simpa using ho,?_,h1.noA⟩
 intro cs T' fr e i k x hx
 cases e
 rw[Array.getElem?_setIfInBounds] at hx
 split at hx
 ·first|(split at hx<;>simp at hx; done)|(simp at hx; done)
 ·rw[Array.getElem?_setIfInBounds] at hx
  split at hx
  ·first|(split at hx<;>simp at hx; done)|(simp at hx; done)
  ·exact hC C _ (0,0) rfl i k x hx
theorem wsl_nil(w:World):WSl w (.slice none 0 0) []:=⟨none,0,rfl,Nat.le_refl _,fun h=>absurd rfl h⟩
theorem len_of_lt{n k:Nat}(h:n<4294967296 ^ k)(hk:k<274877906944):(words n).length<274877906944:=Nat.lt_of_le_of_lt (words_length_le h) hk
theorem sum_lt{a b i j:Nat}(h:a<4294967296 ^ i)(k:b<4294967296 ^ j):a+b<4294967296 ^ (i+j+1):=by
 have h1:4294967296 ^ i≤4294967296 ^ (i+j):=Nat.pow_le_pow_right (by decide) (by omega)
 have h2:4294967296 ^ j≤4294967296 ^ (i+j):=Nat.pow_le_pow_right (by decide) (by omega)
 rw[Nat.pow_succ]; omega
theorem shl_lt(k:Nat):2 ^ k<4294967296 ^ (k / 32+1):=by
 rw[show(4294967296:Nat)=2 ^ 32 by decide,←Nat.pow_mul]
 exact Nat.pow_lt_pow_right (by decide) (by omega)
theorem Sqrt_any(m o:Nat)(C:Array Value)(T:TypeId)(x R:Nat)(h1:R*R≤x)(h2:x<(R+1)*(R+1))(vx:Value)(A:Nat→Prop)(w:World)(hm:w.heap[m]?=some (.cells C T (0,0)))(ho:o+1<C.size)(hC:NoW (.cells C T (0,0)))(hx:IntP (x:Int) vx w A)(hn:(words x).length<1073741824) :
  Calls Tryz.prog 128 #[.pointer (some ⟨m,o,none⟩),vx] w fun e w'=>e=.returned (.pointer (some ⟨m,o,none⟩))∧Put m o C T (R:Int) w w':=by
 have hmlt:m<w.heap.size:=(Array.getElem?_eq_some_iff.1 hm).1
 have hsign:=Sign_any (x:Int) vx A w hx
 have HS:=Lib.hid hsign
 clear hsign
 by_cases hz:x=0
 ·have hR:R=0:=by
   rcases Nat.eq_zero_or_pos R with h|h
   ·exact h
   ·have:=Nat.mul_le_mul h h; omega
  subst hR
  have his:=is_put m o C T false [] (.slice none 0 0) w 0 hm ho hC wok_nil (wsl_nil w) (by simp) (by simp[wv]) (by simp)
  have HI:=Lib.hid his
  have e0:(x:Int).sign=0:=by rw[hz]; rfl
  have HE:=Lib.hid e0
  clear his hm hC hx e0
  go_enter Tryz.func128,Tryz.ntmps128
  go_wp2_with (first
   | (go_at_call 74; refine HS.out.mono ?_; rintro e w' ⟨rfl,rfl⟩; rw[HE.out])
   | (go_at_call 108; refine HI.out.mono ?_; rintro e w' ⟨rfl,hp⟩))
  go_ret
  exact⟨rfl,hp⟩
 ·have hpos:0<x:=Nat.pos_of_ne_zero hz
  have e1:(x:Int).sign=1:=Int.sign_eq_one_of_pos (by omega)
  have hx0:IntP (x:Int) vx w NoA:=hx.noA
  have hbit:=fun(w1:World) (hb:Below w.heap.size w w1)=>BitLen_any (x:Int) vx NoA w1 (hx0.below hb) (by rw[show((x:Int)).natAbs=x from rfl]; omega)
  have HB:=Lib.hid hbit
  have HE:=Lib.hid e1
  have HM:=Lib.hid (And.intro hm hC)
  have HX:=Lib.hid hx0
  have HN:=Lib.hid hn
  clear hm hC hx hx0 e1 hbit hn hz
  go_enter Tryz.func128,Tryz.ntmps128
  go_wp2_with (first
   | (go_at_call 74; refine HS.out.mono ?_; rintro e w' ⟨rfl,rfl⟩; rw[HE.out])
   | (go_at_call 73; refine(newInt_any 1 (by decide) (by decide) _).mono ?_; rintro e w2 ⟨v1,rfl,hv1⟩))
  have hb2:Below w.heap.size w w2:=(br.alloc (Nat.le_refl _) _).trans (hv1.1.mono (by simp))
  refine(HB.out w2 hb2).mono ?_
  rintro e w3 ⟨N,rfl,hN,hN2,hb3⟩
  have e2:(N:Int).tdiv 2=((N / 2:Nat):Int):=by rw[Int.tdiv_eq_ediv_of_nonneg (by omega)]; omega
  have hN3:N<34359738368:=by
   have:=HN.out
   rw[show((x:Int)).natAbs=x from rfl] at hN2; omega
  have e3:IntKind.u64.wrap (((N / 2:Nat):Int)+1)=((N / 2+1:Nat):Int):=by rw[IntKind.wrap_u64]; omega
  have e4:IntKind.i64.wrap (((N / 2:Nat):Int)+1)=((N / 2:Nat):Int)+1:=by rw[IntKind.wrap_i64]; omega
  go_wp2_with fail
  have e5:((N:Int) / 2+1)=((N / 2+1:Nat):Int):=by omega
  rw[e5]
  have k1:w2.heap[w.heap.size]?=some (.cells #[.bool false,.slice none 0 0] 127 (0,0)):=(hv1.1.block _ (by simp)).trans (heap_alloc_new w _)
  have k2:=(hb3.block w.heap.size (Array.getElem?_eq_some_iff.1 k1).1).trans k1
  have hi1:IntP (1:Int) v1 w3 NoA:=(hv1.2 NoA (fun _ h=>h.elim)).below hb3
  have hsl:=shl_lt (N / 2+1)
  refine(Lsh_any w.heap.size 0 _ _ (1:Int) v1 (N / 2+1) NoA w3 k2 (by decide) noW_zInt hi1 (by rw[show(1:Int).natAbs=1 from rfl]; exact len_of_lt (k:=1) (by decide) (by decide)) (by omega) (by
   rw[show(1:Int).natAbs=1 from rfl,Nat.one_mul]
   exact Nat.lt_of_le_of_lt (words_length_le hsl) (by omega))).mono ?_
  rintro e w4 ⟨rfl,hp4⟩
  obtain⟨C4,_,_,_,hi4⟩:=hp4.own (by decide) noW_zInt
  rw[Int.one_mul,show(2:Int) ^ (N / 2+1)=((2 ^ (N / 2+1):Nat):Int) by simp] at hi4
  have hb4:Below w.heap.size w w4:=(hb2.trans (hb3.mono hb2.size)).trans (hp4.1.below (Nat.le_refl _) (Nat.le_trans hb2.size hb3.size))
  have hf:=newton_first (x:=x) hN.out.1
  have hK:N / 2<17179869184:=by omega
  obtain⟨K,hKe⟩:∃ K,K=(N / 2+1) / 32+1:=⟨_,rfl⟩
  have hK2:K<536870914:=by omega
  rw[←hKe] at hsl
  obtain⟨g0,hg0⟩:∃ g0,g0=2 ^ (N / 2+1):=⟨_,rfl⟩
  have hg1:0<g0:=by rw[hg0]; exact Nat.two_pow_pos _
  rw[←hg0] at hf hsl hi4
  have HF:=Lib.hid (And.intro hf (And.intro hsl hg1))
  clear hf hsl hN hp4 hi1 k1 k2 hv1 hb3 hb2 e3 e4 e5 e2 hK hKe hg0 hg1 hN2 hN3
  go_wp2_with fail
  go_loopg [5,6] g0 (fun g p q wr=>IntP (g:Int) p wr NoA∧Hid (0<g)∧Hid (x<(g+1)*(g+1))∧Hid (g<4294967296 ^ K)∧Below w.heap.size w wr)
  case atStart=>exact⟨hi4,Lib.hid HF.out.2.2,Lib.hid HF.out.1,Lib.hid HF.out.2.1,hb4⟩
  case round =>
   obtain⟨hr,hg,hf,hl,hB⟩:=hrel
   have hxb:∀{w1:World},Below w.heap.size w w1→IntP (x:Int) vx w1 NoA:=fun h=>HX.out.below h
   have hlx:(words ((x:Int)).natAbs).length<274877906944:=by have:=HN.out; rw[show((x:Int)).natAbs=x from rfl]; omega
   have hlg:(words ((gk:Int)).natAbs).length<274877906944:=len_of_lt hl.out (by omega)
   have hq:x / gk<4294967296 ^ (words x).length:=Nat.lt_of_le_of_lt (Nat.div_le_self _ _) (lt_words x)
   have hsum:=sum_lt hq hl.out
   have hlq:=len_of_lt hq (by have:=HN.out; omega)
   have hls:=len_of_lt hsum (by have:=HN.out; omega)
   have hlr:(words ((x / gk+gk) / 2 ^ 1)).length<274877906944:=len_of_lt (Nat.lt_of_le_of_lt (Nat.div_le_self _ _) hsum) (by have:=HN.out; omega)
   have hsK:(x / gk+gk) / 2 ^ 1<gk→(x / gk+gk) / 2 ^ 1<4294967296 ^ K:=fun h=>Nat.lt_trans h hl.out
   have hstep:=newton_step (x:=x) hg.out
   have hspos:=newton_pos hpos hg.out
   have hend:=newton_end (x:=x) (r:=gk)
   obtain⟨s,hs⟩:∃ s,s=(x / gk+gk) / 2 ^ 1:=⟨_,rfl⟩
   rw[show(x / gk+gk) / 2=s by rw[hs]] at hstep hspos hend
   rw[←hs] at hlr hsK
   have HS2:=Lib.hid hs
   have HL:=Lib.hid (And.intro hlx (And.intro hlg (And.intro hlq (And.intro hls hlr))))
   have HW:=Lib.hid (And.intro hstep (And.intro hspos (And.intro hend hsK)))
   have HG:=Lib.hid (show(gk:Int)≠0 by have:=hg.out; omega)
   clear hq hsum hlx hlg hlq hls hlr hsK hstep hspos hend hs
   go_wp2_with fail
   have hb0:Below wr.heap.size wr (wr.alloc (.cells #[.bool false,.slice none 0 0] 127)):=br.alloc (Nat.le_refl _) _
   refine(Quo_any wr.heap.size 0 _ _ (x:Int) (gk:Int) HG.out vx u5 NoA _ (heap_alloc_new wr _) (by decide) noW_zInt (hxb (hB.trans (hb0.mono hB.size))) (hr.below hb0) HL.out.1).mono ?_
   rintro e w5 ⟨rfl,hp5⟩
   rw[show((x:Int)).tdiv (gk:Int)=((x / gk:Nat):Int) from rfl] at hp5
   obtain⟨C5,a1,a2,a3,a4⟩:=hp5.own (by decide) noW_zInt
   have hb5:Below wr.heap.size wr w5:=hb0.trans (hp5.1.below (Nat.le_refl _) hb0.size)
   go_wp2_with fail
   refine(Add_any wr.heap.size 0 C5 _ ((x / gk:Nat):Int) (gk:Int) _ u5 NoA w5 a1 a2 a3 a4 (hr.below hb5) HL.out.2.2.1 HL.out.2.1).mono ?_
   rintro e w6 ⟨rfl,hp6⟩
   rw[show((x / gk:Nat):Int)+(gk:Int)=((x / gk+gk:Nat):Int) by omega] at hp6
   obtain⟨C6,c1,c2,c3,c4⟩:=hp6.own a2 a3
   have hb6:Below wr.heap.size wr w6:=hb5.trans (hp6.1.below (Nat.le_refl _) hb5.size)
   go_wp2_with fail
   refine(Rsh_any wr.heap.size 0 C6 _ (x / gk+gk) _ 1 NoA w6 c1 c2 c3 c4 HL.out.2.2.2.1 (by decide)).mono ?_
   rintro e w7 ⟨rfl,hp7⟩
   rw[←HS2.out] at hp7
   obtain⟨C7,d1,d2,d3,d4⟩:=hp7.own c2 c3
   have hb7:Below wr.heap.size wr w7:=hb6.trans (hp7.1.below (Nat.le_refl _) hb6.size)
   clear hp5 hp6 hp7 a1 a2 a3 a4 c1 c2 c3 c4
   go_wp2_with fail
   refine(Cmp_any (s:Int) (gk:Int) _ u5 NoA w7 d4 (hr.below hb7) HL.out.2.2.2.2 HL.out.2.1).mono ?_
   rintro e w8 ⟨rfl,hb8⟩
   have hb9:Below wr.heap.size wr w8:=hb7.trans (hb8.mono hb7.size)
   by_cases hc:s<gk
   ·rw[show cmpI (s:Int) (gk:Int)=-1 by unfold cmpI; rw[if_pos (by omega)]]
    go_wp2_with fail
    go_roundg s
    case rel=>exact⟨d4.below hb8,Lib.hid HW.out.2.1,Lib.hid HW.out.1,Lib.hid (HW.out.2.2.2 hc),hB.trans (hb9.mono hB.size)⟩
    case measure=>exact hc
   ·have hR:gk=R:=root_one (HW.out.2.2.1 (by omega)) hf.out h1 h2
    have hset:=set_any m o C T (gk:Int) u5 NoA w8 ((hb9.block m (by have:=hB.size; omega)).trans ((hB.block m hmlt).trans HM.out.1)) ho HM.out.2 (hr.below hb9) HL.out.2.1
    have HT:=Lib.hid hset
    have hfin:Below w.heap.size w w8:=hB.trans (hb9.mono hB.size)
    clear hset d1 d2 d3 d4 hr
    by_cases hc2:gk<s
    ·rw[show cmpI (s:Int) (gk:Int)=1 by unfold cmpI; rw[if_neg (by omega),if_pos (by omega)]]
     go_wp2_with (go_at_call 122; refine HT.out.mono ?_; rintro e w9 ⟨rfl,hp9⟩)
     go_ret
     rw[hR] at hp9
     exact⟨rfl,hp9.below hfin⟩
    ·rw[show cmpI (s:Int) (gk:Int)=0 by unfold cmpI; rw[if_neg (by omega),if_neg (by omega)]]
     go_wp2_with (go_at_call 122; refine HT.out.mono ?_; rintro e w9 ⟨rfl,hp9⟩)
     go_ret
     rw[hR] at hp9
     exact⟨rfl,hp9.below hfin⟩
end Go.Proofs.YtjlhiaafnpompaaGreat
namespace Tr
end Tr
namespace Go.Proofs.YtjlhiaafnpompaaGreat
open Go.RowKit Tr
end Go.Proofs.YtjlhiaafnpompaaGreat
namespace Go.Proofs.YtjlhiaafnpompaaGreat
open Go.RowKit Tr
theorem sq_inj{a b:Rat}(ha:0≤a)(hb:0≤b)(h:a*a=b*b):a=b:=by
 have h1:(a - b)*(a+b)=0:=by grind
 rcases Rat.mul_eq_zero.1 h1 with h|h
 ·grind
 ·have h2:a=0:=by grind
  grind
def HasR(q:Rat):Prop:=∃ r,0≤r∧r*r=q
open Classical in
noncomputable def sqr(q:Rat):Rat:=if h:HasR q then h.choose else 0
theorem sqr_ok{q:Rat}(h:HasR q):0≤sqr q∧sqr q*sqr q=q:=by
 unfold sqr; rw[dif_pos h]; exact h.choose_spec
theorem sqr_eq{q r:Rat}(h0:0≤r)(h:r*r=q):HasR q∧sqr q=r:=by
 have hh:HasR q:=⟨r,h0,h⟩
 exact⟨hh,sq_inj (sqr_ok hh).1 h0 ((sqr_ok hh).2.trans h.symm)⟩
theorem sqr_nonneg(q:Rat):0≤sqr q:=by
 unfold sqr; split
 ·rename_i h; exact h.choose_spec.1
 ·exact Rat.le_refl
def IsRt(z r:QC):Prop:=r*r=z∧(0<r.re∨r.re=0∧0≤r.im)
def HasQ(z:QC):Prop:=∃ r,IsRt z r
open Classical in
noncomputable def rt(z:QC):QC:=if h:HasQ z then h.choose else⟨0,0⟩
theorem rt_ok{z:QC}(h:HasQ z):IsRt z (rt z):=by
 unfold rt; rw[dif_pos h]; exact h.choose_spec
def nm(z:QC):Rat:=z.re*z.re+z.im*z.im
theorem rt_parts{z r:QC}(h:IsRt z r):sqr (nm z)=nm r∧HasR (nm z):=by
 obtain⟨h1,h2⟩:=h
 have e:nm r*nm r=nm z:=by rw[←h1]; unfold nm; simp only[qmr,qmi]; grind
 have:=sqr_eq (r:=nm r) (by unfold nm; exact Rat.add_nonneg (sq_nonneg _) (sq_nonneg _)) e
 exact⟨this.2,this.1⟩
theorem rt_re{z r:QC}(h:IsRt z r):(nm r+z.re)*(1 / 2)=r.re*r.re∧(nm r - z.re)*(1 / 2)=r.im*r.im∧z.im=2*(r.re*r.im):=by
 obtain⟨h1,h2⟩:=h
 rw[←h1]
 simp only[nm,qmr,qmi]
 refine⟨?_,?_,?_⟩<;>grind
theorem rt_re0{z r:QC}(h:IsRt z r):0≤r.re:=by rcases h.2 with h|h<;>grind
theorem rt_one{z r s:QC}(h:IsRt z r)(k:IsRt z s):r=s:=by
 have e:nm r=nm s:=(rt_parts h).1.symm.trans (rt_parts k).1
 obtain⟨a1,a2,a3⟩:=rt_re h
 obtain⟨b1,b2,b3⟩:=rt_re k
 have e1:r.re=s.re:=sq_inj (rt_re0 h) (rt_re0 k) (by rw[←a1,←b1,e])
 refine qc_ext e1 ?_
 have e2:r.im*r.im=s.im*s.im:=by rw[←a2,←b2,e]
 have hr:=h.2
 have hs:=k.2
 by_cases h0:s.re=0
 ·have h0r:r.re=0:=e1.trans h0
  exact sq_inj (by grind) (by grind) e2
 ·have h3:s.re*(r.im - s.im)=0:=by grind
  rcases Rat.mul_eq_zero.1 h3 with h|h
  ·exact absurd h h0
  ·grind
theorem rt_eq{z r:QC}(h:IsRt z r):HasQ z∧rt z=r:=⟨⟨r,h⟩,rt_one (rt_ok ⟨r,h⟩) h⟩
theorem rt_prog{z:QC}{n x y:Rat}(hn:0≤n∧n*n=nm z)(hx:0≤x∧x*x=(n+z.re)*(1 / 2))(hy:0≤y∧y*y=(n - z.re)*(1 / 2)):IsRt z ⟨x,if z.im<0 then -y else y⟩:=by
 obtain⟨hn,en⟩:=hn
 obtain⟨hx,ex⟩:=hx
 obtain⟨hy,ey⟩:=hy
 unfold nm at en
 have e4:(2*(x*y))*(2*(x*y))=z.im*z.im:=by
  have:(2*(x*y))*(2*(x*y))=4*((x*x)*(y*y)):=by grind
  rw[this,ex,ey]; grind
 have hxy:=Rat.mul_nonneg hx hy
 have e5:(if z.im<0 then -(2*(x*y)) else 2*(x*y))=z.im:=by
  split
  ·rename_i hlt
   have:2*(x*y)=-z.im:=sq_inj (by grind) (by grind) (by grind)
   grind
  ·exact sq_inj (by grind) (by grind) e4
 refine⟨qc_ext ?_ ?_,?_⟩
 ·rw[qmr]; simp only; split<;>grind
 ·rw[qmi]; simp only; rw[←e5]; split<;>grind
 ·by_cases h0:x=0
  ·right
   refine⟨h0,?_⟩
   simp only
   have:z.im=0:=by rw[←e5,h0]; split<;>grind
   rw[if_neg (by grind)]; exact hy
  ·left; simp only; grind
theorem rt_prog_iff{z:QC}:HasQ z↔HasR (nm z)∧HasR ((sqr (nm z)+z.re)*(1 / 2))∧HasR ((sqr (nm z) - z.re)*(1 / 2)):=by
 constructor
 ·rintro⟨r,h⟩
  obtain⟨h1,h2⟩:=rt_parts h
  obtain⟨a1,a2,a3⟩:=rt_re h
  refine⟨h2,⟨r.re,rt_re0 h,by rw[h1,a1]⟩,?_⟩
  rcases Rat.nonneg_total r.im with k|k
  ·exact⟨r.im,k,by rw[h1,a2]⟩
  ·exact⟨-r.im,k,by rw[h1,a2]; grind⟩
 ·rintro⟨h1,h2,h3⟩
  exact⟨_,rt_prog (sqr_ok h1) (sqr_ok h2) (sqr_ok h3)⟩
theorem self_coprime(r:Rat):Nat.gcd (r.num*r.num).natAbs (r.den*r.den)=1:=by
 rw[Int.natAbs_mul]
 have h:Nat.Coprime r.num.natAbs r.den:=r.reduced
 exact(h.mul_left h).mul_right (h.mul_left h)
theorem sqr_parts{q:Rat}(h:HasR q):q.num=(sqr q).num*(sqr q).num∧q.den=(sqr q).den*(sqr q).den:=by
 have e:=(sqr_ok h).2
 generalize sqr q=r at *
 subst e
 have g:=self_coprime r
 constructor
 ·rw[Rat.num_mul,g]; simp
 ·rw[Rat.den_mul,g]; simp
end Go.Proofs.YtjlhiaafnpompaaGreat
namespace Go.Proofs.YtjlhiaafnpompaaGreat
open Go.RowKit Tr
theorem root_ex(n:Nat):∃ R,R*R≤n∧n<(R+1)*(R+1):=by
 induction n with
 | zero=>exact⟨0,by decide,by decide⟩
 | succ n ih =>
  obtain⟨R,h1,h2⟩:=ih
  by_cases h:n+1<(R+1)*(R+1)
  ·exact⟨R,by omega,h⟩
  ·refine⟨R+1,by omega,?_⟩
   have:(R+1+1)*(R+1+1)=(R+1)*(R+1)+2*R+3:=by rw[Nat.mul_add,Nat.add_mul]; omega
   omega
theorem root_sq{R S n:Nat}(h1:R*R≤n)(h2:n<(R+1)*(R+1))(h:S*S=n):R=S:=by
 subst h
 rcases Nat.lt_trichotomy R S with k|k|k
 ·exact absurd (Nat.mul_le_mul (show R+1≤S from k) (show R+1≤S from k)) (by omega)
 ·exact k
 ·exact absurd (Nat.mul_le_mul (show S+1≤R from k) (show S+1≤R from k)) (by
   have:(S+1)*(S+1)=S*S+2*S+1:=by rw[Nat.mul_add,Nat.add_mul]; omega
   omega)
theorem sqr_roots{q:Rat}(h0:0≤q){R D:Nat}(r1:R*R≤q.num.natAbs)(r2:q.num.natAbs<(R+1)*(R+1))(d1:D*D≤q.den)(d2:q.den<(D+1)*(D+1)) :
  (HasR q↔R*R=q.num.natAbs∧D*D=q.den)∧D≠0∧(HasR q→sqr q=Rat.divInt R D∧(sqr q).num=R∧(sqr q).den=D):=by
 have hD:D≠0:=by
  intro e; subst e
  have:=q.den_nz
  have:q.den<1:=d2
  omega
 have hn:(q.num.natAbs:Int)=q.num:=Int.natAbs_of_nonneg (Rat.num_nonneg.2 h0)
 have key:HasR q→(sqr q).num=R∧(sqr q).den=D:=fun h=>by
  obtain⟨e1,e2⟩:=sqr_parts h
  have hs:0≤(sqr q).num:=Rat.num_nonneg.2 (sqr_nonneg q)
  have e3:(sqr q).num.natAbs*(sqr q).num.natAbs=q.num.natAbs:=by rw[←Int.natAbs_mul,←e1]
  have e4:=root_sq r1 r2 e3
  have e5:=root_sq d1 d2 e2.symm
  exact⟨by rw[e4]; exact(Int.natAbs_of_nonneg hs).symm,e5.symm⟩
 refine⟨⟨fun h=>?_,fun⟨e1,e2⟩=>?_⟩,hD,fun h=>⟨?_,key h⟩⟩
 ·obtain⟨e1,e2⟩:=sqr_parts h
  obtain⟨k1,k2⟩:=key h
  refine⟨?_,by rw[e2,k2]⟩
  rw[e1,k1,Int.natAbs_mul,Int.natAbs_natCast]
 ·refine⟨Rat.divInt R D,?_,?_⟩
  ·exact Rat.divInt_nonneg (Int.natCast_nonneg R) (Int.natCast_nonneg D)
  ·rw[Rat.divInt_mul_divInt]
   conv=>rhs; rw[←Rat.num_divInt_den q]
   rw[←hn,←e1,←e2,Int.natCast_mul,Int.natCast_mul]
 ·obtain⟨k1,k2⟩:=key h
  conv=>lhs; rw[←Rat.num_divInt_den (sqr q)]
  rw[k1,k2]
theorem RL_sqr{q:Rat}{k:Nat}(h:RL q k)(hk:1≤k):RL (sqr q) k:=by
 by_cases hq:HasR q
 ·obtain⟨e1,e2⟩:=sqr_parts hq
  have le:∀ n:Nat,n≤n*n:=fun n=>by rcases n with _|n; exact Nat.le_refl _; exact Nat.le_mul_of_pos_left _ (by omega)
  refine⟨wl_mono ?_ h.1,wl_mono ?_ h.2⟩
  ·rw[e1,Int.natAbs_mul]; exact le _
  ·rw[e2]; exact le _
 ·have:sqr q=0:=by unfold sqr; rw[dif_neg hq]
  rw[this]
  exact⟨by simp[words],Nat.le_trans (words_length_le (k:=1) (by decide)) hk⟩
end Go.Proofs.YtjlhiaafnpompaaGreat
namespace Go.Proofs.YtjlhiaafnpompaaGreat
open Go.RowKit Tr
end Go.Proofs.YtjlhiaafnpompaaGreat
namespace Go.Proofs.YtjlhiaafnpompaaGreat
open Go.RowKit Tr
def N1(z:QC):FR:=.row (cn z)
def R1(q:Rat):FR:=.c (gr q)
theorem qc0{z:QC}:z=⟨0,0⟩↔z.re=0∧z.im=0:=⟨fun h=>by rw[h]; exact⟨rfl,rfl⟩,fun h=>qc_ext h.1 h.2⟩
theorem qc_nz{z:QC}(h:z≠⟨0,0⟩):z.re*z.re+z.im*z.im≠0:=fun e=>h (qc0.2 (norm_zero.1 e))
theorem ZL_dv{x y:QC}{k l:Nat}(h0:y≠⟨0,0⟩)(hx:ZL x k)(hy:ZL y l):ZL (x / y) (k+l+(k+l)+1+(l+l+(l+l)+1)):=ZL_div (qc_nz h0) hx hy
theorem ZL_cj{z:QC}{k:Nat}(h:ZL z k):ZL (cj z) k:=⟨h.1,RL_neg h.2⟩
theorem ZL_int(i j:Int)(a1:-9223372036854775808≤i)(a2:i<9223372036854775808)(b1:-9223372036854775808≤j)(b2:j<9223372036854775808):ZL ⟨(i:Rat),(j:Rat)⟩ 2:=⟨RL_i64 i a1 a2,RL_i64 j b1 b2⟩
theorem pNMul(x y:QC){m l:Nat}(hx:ZL x m)(hy:ZL y l)(hb:m+l+(m+l)<137438953472):SpecC Tryz.prog true 67 [N1 x,N1 y] (.r (N1 (x*y))) :=
 spec2 eo67 fun w A u v hR _ hu hv=>(NMul_any x.re x.im y.re y.im u v A w (cn_iff.1 hu) (cn_iff.1 hv) (hR rfl) m l hx.1 hx.2 hy.1 hy.2 hb).mono fun e w' ⟨z,h1,h2,h3⟩=>⟨z,h1,cn_iff.2 h3,h2⟩
theorem pNSub(x y:QC){m l:Nat}(hx:ZL x m)(hy:ZL y l)(hb:m+l+(m+l)<137438953472):SpecC Tryz.prog true 94 [N1 x,N1 y] (.r (N1 (x - y))) :=
 spec2 eo94 fun w A u v hR _ hu hv=>(NSub_any x.re x.im y.re y.im u v A w (cn_iff.1 hu) (cn_iff.1 hv) (hR rfl) m l hx.1 hx.2 hy.1 hy.2 hb).mono fun e w' ⟨z,h1,h2,h3⟩=>⟨z,h1,cn_iff.2 h3,h2⟩
theorem pNConj(x:QC)(hx:ZL x 137438953472):SpecC Tryz.prog true 62 [N1 x] (.r (N1 (cj x))) :=
 spec1 eo62 fun w A u hR _ hu=>(NConj_any x.re x.im u A w (cn_iff.1 hu) (hR rfl) hx.2).mono fun e w' ⟨z,h1,h2,h3⟩=>⟨z,h1,cn_iff.2 h3,h2⟩
theorem pNZero(x:QC)(r:Bool)(hr:r=true↔x=⟨0,0⟩):SpecC Tryz.prog true 48 [N1 x] (B1 r) :=
 spec1 eo48 fun w A u hR _ hu=>(NZero_any x.re x.im u A w (cn_iff.1 hu) r (hr.trans qc0)).mono fun e w' h=>⟨_,h.1,rfl,h.2⟩
theorem pNDiv(x y:QC)(h0:y≠⟨0,0⟩){m l:Nat}(hx:ZL x m)(hy:ZL y l)(hb:(m+l+(m+l)+1)+(l+l+(l+l)+1)<137438953472):SpecC Tryz.prog true 49 [N1 x,N1 y] (.r (N1 (x / y))) :=
 spec2 eo49 fun w A u v hR _ hu hv=>(NDiv_any x.re x.im y.re y.im _ rfl (qc_nz h0) u v A w (cn_iff.1 hu) (cn_iff.1 hv) (hR rfl) m l hx.1 hx.2 hy.1 hy.2 hb).mono fun e w' ⟨z,h1,h2,h3⟩=>⟨z,h1,cn_iff.2 h3,h2⟩
theorem pNInt(i j:Int)(a1:-9223372036854775808≤i)(a2:i<9223372036854775808)(b1:-9223372036854775808≤j)(b2:j<9223372036854775808):SpecC Tryz.prog true 52 [.c (gx (.int .i64 i)),.c (gx (.int .i64 j))] (.r (N1 ⟨(i:Rat),(j:Rat)⟩)) :=
 spec2 eo52 fun w A u v hR _ hu hv=>by
  cases(hu:u=_); cases(hv:v=_)
  exact(EInt_any i j a1 a2 b1 b2 A w (hR rfl)).mono fun e w' ⟨z,h1,h2,h3⟩=>⟨z,h1,cn_iff.2 h3,h2⟩
theorem outG_short{z:QC}(h:ShortZ z){w:World}{A:Nat→Prop}:FV.R (.tup [.row (rawQ z).cells,.c (gl (.int .i64 0))]) (.tuple #[outG z.re z.im,.int .i64 (outGC z.re z.im)]) w A:=by
 refine(FV.val_ok (u:=.tuple #[(rawQ z).val,.int .i64 0]) (by kernel_rfl)).2 ?_
 rw[outG,outGC,if_pos (show ShortF z.re∧ShortF z.im from h),if_pos (show ShortF z.re∧ShortF z.im from h),rawQ_val]; rfl
theorem pNTold(z:QC)(hz:ZL z 137438953472)(h:ShortZ z):SpecC Tryz.prog true 64 [N1 z] (.tup [.row (rawQ z).cells,.c (gl (.int .i64 0))]) :=
 spec1 eo64 fun w A u hR _ hu=>(NTold_any z.re z.im u A w (cn_iff.1 hu) hz.1 hz.2).mono fun e w' h1=>⟨_,h1.1,outG_short h,h1.2⟩
theorem outG_zero{z:QC}(h:¬ShortZ z){w:World}{A:Nat→Prop}:FV.R (.tup [.row zGG,.c (gl (.int .i64 4))]) (.tuple #[outG z.re z.im,.int .i64 (outGC z.re z.im)]) w A:=by
 refine(FV.val_ok (u:=.tuple #[zG,.int .i64 4]) (by kernel_rfl)).2 ?_
 rw[outG,outGC,if_neg (show ¬(ShortF z.re∧ShortF z.im) from h),if_neg (show ¬(ShortF z.re∧ShortF z.im) from h)]
theorem pNToldL(z:QC)(hz:ZL z 137438953472)(h:¬ShortZ z):SpecC Tryz.prog true 64 [N1 z] (.tup [.row zGG,.c (gl (.int .i64 4))]) :=
 spec1 eo64 fun w A u hR _ hu=>(NTold_any z.re z.im u A w (cn_iff.1 hu) hz.1 hz.2).mono fun e w' h1=>⟨_,h1.1,outG_zero h,h1.2⟩
theorem pEOf(z:QC)(h:ShortZ z):SpecC Tryz.prog true 58 [.row (rawQ z).cells] (.tup [N1 z,.c (gl (.bool true))]) :=
 spec1 eo58 fun w A u hR _ hu=>by
  rw[(FR.val_ok (u:=(rawQ z).val) (x:=.row (rawQ z).cells) (by kernel_rfl)).1 hu]
  obtain⟨l1,l2,l3,l4⟩:=sz_short h
  have hg:GaussOk (rawQ z).val:=⟨z,by rw[rawQ_val]; rfl,h.1,h.2⟩
  refine(EOf_any _ _ _ _ _ _ _ _ (Nat.lt_of_le_of_lt l1 (by decide)) (Nat.lt_of_le_of_lt l2 (by decide)) (Nat.lt_of_le_of_lt l3 (by decide)) (Nat.lt_of_le_of_lt l4 (by decide)) A w (hR rfl) true ⟨fun _=>hg,fun _=>rfl⟩).mono ?_
  rintro e w' ⟨u,h1,h2,z',h3,h4⟩
  have h5:=h4 hg
  have h6:z=z':=encQ_inj' ((rawQ_val z).symm.trans h5)
  subst h6
  exact⟨_,h1,⟨[u,.bool true],rfl,cn_iff.2 h3,rfl,trivial⟩,h2⟩
theorem pEOfR(g:RawG)(hs:g.Sz)(r:Bool)(hr:r=true↔GOk g.val):SpecC Tryz.prog true 58 [.row g.cells] (.tup [.row [ga,ga],.c (gx (.bool r))]) :=
 spec1 eo58 fun w A u hR _ hu=>by
  rw[(FR.val_ok (u:=g.val) (x:=.row g.cells) (by kernel_rfl)).1 hu]
  obtain⟨l1,l2,l3,l4⟩:=hs
  refine(EOf_any _ _ _ _ _ _ _ _ (Nat.lt_of_le_of_lt l1 (by decide)) (Nat.lt_of_le_of_lt l2 (by decide)) (Nat.lt_of_le_of_lt l3 (by decide)) (Nat.lt_of_le_of_lt l4 (by decide)) A w (hR rfl) r hr).mono ?_
  rintro e w' ⟨u,h1,h2,z',h3,h4⟩
  obtain⟨vs,rfl,h5⟩:=(cn_iff.2 h3:(FR.row (cn z')).R u w' A)
  exact⟨_,h1,⟨[_,.bool r],rfl,⟨vs,rfl,okg_any h5⟩,rfl,trivial⟩,h2⟩
theorem pQDiv(x y:QC)(h0:y≠⟨0,0⟩){m l:Nat}(hx:ZL x m)(hy:ZL y l)(hb:(m+l+(m+l)+1)+(l+l+(l+l)+1)<137438953472):SpecC Tryz.prog true 44 [Q1 x,Q1 y] (.r (Q1 (x / y))) :=
 spec2 eo44 fun w A u v hR _ hu hv=>(XDiv_any x.re x.im y.re y.im _ rfl (qc_nz h0) u v A w (cq_iff.1 hu) (cq_iff.1 hv) (hR rfl) m l hx.1 hx.2 hy.1 hy.2 hb).mono fun e w' ⟨z,h1,h2,h3⟩=>⟨z,h1,cq_iff.2 h3,h2⟩
theorem pQZero(x:QC)(r:Bool)(hr:r=true↔x=⟨0,0⟩):SpecC Tryz.prog true 38 [Q1 x] (B1 r) :=
 spec1 eo38 fun w A u hR _ hu=>(XZero_any x.re x.im u A w (cq_iff.1 hu) r (hr.trans qc0)).mono fun e w' h=>⟨_,h.1,rfl,h.2⟩
theorem qc_eq{x y:QC}:x=y↔x.re=y.re∧x.im=y.im:=⟨fun h=>by rw[h]; exact⟨rfl,rfl⟩,fun h=>qc_ext h.1 h.2⟩
theorem pQSame(x y:QC){m l:Nat}(hx:ZL x m)(hy:ZL y l)(hb:m+l<137438953472)(r:Bool)(hr:r=true↔x=y):SpecC Tryz.prog true 39 [Q1 x,Q1 y] (B1 r) :=
 spec2 eo39 fun w A u v hR _ hu hv=>(XSame_any x.re x.im y.re y.im u v A w (cq_iff.1 hu) (cq_iff.1 hv) m l hx.1 hx.2 hy.1 hy.2 hb r (hr.trans qc_eq)).mono fun e w' h=>⟨_,h.1,rfl,h.2⟩
theorem pQInt(i j:Int)(a1:-9223372036854775808≤i)(a2:i<9223372036854775808)(b1:-9223372036854775808≤j)(b2:j<9223372036854775808):SpecC Tryz.prog true 40 [.c (gx (.int .i64 i)),.c (gx (.int .i64 j))] (.r (Q1 ⟨(i:Rat),(j:Rat)⟩)) :=
 spec2 eo40 fun w A u v hR _ hu hv=>by
  cases(hu:u=_); cases(hv:v=_)
  exact(XInt_any i j a1 a2 b1 b2 A w (hR rfl)).mono fun e w' ⟨z,h1,h2,h3⟩=>⟨z,h1,cq_iff.2 h3,h2⟩
theorem pQGauss(z:QC)(hz:ZL z 137438953472)(h:ShortZ z):SpecC Tryz.prog true 32 [Q1 z] (.tup [.row (rawQ z).cells,.c (gl (.int .i64 0))]) :=
 spec1 eo32 fun w A u hR _ hu=>(XGauss_any z.re z.im u A w (cq_iff.1 hu) hz.1 hz.2).mono fun e w' h1=>⟨_,h1.1,outG_short h,h1.2⟩
theorem pQGaussL(z:QC)(hz:ZL z 137438953472)(h:¬ShortZ z):SpecC Tryz.prog true 32 [Q1 z] (.tup [.row zGG,.c (gl (.int .i64 4))]) :=
 spec1 eo32 fun w A u hR _ hu=>(XGauss_any z.re z.im u A w (cq_iff.1 hu) hz.1 hz.2).mono fun e w' h1=>⟨_,h1.1,outG_zero h,h1.2⟩
theorem pRSign(q:Rat):SpecC Tryz.prog false 35 [R1 q] (.r (.c (gx (.int .i64 q.num.sign)))) :=
 spec1 eo35 fun w A u hR _ hu=>(RSign_any q u A w hu).mono fun e w' ⟨h1,h2⟩=>⟨_,h1,rfl,by subst h2; exact Below.refl _ _⟩
theorem pRCmp(x y:Rat){m l:Nat}(hx:RL x m)(hy:RL y l)(hb:m+l<137438953472):SpecC Tryz.prog true 36 [R1 x,R1 y] (.r (.c (gx (.int .i64 (cmpR x y))))) :=
 spec2 eo36 fun w A u v hR _ hu hv=>(RCmp_any x y u v A w hu hv m l hx hy hb).mono fun e w' ⟨h1,h2⟩=>⟨_,h1,rfl,h2⟩
theorem pNewRat(i j:Int)(a1:-9223372036854775808≤i)(a2:i<9223372036854775808)(b1:-9223372036854775808≤j)(b2:j<9223372036854775808)(h0:j≠0):SpecC Tryz.prog true 33 [.c (gx (.int .i64 i)),.c (gx (.int .i64 j))] (.r (R1 (Rat.divInt i j))) :=
 spec2 eo33 fun w A u v hR _ hu hv=>by
  cases(hu:u=_); cases(hv:v=_)
  exact(NewRat_any i j a1 a2 b1 b2 h0 w).mono fun e w' ⟨z,h1,h2⟩=>⟨z,h1,h2.2 A (hR rfl),h2.1⟩
def F1(q:Rat):FR:=.row (rF q)
end Go.Proofs.YtjlhiaafnpompaaGreat
namespace Go.Proofs.YtjlhiaafnpompaaGreat
open Go.RowKit Tr
theorem sign_lt0{q:Rat}(hq:q<0):decide (q.num<0)=true:=by
 have:=mt Rat.num_nonneg.1 (Rat.not_le.2 hq)
 exact decide_eq_true (by omega)
theorem sign_ge0{q:Rat}(hq:0≤q):decide (q.num<0)=false:=by
 have:=Rat.num_nonneg.2 hq
 exact decide_eq_false (by omega)
set_option maxRecDepth 100000 in
theorem square_neg(q:Rat)(hq:q<0)(vx:Value)(A:Nat→Prop)(w:World)(hx:RatP q vx w A) :
  Calls Tryz.prog 127 #[vx] w fun e w'=>e=.returned (.tuple #[.pointer none,.bool false])∧Below w.heap.size w w':=by
 have hs:=sign_lt0 hq
 have HS:=Lib.hid (RSign_any q vx A w hx)
 obtain⟨b,rfl⟩:=hx.shape
 go_enter Tryz.func127,Tryz.ntmps127
 go_wp2_with fail
 refine HS.out.mono ?_
 rintro e w' ⟨rfl,rfl⟩
 go_wp2_with fail
 refine bodyPost_ret (v:=.tuple #[.pointer none,.bool false]) (by simp[results,Tryz.results127,go_sem]) rfl ?_
 exact⟨rfl,Below.refl _ _⟩
set_option maxRecDepth 100000 in
theorem square_pos(q:Rat)(hq:0≤q)(R D:Nat)(r1:R*R≤q.num.natAbs)(r2:q.num.natAbs<(R+1)*(R+1))(d1:D*D≤q.den)(d2:q.den<(D+1)*(D+1))(hD:D≠0)(r:Bool)(hr:r=true↔Rat.divInt R D*Rat.divInt R D=q)
  (vx:Value) (A:Nat→Prop) (w:World) (hx:RatP q vx w A) (hA:Rcv A w) (k:Nat) (hl:RL q k) (hk:k≤134217728) :
  Calls Tryz.prog 127 #[vx] w fun e w'=>∃ m,e=.returned (.tuple #[.pointer (some ⟨m,0,none⟩),.bool r])∧Below w.heap.size w w'∧RatB w.heap.size (Rat.divInt R D) (.pointer (some ⟨m,0,none⟩)) w' A:=by
 have hs:=sign_ge0 hq
 have HS:=Lib.hid (RSign_any q vx A w hx)
 obtain⟨b,rfl⟩:=hx.shape
 have lR:(words R).length≤k:=wl_mono (Nat.le_trans (Nat.le_mul_self R) r1) hl.1
 have lD:(words D).length≤k:=wl_mono (Nat.le_trans (Nat.le_mul_self D) d1) hl.2
 have HX:=Lib.hid (And.intro hx hA)
 have HQ:=Lib.hid (And.intro (Int.natAbs_of_nonneg (Rat.num_nonneg.2 hq)) (And.intro hl hr))
 clear hx hA hr hq hl
 go_enter Tryz.func127,Tryz.ntmps127
 go_wp2_with fail
 refine HS.out.mono ?_
 rintro e w' ⟨rfl,rfl⟩
 go_wp2_with fail
 obtain⟨w1,hw1⟩:∃ w1,w1=w.alloc (.cells #[.bool false,.slice none 0 0] 127):=⟨_,rfl⟩
 have hb1:Below w.heap.size w w1:=by rw[hw1]; exact br.alloc (Nat.le_refl _) _
 have hs1:w1.heap.size=w.heap.size+1:=by rw[hw1]; simp
 have hn1:w1.heap[w.heap.size]?=some (.cells #[.bool false,.slice none 0 0] 127 (0,0)):=by rw[hw1]; exact heap_alloc_new w _
 rw[←hw1]
 have H1:=Lib.hid (And.intro hw1 (And.intro hb1 hn1))
 clear hw1 hb1 hn1
 refine(Num_any q _ A w1 (HX.out.1.below H1.out.2.1) (HQ.out.2.1.mono (by omega))).mono ?_
 rintro e w2 ⟨v2,rfl,hv2⟩
 have H2:=Lib.hid hv2
 clear hv2
 go_wp2_with fail
 have hm2:w2.heap[w.heap.size]?=some (.cells #[.bool false,.slice none 0 0] 127 (0,0)):=(H2.out.1.block _ (by omega)).trans H1.out.2.2
 have hi2:IntP (q.num.natAbs:Int) v2 w2 NoA:=by rw[HQ.out.1]; exact H2.out.2 NoA (rcv_noA _)
 refine(Sqrt_any w.heap.size 0 _ _ q.num.natAbs R r1 r2 v2 NoA w2 hm2 (by decide) noW_zInt hi2 (by have:=HQ.out.2.1.1; omega)).mono ?_
 rintro e w3 ⟨rfl,hp3⟩
 have hs2:=H2.out.1.size
 have hb3:Below w.heap.size w w3:=H1.out.2.1.trans ((H2.out.1.mono (by omega)).trans (hp3.1.below (Nat.le_refl _) (by omega)))
 have h3:IntP (R:Int) (.pointer (some ⟨w.heap.size,0,none⟩)) w3 NoA:=(hp3.intP (by decide) (rcv_noA _)).noA
 have hs3:=hp3.1.size
 have H3:=Lib.hid (And.intro hb3 h3)
 clear hp3 hm2 hi2 hb3 h3
 go_wp2_with fail
 obtain⟨w4,hw4⟩:∃ w4,w4=w3.alloc (.cells #[.bool false,.slice none 0 0] 127):=⟨_,rfl⟩
 have hb4:Below w3.heap.size w3 w4:=by rw[hw4]; exact br.alloc (Nat.le_refl _) _
 have hs4:w4.heap.size=w3.heap.size+1:=by rw[hw4]; simp
 have hn4:w4.heap[w3.heap.size]?=some (.cells #[.bool false,.slice none 0 0] 127 (0,0)):=by rw[hw4]; exact heap_alloc_new w3 _
 rw[←hw4]
 have H4:=Lib.hid (And.intro hw4 (And.intro hb4 hn4))
 clear hw4 hb4 hn4
 have hbw4:=H3.out.1.trans (H4.out.2.1.mono (by omega))
 refine(Denom_any q _ A w4 (HX.out.1.below hbw4) (HQ.out.2.1.mono (by omega))).mono ?_
 rintro e w5 ⟨v5,rfl,hv5⟩
 have H5:=Lib.hid hv5
 clear hv5 hbw4
 go_wp2_with fail
 have hm5:w5.heap[w3.heap.size]?=some (.cells #[.bool false,.slice none 0 0] 127 (0,0)):=(H5.out.1.block _ (by omega)).trans H4.out.2.2
 refine(Sqrt_any w3.heap.size 0 _ _ q.den D d1 d2 v5 NoA w5 hm5 (by decide) noW_zInt (H5.out.2 NoA (rcv_noA _)) (by have:=HQ.out.2.1.2; omega)).mono ?_
 rintro e w6 ⟨rfl,hp6⟩
 have hs5:=H5.out.1.size
 have hb6:Below w3.heap.size w3 w6:=H4.out.2.1.trans ((H5.out.1.mono (by omega)).trans (hp6.1.below (Nat.le_refl _) (by omega)))
 have h6:IntP (D:Int) (.pointer (some ⟨w3.heap.size,0,none⟩)) w6 NoA:=(hp6.intP (by decide) (rcv_noA _)).noA
 have hs6:=hp6.1.size
 have H6:=Lib.hid (And.intro hb6 (And.intro h6 (H3.out.2.below hb6)))
 clear hp6 hm5 hb6 h6
 go_wp2_with fail
 obtain⟨w7,hw7⟩:∃ w7,w7=w6.alloc zR:=⟨_,rfl⟩
 have hb7:Below w6.heap.size w6 w7:=by rw[hw7]; exact br.alloc (Nat.le_refl _) _
 have hs7:w7.heap.size=w6.heap.size+1:=by rw[hw7]; simp
 have hn7:w7.heap[w6.heap.size]?=some zR:=by rw[hw7]; exact heap_alloc_new w6 _
 rw[←hw7]
 have H7:=Lib.hid (And.intro hw7 (And.intro hb7 hn7))
 clear hw7 hb7 hn7
 refine(SetFrac_any w6.heap.size _ R D (by omega) _ _ NoA w7 H7.out.2.2 (by decide) noW_zRat (H6.out.2.2.below H7.out.2.1) (H6.out.2.1.below H7.out.2.1) (by rw[Int.natAbs_natCast]; omega) (by rw[Int.natAbs_natCast]; omega)).mono ?_
 rintro e w8 ⟨rfl,hp8⟩
 have hs8:=hp8.1.size
 have hb8:Below w.heap.size w w8:=H3.out.1.trans ((H6.out.1.mono (by omega)).trans ((H7.out.2.1.mono (by omega)).trans (hp8.1.below (by omega) (by omega))))
 have hA8:Rcv A w7:=HX.out.2.below (H3.out.1.trans ((H6.out.1.mono (by omega)).trans (H7.out.2.1.mono (by omega))))
 have h8:RatB w.heap.size (Rat.divInt R D) (.pointer (some ⟨w6.heap.size,0,none⟩)) w8 A:=RatB.keeps _ _ _ _ _ _ _ (Nat.le_refl _) (fun b _ hna=>⟨rfl,fun h=>hna (.inr h)⟩) (hp8.ratB hA8 (rcv_noA _) (by omega) (fun b hb=>HX.out.2.lt hb))
 have H8:=Lib.hid (And.intro hb8 (And.intro h8 (hp8.ratP (rcv_noA _)).noA))
 clear hp8 hb8 h8 hA8
 go_wp2_with fail
 obtain⟨w9,hw9⟩:∃ w9,w9=w8.alloc zR:=⟨_,rfl⟩
 have hb9:Below w8.heap.size w8 w9:=by rw[hw9]; exact br.alloc (Nat.le_refl _) _
 have hs9:w9.heap.size=w8.heap.size+1:=by rw[hw9]; simp
 have hn9:w9.heap[w8.heap.size]?=some zR:=by rw[hw9]; exact heap_alloc_new w8 _
 rw[←hw9]
 have H9:=Lib.hid (And.intro hw9 (And.intro hb9 hn9))
 clear hw9 hb9 hn9
 have lS:RL (Rat.divInt R D) k:=RL_divInt (by omega) (by rw[Int.natAbs_natCast]; exact lR) (by rw[Int.natAbs_natCast]; exact lD)
 refine(RMul_any w8.heap.size _ (Rat.divInt R D) (Rat.divInt R D) _ _ NoA w9 H9.out.2.2 (by decide) noW_zRat (H8.out.2.2.below H9.out.2.1) (H8.out.2.2.below H9.out.2.1) k k lS lS (by omega)).mono ?_
 rintro e w10 ⟨rfl,hp10⟩
 have hs10:=hp10.1.size
 have hb10:Below w8.heap.size w8 w10:=H9.out.2.1.trans (hp10.1.below (Nat.le_refl _) (by omega))
 have H10:=Lib.hid (And.intro hb10 (hp10.ratP (rcv_noA _)).noA)
 clear hp10 hb10
 go_wp2_with fail
 obtain⟨cz,hcz,hcr⟩:∃ cz,cz=cmpR (Rat.divInt R D*Rat.divInt R D) q∧(cz == 0)=r:=by
  refine⟨_,rfl,?_⟩
  rw[Bool.eq_iff_iff,HQ.out.2.2,beq_iff_eq]
  unfold cmpR
  constructor
  ·intro h
   split at h
   ·cases h
   ·split at h
    ·assumption
    ·cases h
  ·intro h
   rw[h,if_neg (Rat.lt_irrefl),if_pos rfl]
 have hc:=RCmp_any (Rat.divInt R D*Rat.divInt R D) q _ _ NoA w10 H10.out.2 (HX.out.1.below (H8.out.1.trans (H10.out.1.mono H8.out.1.size))).noA (k+k) k (RL_mul lS lS) HQ.out.2.1 (by omega)
 rw[←hcz] at hc
 have HC:=Lib.hid (And.intro hc hcr)
 clear hc hcz hcr
 refine HC.out.1.mono ?_
 rintro e w11 ⟨rfl,hb11⟩
 have H11:=Lib.hid hb11
 clear hb11
 go_wp2_with fail
 rw[HC.out.2]
 refine bodyPost_ret (v:=.tuple #[.pointer (some ⟨w6.heap.size,0,none⟩),.bool r]) (by simp[results,Tryz.results127,go_sem]) rfl ?_
 have hb11:=H10.out.1.trans (H11.out.mono H10.out.1.size)
 exact⟨_,rfl,H8.out.1.trans (hb11.mono H8.out.1.size),Fact.Keeps.below (RatB.keeps _ _) hb11 H8.out.2.1⟩
theorem square_any(q:Rat)(r:Bool)(hr:r=true↔HasR q)(vx:Value)(A:Nat→Prop)(w:World)(hx:RatP q vx w A)(hA:Rcv A w)(k:Nat)(hl:RL q k)(hk:k≤134217728) :
  Calls Tryz.prog 127 #[vx] w fun e w'=>∃ u,e=.returned (.tuple #[u,.bool r])∧Below w.heap.size w w'∧(r=true→RatB w.heap.size (sqr q) u w' A):=by
 by_cases h0:0≤q
 ·obtain⟨R,r1,r2⟩:=root_ex q.num.natAbs
  obtain⟨D,d1,d2⟩:=root_ex q.den
  obtain⟨e1,e2,e3⟩:=sqr_roots h0 r1 r2 d1 d2
  refine(square_pos q h0 R D r1 r2 d1 d2 e2 r (hr.trans ⟨fun h=>?_,fun h=>⟨_,Rat.divInt_nonneg (Int.natCast_nonneg R) (Int.natCast_nonneg D),h⟩⟩) vx A w hx hA k hl hk).mono ?_
  ·rw[←(e3 h).1]; exact(sqr_ok h).2
  ·rintro e w' ⟨m,rfl,hb,h1⟩
   exact⟨_,rfl,hb,fun h=>by rw[(e3 (hr.1 h)).1]; exact h1⟩
 ·have hn:¬HasR q:=fun⟨s,h2,h3⟩=>h0 (h3▸Rat.mul_nonneg h2 h2)
  have e:r=false:=by cases r; rfl; exact absurd (hr.1 rfl) hn
  subst e
  exact(square_neg q (Rat.not_le.1 h0) vx A w hx).mono fun e w' ⟨h1,h2⟩=>⟨_,h1,h2,fun h=>by cases h⟩
end Go.Proofs.YtjlhiaafnpompaaGreat
