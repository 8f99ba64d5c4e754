/- Laws. -/
import Derived.Test.YtcjjdooeogmdbaaGreatVaz
import Derived.Test.YtcjjdooeogmdbaaGreatVba
set_option linter.all false
set_option maxHeartbeats 4000000
set_option maxRecDepth 100000
open Go.Lib (hid)
namespace Tr
def Kfx{x r:Nat}(hr:0<r):x<((x/r+r)/2+1)*((x/r+r)/2+1):=by
 obtain⟨q,hq⟩:∃ q,q=x/r:=⟨_,rfl⟩
 have h1:x<(q+1)*r:=by
  rw[hq];have:=Nat.div_add_mod x r;have h2:=Nat.mod_lt x hr;rw[Nat.add_mul,Nat.one_mul,Nat.mul_comm];omega
 rw[<-hq];obtain⟨s,hs⟩:∃ s,s=(q+r)/2+1:=⟨_,rfl⟩
 rw[<-hs];have h2:q+r+1<=2*s:=by omega
 have h3:(q+r+1)*(q+r+1)<=(2*s)*(2*s):=Nat.mul_le_mul h2 h2;have h4:4*((q+1)*r)<=(q+r+1)*(q+r+1):=by
  have key:∀ a b:Nat,4*(a*b)<=(a+b)*(a+b):=fun a b=>by
   rcases Nat.le_total a b with h|h
   .obtain⟨d,rfl⟩:=Nat.exists_eq_add_of_le h;have:(a+(a+d))*(a+(a+d))=4*(a*(a+d))+d*d:=by
     simp only[Nat.mul_add,Nat.add_mul,Nat.mul_comm d a];omega
    omega
   .obtain⟨d,rfl⟩:=Nat.exists_eq_add_of_le h;have:(b+d+b)*(b+d+b)=4*((b+d)*b)+d*d:=by
     simp only[Nat.mul_add,Nat.add_mul,Nat.mul_comm d b];omega
    omega
  have:=key (q+1) r;rw[show q+1+r=q+r+1 by omega] at this;exact this
 have h5:(2*s)*(2*s)=4*(s*s):=by
  rw[Nat.mul_mul_mul_comm]
 omega
def Knj{x r:Nat}(h:r<=(x/r+r)/2):r*r<=x:=by
 have h1:r<=x/r:=by omega
 exact Nat.le_trans (Nat.mul_le_mul_right r h1) (Nat.div_mul_le_self x r)
def Knk{x r:Nat}(hx:0<x)(hr:0<r):0<(x/r+r)/2:=by
 by_cases h:r=1
 .subst h;rw[Nat.div_one];omega
 .generalize x/r=q;omega
def Kck{x N:Nat}(h:x<2^N):x<(2^(N/2+1)+1)*(2^(N/2+1)+1):=by
 have h1:(2:Nat)^N<=2^(N/2+1)*2^(N/2+1):=by
  rw[<-Nat.pow_add];exact Nat.pow_le_pow_right (by decide) (by omega)
 have h2:2^(N/2+1)*2^(N/2+1)<=(2^(N/2+1)+1)*(2^(N/2+1)+1):=Nat.mul_le_mul (by omega) (by omega);omega
def Uba{x a b:Nat}(h1:a*a<=x)(h2:x<(a+1)*(a+1))(h3:b*b<=x)(h4:x<(b+1)*(b+1)):a=b:=by
 rcases Nat.lt_trichotomy a b with h|h|h
 .have:=Nat.mul_le_mul (show a+1<=b from h) (show a+1<=b from h);omega
 .exact h
 .have:=Nat.mul_le_mul (show b+1<=a from h) (show b+1<=a from h);omega
end Tr
namespace Go.Proofs.YtcjjdooeogmdbaaGreat
open Go.RowKit Tr Proofs.Tryz
def Uwu(B:Nat)(z:Int)(w:World):Prop:=∃ C,w.heap[B]?=some (.cells C 178 (0,0))/\0+1<C.size/\NoW (.cells C 178 (0,0))/\Qce z (.pointer (some ⟨B,0,none⟩)) w NoA
def Put.own{B:Nat}{C:Array Value}{z:Int}{w w':World}(h:Put B 0 C 178 z w w')(ho:0+1<C.size)(hC:NoW (.cells C 178 (0,0))):Uwu B z w':=by
 have h1:=h.intP ho (A:=NoA) (fun _ h=>h.elim);obtain⟨h2,sl,h3,h4⟩:=h;obtain⟨p,cap,rfl,_,_⟩:=id h4;refine⟨_,h3,by simpa using ho,?_,h1.noA⟩;intro cs T' fr e i k x hx;cases e;rw[Array.getElem?_setIfInBounds] at hx
 split at hx
 .first|(split at hx<;>simp at hx;done)|(simp at hx;done)
 .rw[Array.getElem?_setIfInBounds] at hx
  split at hx
  .first|(split at hx<;>simp at hx;done)|(simp at hx;done)
  .exact hC C _ (0,0) rfl i k x hx
def Uik(w:World):WSl w (.slice none 0 0) []:=⟨none,0,rfl,Nat.le_refl _,fun h=>absurd rfl h⟩
def Qlk{n k:Nat}(h:n<4294967296^k)(hk:k<274877906944):(Qad n).length<274877906944:=Nat.lt_of_le_of_lt (Qak h) hk
def Uod{a b i j:Nat}(h:a<4294967296^i)(k:b<4294967296^j):a+b<4294967296^(i+j+1):=by
 have h1:4294967296^i<=4294967296^(i+j):=Nat.pow_le_pow_right (by decide) (by omega);have h2:4294967296^j<=4294967296^(i+j):=Nat.pow_le_pow_right (by decide) (by omega);rw[Nat.pow_succ];omega
def Uob(k:Nat):2^k<4294967296^(k/32+1):=by
 rw[show(4294967296:Nat)=2^32 by decide,<-Nat.pow_mul];exact Nat.pow_lt_pow_right (by decide) (by omega)
def Kig(m o:Nat)(C:Array Value)(T:TypeId)(x R:Nat)(h1:R*R<=x)(h2:x<(R+1)*(R+1))(vx:Value)(A:Nat->Prop)(w:World)(hm:w.heap[m]?=some (.cells C T (0,0)))(ho:o+1<C.size)(hC:NoW (.cells C T (0,0)))(hx:Qce (x:Int) vx w A)(hn:(Qad x).length<1073741824) :
  Calls prog 197 #[.pointer (some ⟨m,o,none⟩),vx] w fun e w'=>e=.returned (.pointer (some ⟨m,o,none⟩))/\Put m o C T (R:Int) w w':=by
 have hmlt:m<w.heap.size:=(Array.getElem?_eq_some_iff.1 hm).1;have hsign:=Qxt (x:Int) vx A w hx;have HS:=hid hsign;clear hsign
 by_cases hz:x=0
 .have hR:R=0:=by
   rcases Nat.eq_zero_or_pos R with h|h
   .exact h
   .have:=Nat.mul_le_mul h h;omega
  subst hR;have his:=Qjm m o C T false [] (.slice none 0 0) w 0 hm ho hC Qhg (Uik w) (by simp) (by simp[wv]) (by simp);have HI:=hid his;have e0:(x:Int).sign=0:=by rw[hz];rfl
  have HE:=hid e0;clear his hm hC hx e0
  go_enter func197,Tryz.ntmps197
  go_wp2_with (first
   | (go_at_call 108;refine HS.out.mono ?_;rintro e w' ⟨rfl,rfl⟩;rw[HE.out])
   | (go_at_call 229;refine HI.out.mono ?_;rintro e w' ⟨rfl,hp⟩))
  go_ret
  exact⟨rfl,hp⟩
 .have hpos:0<x:=Nat.pos_of_ne_zero hz;have e1:(x:Int).sign=1:=Int.sign_eq_one_of_pos (by omega);have hx0:Qce (x:Int) vx w NoA:=hx.noA;have hbit:=fun(w1:World) (hb:Below w.heap.size w w1)=>Qvk (x:Int) vx NoA w1 (hx0.below hb) (by rw[show((x:Int)).natAbs=x from rfl];omega)
  have HB:=hid hbit;have HE:=hid e1;have HM:=hid (And.intro hm hC);have HX:=hid hx0;have HN:=hid hn;clear hm hC hx hx0 e1 hbit hn hz
  go_enter func197,Tryz.ntmps197
  go_wp2_with (first
   | (go_at_call 108;refine HS.out.mono ?_;rintro e w' ⟨rfl,rfl⟩;rw[HE.out])
   | (go_at_call 228;refine(Qhx 1 (by decide) (by decide) _).mono ?_;rintro e w2 ⟨v1,rfl,hv1⟩))
  have hb2:Below w.heap.size w w2:=(br.alloc lr _).trans (hv1.1.mono (by simp));refine(HB.out w2 hb2).mono ?_;rintro e w3 ⟨N,rfl,hN,hN2,hb3⟩;have e2:(N:Int).tdiv 2=((N/2:Nat):Int):=by rw[Int.tdiv_eq_ediv_of_nonneg (by omega)];omega
  have hN3:N<34359738368:=by
   have:=HN.out;rw[show((x:Int)).natAbs=x from rfl] at hN2;omega
  have e3:IntKind.u64.wrap (((N/2:Nat):Int)+1)=((N/2+1:Nat):Int):=by rw[IntKind.wrap_u64];omega
  have e4:IntKind.i64.wrap (((N/2:Nat):Int)+1)=((N/2:Nat):Int)+1:=by rw[IntKind.wrap_i64];omega
  go_wp2_with fail
  have e5:((N:Int)/2+1)=((N/2+1:Nat):Int):=by omega
  rw[e5];have k1:w2.heap[w.heap.size]?=some (.cells #[.bool false,.slice none 0 0] 178 (0,0)):=(hv1.1.block _ (by simp)).trans (heap_alloc_new w _);have k2:=(hb3.block w.heap.size (Array.getElem?_eq_some_iff.1 k1).1).trans k1;have hi1:Qce (1:Int) v1 w3 NoA:=(hv1.2 NoA (fun _ h=>h.elim)).below hb3;have hsl:=Uob (N/2+1);refine(Uev w.heap.size 0 _ _ (1:Int) v1 (N/2+1) NoA w3 k2 (by decide) Qbh hi1 (by rw[show(1:Int).natAbs=1 from rfl];exact Qlk (k:=1) (by decide) (by decide)) (by omega) (by
   rw[show(1:Int).natAbs=1 from rfl,Nat.one_mul];exact Nat.lt_of_le_of_lt (Qak hsl) (by omega))).mono ?_
  rintro e w4 ⟨rfl,hp4⟩;obtain⟨C4,_,_,_,hi4⟩:=hp4.own (by decide) Qbh;rw[Int.one_mul,show(2:Int)^(N/2+1)=((2^(N/2+1):Nat):Int) by simp] at hi4;have hb4:Below w.heap.size w w4:=(hb2.trans (hb3.mono hb2.size)).trans (hp4.1.below lr (Nat.le_trans hb2.size hb3.size));have hf:=Kck (x:=x) hN.out.1;have hK:N/2<17179869184:=by omega
  obtain⟨K,hKe⟩:∃ K,K=(N/2+1)/32+1:=⟨_,rfl⟩
  have hK2:K<536870914:=by omega
  rw[<-hKe] at hsl;obtain⟨g0,hg0⟩:∃ g0,g0=2^(N/2+1):=⟨_,rfl⟩
  have hg1:0<g0:=by rw[hg0];exact Nat.two_pow_pos _
  rw[<-hg0] at hf hsl hi4;have HF:=hid (And.intro hf (And.intro hsl hg1));clear hf hsl hN hp4 hi1 k1 k2 hv1 hb3 hb2 e3 e4 e5 e2 hK hKe hg0 hg1 hN2 hN3
  go_wp2_with fail
  go_loopg [5,6] g0 (fun g p q wr=>Qce (g:Int) p wr NoA/\Hid (0<g)/\Hid (x<(g+1)*(g+1))/\Hid (g<4294967296^K)/\Below w.heap.size w wr)
  case atStart=>exact⟨hi4,hid HF.out.2.2,hid HF.out.1,hid HF.out.2.1,hb4⟩
  case round =>
   obtain⟨hr,hg,hf,hl,hB⟩:=hrel;have hxb:∀{w1:World},Below w.heap.size w w1->Qce (x:Int) vx w1 NoA:=fun h=>HX.out.below h
   have hlx:(Qad ((x:Int)).natAbs).length<274877906944:=by have:=HN.out;rw[show((x:Int)).natAbs=x from rfl];omega
   have hlg:(Qad ((gk:Int)).natAbs).length<274877906944:=Qlk hl.out (by omega);have hq:x/gk<4294967296^(Qad x).length:=Nat.lt_of_le_of_lt (Nat.div_le_self _ _) (Qcc x);have hsum:=Uod hq hl.out;have hlq:=Qlk hq (by have:=HN.out;omega);have hls:=Qlk hsum (by have:=HN.out;omega);have hlr:(Qad ((x/gk+gk)/2^1)).length<274877906944:=Qlk (Nat.lt_of_le_of_lt (Nat.div_le_self _ _) hsum) (by have:=HN.out;omega);have hsK:(x/gk+gk)/2^1<gk->(x/gk+gk)/2^1<4294967296^K:=fun h=>Nat.lt_trans h hl.out
   have hstep:=Kfx (x:=x) hg.out;have hspos:=Knk hpos hg.out;have hend:=Knj (x:=x) (r:=gk);obtain⟨s,hs⟩:∃ s,s=(x/gk+gk)/2^1:=⟨_,rfl⟩
   rw[show(x/gk+gk)/2=s by rw[hs]] at hstep hspos hend;rw[<-hs] at hlr hsK;have HS2:=hid hs;have HL:=hid (And.intro hlx (And.intro hlg (And.intro hlq (And.intro hls hlr))));have HW:=hid (And.intro hstep (And.intro hspos (And.intro hend hsK)));have HG:=hid (show(gk:Int)≠0 by have:=hg.out;omega);clear hq hsum hlx hlg hlq hls hlr hsK hstep hspos hend hs
   go_wp2_with fail
   have hb0:Below wr.heap.size wr (wr.alloc (.cells #[.bool false,.slice none 0 0] 178)):=br.alloc lr _;refine(Qsd wr.heap.size 0 _ _ (x:Int) (gk:Int) HG.out vx u5 NoA _ (heap_alloc_new wr _) (by decide) Qbh (hxb (hB.trans (hb0.mono hB.size))) (hr.below hb0) HL.out.1).mono ?_;rintro e w5 ⟨rfl,hp5⟩;rw[show((x:Int)).tdiv (gk:Int)=((x/gk:Nat):Int) from rfl] at hp5;obtain⟨C5,a1,a2,a3,a4⟩:=hp5.own (by decide) Qbh;have hb5:Below wr.heap.size wr w5:=hb0.trans (hp5.1.below lr hb0.size)
   go_wp2_with fail
   refine(Kqk wr.heap.size 0 C5 _ ((x/gk:Nat):Int) (gk:Int) _ u5 NoA w5 a1 a2 a3 a4 (hr.below hb5) HL.out.2.2.1 HL.out.2.1).mono ?_;rintro e w6 ⟨rfl,hp6⟩;rw[show((x/gk:Nat):Int)+(gk:Int)=((x/gk+gk:Nat):Int) by omega] at hp6;obtain⟨C6,c1,c2,c3,c4⟩:=hp6.own a2 a3;have hb6:Below wr.heap.size wr w6:=hb5.trans (hp6.1.below lr hb5.size)
   go_wp2_with fail
   refine(Uex wr.heap.size 0 C6 _ (x/gk+gk) _ 1 NoA w6 c1 c2 c3 c4 HL.out.2.2.2.1 (by decide)).mono ?_;rintro e w7 ⟨rfl,hp7⟩;rw[<-HS2.out] at hp7;obtain⟨C7,d1,d2,d3,d4⟩:=hp7.own c2 c3;have hb7:Below wr.heap.size wr w7:=hb6.trans (hp7.1.below lr hb6.size);clear hp5 hp6 hp7 a1 a2 a3 a4 c1 c2 c3 c4
   go_wp2_with fail
   refine(Qxn (s:Int) (gk:Int) _ u5 NoA w7 d4 (hr.below hb7) HL.out.2.2.2.2 HL.out.2.1).mono ?_;rintro e w8 ⟨rfl,hb8⟩;have hb9:Below wr.heap.size wr w8:=hb7.trans (hb8.mono hb7.size)
   by_cases hc:s<gk
   .rw[show Qhv (s:Int) (gk:Int)=-1 by unfold Qhv;rw[if_pos (by omega)]]
    go_wp2_with fail
    go_roundg s
    case rel=>exact⟨d4.below hb8,hid HW.out.2.1,hid HW.out.1,hid (HW.out.2.2.2 hc),hB.trans (hb9.mono hB.size)⟩
    case measure=>exact hc
   .have hR:gk=R:=Uba (HW.out.2.2.1 (by omega)) hf.out h1 h2;have hset:=Qnf m o C T (gk:Int) u5 NoA w8 ((hb9.block m (by have:=hB.size;omega)).trans ((hB.block m hmlt).trans HM.out.1)) ho HM.out.2 (hr.below hb9) HL.out.2.1;have HT:=hid hset;have hfin:Below w.heap.size w w8:=hB.trans (hb9.mono hB.size);clear hset d1 d2 d3 d4 hr
    by_cases hc2:gk<s
    .rw[show Qhv (s:Int) (gk:Int)=1 by unfold Qhv;rw[if_neg (by omega),if_pos (by omega)]]
     go_wp2_with (go_at_call 216;refine HT.out.mono ?_;rintro e w9 ⟨rfl,hp9⟩)
     go_ret
     rw[hR] at hp9;exact⟨rfl,hp9.below hfin⟩
    .rw[show Qhv (s:Int) (gk:Int)=0 by unfold Qhv;rw[if_neg (by omega),if_neg (by omega)]]
     go_wp2_with (go_at_call 216;refine HT.out.mono ?_;rintro e w9 ⟨rfl,hp9⟩)
     go_ret
     rw[hR] at hp9;exact⟨rfl,hp9.below hfin⟩
end Go.Proofs.YtcjjdooeogmdbaaGreat
namespace Tr
end Tr
namespace Go.Proofs.YtcjjdooeogmdbaaGreat
open Go.RowKit Tr Proofs.Tryz
def Uoc{a b:Rat}(ha:0<=a)(hb:0<=b)(h:a*a=b*b):a=b:=by
 have h1:(a-b)*(a+b)=0:=by grind
 rcases Rat.mul_eq_zero.1 h1 with h|h
 .grind
 .have h2:a=0:=by grind
  grind
def Qjx(q:Rat):Prop:=∃ r,0<=r/\r*r=q
open Classical in
noncomputable def sqr(q:Rat):Rat:=if h:Qjx q then h.choose else 0
def Qlq{q:Rat}(h:Qjx q):0<=sqr q/\sqr q*sqr q=q:=by
 unfold sqr;rw[dif_pos h];exact h.choose_spec
def Udn{q r:Rat}(h0:0<=r)(h:r*r=q):Qjx q/\sqr q=r:=by
 have hh:Qjx q:=⟨r,h0,h⟩
 exact⟨hh,Uoc (Qlq hh).1 h0 ((Qlq hh).2.trans h.symm)⟩
def Koq(q:Rat):0<=sqr q:=by
 unfold sqr;split
 .rename_i h;exact h.choose_spec.1
 .exact Rat.le_refl
def nm(z:QC):Rat:=z.re*z.re+z.im*z.im
def Kdo(r:Rat):Nat.gcd (r.num*r.num).natAbs (r.den*r.den)=1:=by
 rw[Int.natAbs_mul];have h:Nat.Coprime r.num.natAbs r.den:=r.reduced;exact(h.mul_left h).mul_right (h.mul_left h)
def Qoo{q:Rat}(h:Qjx q):q.num=(sqr q).num*(sqr q).num/\q.den=(sqr q).den*(sqr q).den:=by
 have e:=(Qlq h).2;generalize sqr q=r at *
 subst e;have g:=Kdo r;constructor
 .rw[Rat.num_mul,g];simp
 .rw[Rat.den_mul,g];simp
def Qzr(n:Nat):∃ R,R*R<=n/\n<(R+1)*(R+1):=by
 induction n with
 | zero=>exact⟨0,by decide,by decide⟩
 | succ n ih =>
  obtain⟨R,h1,h2⟩:=ih
  by_cases h:n+1<(R+1)*(R+1)
  .exact⟨R,by omega,h⟩
  .refine⟨R+1,by omega,?_⟩;have:(R+1+1)*(R+1+1)=(R+1)*(R+1)+2*R+3:=by rw[Nat.mul_add,Nat.add_mul];omega
   omega
def Ktt{R S n:Nat}(h1:R*R<=n)(h2:n<(R+1)*(R+1))(h:S*S=n):R=S:=by
 subst h;rcases Nat.lt_trichotomy R S with k|k|k
 .exact absurd (Nat.mul_le_mul (show R+1<=S from k) (show R+1<=S from k)) (by omega)
 .exact k
 .exact absurd (Nat.mul_le_mul (show S+1<=R from k) (show S+1<=R from k)) (by
   have:(S+1)*(S+1)=S*S+2*S+1:=by rw[Nat.mul_add,Nat.add_mul];omega
   omega)
def Kdx{q:Rat}(h0:0<=q){R D:Nat}(r1:R*R<=q.num.natAbs)(r2:q.num.natAbs<(R+1)*(R+1))(d1:D*D<=q.den)(d2:q.den<(D+1)*(D+1)) :
  (Qjx q↔R*R=q.num.natAbs/\D*D=q.den)/\D≠0/\(Qjx q->sqr q=Rat.divInt R D/\(sqr q).num=R/\(sqr q).den=D):=by
 have hD:D≠0:=by
  intro e;subst e;have:=q.den_nz;have:q.den<1:=d2;omega
 have hn:(q.num.natAbs:Int)=q.num:=Int.natAbs_of_nonneg (Rat.num_nonneg.2 h0);have key:Qjx q->(sqr q).num=R/\(sqr q).den=D:=fun h=>by
  obtain⟨e1,e2⟩:=Qoo h;have hs:0<=(sqr q).num:=Rat.num_nonneg.2 (Koq q);have e3:(sqr q).num.natAbs*(sqr q).num.natAbs=q.num.natAbs:=by rw[<-Int.natAbs_mul,<-e1]
  have e4:=Ktt r1 r2 e3;have e5:=Ktt d1 d2 e2.symm;exact⟨by rw[e4];exact(Int.natAbs_of_nonneg hs).symm,e5.symm⟩
 refine⟨⟨fun h=>?_,fun⟨e1,e2⟩=>?_⟩,hD,fun h=>⟨?_,key h⟩⟩
 .obtain⟨e1,e2⟩:=Qoo h;obtain⟨k1,k2⟩:=key h;refine⟨?_,by rw[e2,k2]⟩;rw[e1,k1,Int.natAbs_mul,Int.natAbs_natCast]
 .refine⟨Rat.divInt R D,?_,?_⟩
  .exact Rat.divInt_nonneg (Int.natCast_nonneg R) (Int.natCast_nonneg D)
  .rw[Rat.divInt_mul_divInt]
   conv=>rhs;rw[<-Rat.num_divInt_den q]
   rw[<-hn,<-e1,<-e2,Int.natCast_mul,Int.natCast_mul]
 .obtain⟨k1,k2⟩:=key h
  conv=>lhs;rw[<-Rat.num_divInt_den (sqr q)]
  rw[k1,k2]
def Ukd{q:Rat}{k:Nat}(h:RL q k)(hk:1<=k):RL (sqr q) k:=by
 by_cases hq:Qjx q
 .obtain⟨e1,e2⟩:=Qoo hq;have le:∀ n:Nat,n<=n*n:=fun n=>by rcases n with _|n;exact Nat.le_refl _;exact Nat.le_mul_of_pos_left _ (by omega)
  refine⟨Qfx ?_ h.1,Qfx ?_ h.2⟩
  .rw[e1,Int.natAbs_mul];exact le _
  .rw[e2];exact le _
 .have:sqr q=0:=by unfold sqr;rw[dif_neg hq]
  rw[this];exact⟨by simp[Qad],Nat.le_trans (Qak (k:=1) (by decide)) hk⟩
def Udp{n k:Nat}(h:(Qad n).length<=k):(Qcj n).size<=4*k:=by
 rw[Qgg];refine Qjj (Nat.lt_of_lt_of_le (Qcc n) ?_);rw[show(4294967296:Nat)=256^4 from rfl,<-Nat.pow_mul];exact Nat.pow_le_pow_right (by decide) (by omega)
def Uyt(x y:Int)(hx:WL x.natAbs 1073741824)(hy:WL y.natAbs 1073741824):PureC prog 165 [Qfh x,Qfh y] (.int .i64 (Qhv x y)):=by
  have sx:=Kgo x;have sy:=Kgo y;have hu:=Ksc x.natAbs y.natAbs (hx.mono (by decide));rcases Int.lt_trichotomy x 0 with h1|h1|h1<;>rcases Int.lt_trichotomy y 0 with h2|h2|h2
  · rw[Int.sign_eq_neg_one_of_neg h1] at sx;rw[Int.sign_eq_neg_one_of_neg h2] at sy;rcases(by omega:x.natAbs<y.natAbs\/x.natAbs=y.natAbs\/y.natAbs<x.natAbs) with h3|h3|h3
    · rw[show Qgh x.natAbs y.natAbs=-1 by unfold Qgh;rw[if_pos (by omega)]] at hu;rw[show Qhv x y=1 by unfold Qhv;rw[if_neg (by omega),if_pos (by omega)]];exact Qay (hp := true) (L := cz x ++ cz y ++ [gw (Qad x.natAbs),gw (Qad y.natAbs)]) Qai Qap
          [gp 126 [.row [.sym 0,.sym 1]] (.r (.c (.lit (.int .i64 (-1))))) eo126 sx rfl rfl,gp 126 [.row [.sym 2,.sym 3]] (.r (.c (.lit (.int .i64 (-1))))) eo126 sy rfl rfl,gm1 209 (.c (.sym 1)) (.r (.c (.sym 4))) eo209 (Qdu x.natAbs (hx.mono (by decide))),gm1 209 (.c (.sym 3)) (.r (.c (.sym 5))) eo209 (Qdu y.natAbs (hy.mono (by decide))),Qva 210 (.c (.sym 4)) (.c (.sym 5)) (.r (.c (.lit (.int .i64 (-1))))) eo210 hu] [] []
          func165 100 [.row [.sym 0,.sym 1],.row [.sym 2,.sym 3]] (.r (.c (.lit (.int .i64 1)))) (by kernel_rfl) rfl rfl
    · rw[show Qgh x.natAbs y.natAbs=0 by unfold Qgh;rw[if_neg (by omega),if_neg (by omega)]] at hu;rw[show Qhv x y=0 by unfold Qhv;rw[if_neg (by omega),if_neg (by omega)]];exact Qay (hp := true) (L := cz x ++ cz y ++ [gw (Qad x.natAbs),gw (Qad y.natAbs)]) Qai Qap
          [gp 126 [.row [.sym 0,.sym 1]] (.r (.c (.lit (.int .i64 (-1))))) eo126 sx rfl rfl,gp 126 [.row [.sym 2,.sym 3]] (.r (.c (.lit (.int .i64 (-1))))) eo126 sy rfl rfl,gm1 209 (.c (.sym 1)) (.r (.c (.sym 4))) eo209 (Qdu x.natAbs (hx.mono (by decide))),gm1 209 (.c (.sym 3)) (.r (.c (.sym 5))) eo209 (Qdu y.natAbs (hy.mono (by decide))),Qva 210 (.c (.sym 4)) (.c (.sym 5)) (.r (.c (.lit (.int .i64 0)))) eo210 hu] [] []
          func165 100 [.row [.sym 0,.sym 1],.row [.sym 2,.sym 3]] (.r (.c (.lit (.int .i64 0)))) (by kernel_rfl) rfl rfl
    · rw[show Qgh x.natAbs y.natAbs=1 by unfold Qgh;rw[if_neg (by omega),if_pos (by omega)]] at hu;rw[show Qhv x y=-1 by unfold Qhv;rw[if_pos (by omega)]];exact Qay (hp := true) (L := cz x ++ cz y ++ [gw (Qad x.natAbs),gw (Qad y.natAbs)]) Qai Qap
          [gp 126 [.row [.sym 0,.sym 1]] (.r (.c (.lit (.int .i64 (-1))))) eo126 sx rfl rfl,gp 126 [.row [.sym 2,.sym 3]] (.r (.c (.lit (.int .i64 (-1))))) eo126 sy rfl rfl,gm1 209 (.c (.sym 1)) (.r (.c (.sym 4))) eo209 (Qdu x.natAbs (hx.mono (by decide))),gm1 209 (.c (.sym 3)) (.r (.c (.sym 5))) eo209 (Qdu y.natAbs (hy.mono (by decide))),Qva 210 (.c (.sym 4)) (.c (.sym 5)) (.r (.c (.lit (.int .i64 1)))) eo210 hu] [] []
          func165 100 [.row [.sym 0,.sym 1],.row [.sym 2,.sym 3]] (.r (.c (.lit (.int .i64 (-1))))) (by kernel_rfl) rfl rfl
  · rw[Int.sign_eq_neg_one_of_neg h1] at sx;rw[(by rw[h2];rfl:y.sign=0)] at sy;rw[show Qhv x y=-1 by unfold Qhv;rw[if_pos (by omega)]];exact Qay (hp := true) (L := cz x ++ cz y ++ [gw (Qad x.natAbs),gw (Qad y.natAbs)]) Qai Qap
          [gp 126 [.row [.sym 0,.sym 1]] (.r (.c (.lit (.int .i64 (-1))))) eo126 sx rfl rfl,gp 126 [.row [.sym 2,.sym 3]] (.r (.c (.lit (.int .i64 0)))) eo126 sy rfl rfl] [] []
          func165 100 [.row [.sym 0,.sym 1],.row [.sym 2,.sym 3]] (.r (.c (.lit (.int .i64 (-1))))) (by kernel_rfl) rfl rfl
  · rw[Int.sign_eq_neg_one_of_neg h1] at sx;rw[Int.sign_eq_one_of_pos h2] at sy;rw[show Qhv x y=-1 by unfold Qhv;rw[if_pos (by omega)]];exact Qay (hp := true) (L := cz x ++ cz y ++ [gw (Qad x.natAbs),gw (Qad y.natAbs)]) Qai Qap
          [gp 126 [.row [.sym 0,.sym 1]] (.r (.c (.lit (.int .i64 (-1))))) eo126 sx rfl rfl,gp 126 [.row [.sym 2,.sym 3]] (.r (.c (.lit (.int .i64 1)))) eo126 sy rfl rfl] [] []
          func165 100 [.row [.sym 0,.sym 1],.row [.sym 2,.sym 3]] (.r (.c (.lit (.int .i64 (-1))))) (by kernel_rfl) rfl rfl
  · rw[(by rw[h1];rfl:x.sign=0)] at sx;rw[Int.sign_eq_neg_one_of_neg h2] at sy;rw[show Qhv x y=1 by unfold Qhv;rw[if_neg (by omega),if_pos (by omega)]];exact Qay (hp := true) (L := cz x ++ cz y ++ [gw (Qad x.natAbs),gw (Qad y.natAbs)]) Qai Qap
          [gp 126 [.row [.sym 0,.sym 1]] (.r (.c (.lit (.int .i64 0)))) eo126 sx rfl rfl,gp 126 [.row [.sym 2,.sym 3]] (.r (.c (.lit (.int .i64 (-1))))) eo126 sy rfl rfl] [] []
          func165 100 [.row [.sym 0,.sym 1],.row [.sym 2,.sym 3]] (.r (.c (.lit (.int .i64 1)))) (by kernel_rfl) rfl rfl
  · rw[(by rw[h1];rfl:x.sign=0)] at sx;rw[(by rw[h2];rfl:y.sign=0)] at sy;rw[show Qgh x.natAbs y.natAbs=0 by unfold Qgh;rw[if_neg (by omega),if_neg (by omega)]] at hu;rw[show Qhv x y=0 by unfold Qhv;rw[if_neg (by omega),if_neg (by omega)]];exact Qay (hp := true) (L := cz x ++ cz y ++ [gw (Qad x.natAbs),gw (Qad y.natAbs)]) Qai Qap
          [gp 126 [.row [.sym 0,.sym 1]] (.r (.c (.lit (.int .i64 0)))) eo126 sx rfl rfl,gp 126 [.row [.sym 2,.sym 3]] (.r (.c (.lit (.int .i64 0)))) eo126 sy rfl rfl,gm1 209 (.c (.sym 1)) (.r (.c (.sym 4))) eo209 (Qdu x.natAbs (hx.mono (by decide))),gm1 209 (.c (.sym 3)) (.r (.c (.sym 5))) eo209 (Qdu y.natAbs (hy.mono (by decide))),Qva 210 (.c (.sym 4)) (.c (.sym 5)) (.r (.c (.lit (.int .i64 0)))) eo210 hu] [] []
          func165 100 [.row [.sym 0,.sym 1],.row [.sym 2,.sym 3]] (.r (.c (.lit (.int .i64 0)))) (by kernel_rfl) rfl rfl
  · rw[(by rw[h1];rfl:x.sign=0)] at sx;rw[Int.sign_eq_one_of_pos h2] at sy;rw[show Qhv x y=-1 by unfold Qhv;rw[if_pos (by omega)]];exact Qay (hp := true) (L := cz x ++ cz y ++ [gw (Qad x.natAbs),gw (Qad y.natAbs)]) Qai Qap
          [gp 126 [.row [.sym 0,.sym 1]] (.r (.c (.lit (.int .i64 0)))) eo126 sx rfl rfl,gp 126 [.row [.sym 2,.sym 3]] (.r (.c (.lit (.int .i64 1)))) eo126 sy rfl rfl] [] []
          func165 100 [.row [.sym 0,.sym 1],.row [.sym 2,.sym 3]] (.r (.c (.lit (.int .i64 (-1))))) (by kernel_rfl) rfl rfl
  · rw[Int.sign_eq_one_of_pos h1] at sx;rw[Int.sign_eq_neg_one_of_neg h2] at sy;rw[show Qhv x y=1 by unfold Qhv;rw[if_neg (by omega),if_pos (by omega)]];exact Qay (hp := true) (L := cz x ++ cz y ++ [gw (Qad x.natAbs),gw (Qad y.natAbs)]) Qai Qap
          [gp 126 [.row [.sym 0,.sym 1]] (.r (.c (.lit (.int .i64 1)))) eo126 sx rfl rfl,gp 126 [.row [.sym 2,.sym 3]] (.r (.c (.lit (.int .i64 (-1))))) eo126 sy rfl rfl] [] []
          func165 100 [.row [.sym 0,.sym 1],.row [.sym 2,.sym 3]] (.r (.c (.lit (.int .i64 1)))) (by kernel_rfl) rfl rfl
  · rw[Int.sign_eq_one_of_pos h1] at sx;rw[(by rw[h2];rfl:y.sign=0)] at sy;rw[show Qhv x y=1 by unfold Qhv;rw[if_neg (by omega),if_pos (by omega)]];exact Qay (hp := true) (L := cz x ++ cz y ++ [gw (Qad x.natAbs),gw (Qad y.natAbs)]) Qai Qap
          [gp 126 [.row [.sym 0,.sym 1]] (.r (.c (.lit (.int .i64 1)))) eo126 sx rfl rfl,gp 126 [.row [.sym 2,.sym 3]] (.r (.c (.lit (.int .i64 0)))) eo126 sy rfl rfl] [] []
          func165 100 [.row [.sym 0,.sym 1],.row [.sym 2,.sym 3]] (.r (.c (.lit (.int .i64 1)))) (by kernel_rfl) rfl rfl
  · rw[Int.sign_eq_one_of_pos h1] at sx;rw[Int.sign_eq_one_of_pos h2] at sy;rcases(by omega:x.natAbs<y.natAbs\/x.natAbs=y.natAbs\/y.natAbs<x.natAbs) with h3|h3|h3
    · rw[show Qgh x.natAbs y.natAbs=-1 by unfold Qgh;rw[if_pos (by omega)]] at hu;rw[show Qhv x y=-1 by unfold Qhv;rw[if_pos (by omega)]];exact Qay (hp := true) (L := cz x ++ cz y ++ [gw (Qad x.natAbs),gw (Qad y.natAbs)]) Qai Qap
          [gp 126 [.row [.sym 0,.sym 1]] (.r (.c (.lit (.int .i64 1)))) eo126 sx rfl rfl,gp 126 [.row [.sym 2,.sym 3]] (.r (.c (.lit (.int .i64 1)))) eo126 sy rfl rfl,gm1 209 (.c (.sym 1)) (.r (.c (.sym 4))) eo209 (Qdu x.natAbs (hx.mono (by decide))),gm1 209 (.c (.sym 3)) (.r (.c (.sym 5))) eo209 (Qdu y.natAbs (hy.mono (by decide))),Qva 210 (.c (.sym 4)) (.c (.sym 5)) (.r (.c (.lit (.int .i64 (-1))))) eo210 hu] [] []
          func165 100 [.row [.sym 0,.sym 1],.row [.sym 2,.sym 3]] (.r (.c (.lit (.int .i64 (-1))))) (by kernel_rfl) rfl rfl
    · rw[show Qgh x.natAbs y.natAbs=0 by unfold Qgh;rw[if_neg (by omega),if_neg (by omega)]] at hu;rw[show Qhv x y=0 by unfold Qhv;rw[if_neg (by omega),if_neg (by omega)]];exact Qay (hp := true) (L := cz x ++ cz y ++ [gw (Qad x.natAbs),gw (Qad y.natAbs)]) Qai Qap
          [gp 126 [.row [.sym 0,.sym 1]] (.r (.c (.lit (.int .i64 1)))) eo126 sx rfl rfl,gp 126 [.row [.sym 2,.sym 3]] (.r (.c (.lit (.int .i64 1)))) eo126 sy rfl rfl,gm1 209 (.c (.sym 1)) (.r (.c (.sym 4))) eo209 (Qdu x.natAbs (hx.mono (by decide))),gm1 209 (.c (.sym 3)) (.r (.c (.sym 5))) eo209 (Qdu y.natAbs (hy.mono (by decide))),Qva 210 (.c (.sym 4)) (.c (.sym 5)) (.r (.c (.lit (.int .i64 0)))) eo210 hu] [] []
          func165 100 [.row [.sym 0,.sym 1],.row [.sym 2,.sym 3]] (.r (.c (.lit (.int .i64 0)))) (by kernel_rfl) rfl rfl
    · rw[show Qgh x.natAbs y.natAbs=1 by unfold Qgh;rw[if_neg (by omega),if_pos (by omega)]] at hu;rw[show Qhv x y=1 by unfold Qhv;rw[if_neg (by omega),if_pos (by omega)]];exact Qay (hp := true) (L := cz x ++ cz y ++ [gw (Qad x.natAbs),gw (Qad y.natAbs)]) Qai Qap
          [gp 126 [.row [.sym 0,.sym 1]] (.r (.c (.lit (.int .i64 1)))) eo126 sx rfl rfl,gp 126 [.row [.sym 2,.sym 3]] (.r (.c (.lit (.int .i64 1)))) eo126 sy rfl rfl,gm1 209 (.c (.sym 1)) (.r (.c (.sym 4))) eo209 (Qdu x.natAbs (hx.mono (by decide))),gm1 209 (.c (.sym 3)) (.r (.c (.sym 5))) eo209 (Qdu y.natAbs (hy.mono (by decide))),Qva 210 (.c (.sym 4)) (.c (.sym 5)) (.r (.c (.lit (.int .i64 1)))) eo210 hu] [] []
          func165 100 [.row [.sym 0,.sym 1],.row [.sym 2,.sym 3]] (.r (.c (.lit (.int .i64 1)))) (by kernel_rfl) rfl rfl
def Uxn(x y:Rat)(hx:RL x 134217728)(hy:RL y 134217728):PureC prog 82 [Qgf x,Qgf y] (.int .i64 (Qff x y)):=by
  have hc:=Uyt (x.num*(y.den:Int)) (y.num*(x.den:Int)) ((WL.mul hx.wn hy.wd.i).mono (by decide)) ((WL.mul hy.wn hx.wd.i).mono (by decide));rw[Kip] at hc;exact Qay (hp:=false) (L:=cF (x)++cF (y)++cz (x.num*(y.den:Int))++cz (y.num*(x.den:Int))++[gx (.int .i64 (Qff x y))]) Qai Qap
    [gp 164 [.row [.sym 0,.sym 1],.row [.lit (.bool false),.sym 5]] (.r (.row [.sym 6,.sym 7])) eo164 (Qlr _ _ (hx.wn.mono (by decide)) (hy.wd.mono (by decide))) rfl rfl,gp 164 [.row [.sym 3,.sym 4],.row [.lit (.bool false),.sym 2]] (.r (.row [.sym 8,.sym 9])) eo164 (Qlr _ _ (hy.wn.mono (by decide)) (hx.wd.mono (by decide))) rfl rfl,gp 165 [.row [.sym 6,.sym 7],.row [.sym 8,.sym 9]] (.r (.c (.sym 10))) eo165 hc rfl rfl]
    [] []
    func82 100 [.row [.sym 0,.sym 1,.lit (.bool false),.sym 2],.row [.sym 3,.sym 4,.lit (.bool false),.sym 5]] (.r (.c (.sym 10))) (by kernel_rfl) rfl rfl
def Ulp(n d:Int)(h1:-9223372036854775808<=n)(h2:n<9223372036854775808)(h3:-9223372036854775808<=d)(h4:d<9223372036854775808)(h0:d≠0):PureC prog 40 [.int .i64 n,.int .i64 d] (Qgf (Rat.divInt n d)):=by
  have ho:=fof n d h0 (Nat.le_trans (Qak (k:=2) (by omega)) (by decide)) (Nat.le_trans (Qak (k:=2) (by omega)) (by decide));exact Qay (hp:=false) (L:=[gx (.int .i64 n),gx (.int .i64 d)]++cz n++cz d++cF (Rat.divInt n d)) Qai Qap
    [gp 99 [.c (.sym 0)] (.r (.row [.sym 2,.sym 3])) eo99 (sof n h1 h2) rfl rfl,gp 99 [.c (.sym 1)] (.r (.row [.sym 4,.sym 5])) eo99 (sof d h3 h4) rfl rfl,gp 102 [.row [.sym 2,.sym 3],.row [.sym 4,.sym 5]] (.r (.row [.sym 6,.sym 7,.lit (.bool false),.sym 8])) eo102 ho rfl rfl]
    [] []
    func40 100 [.c (.sym 0),.c (.sym 1)] (.r (.row [.sym 6,.sym 7,.lit (.bool false),.sym 8])) (by kernel_rfl) rfl rfl
def N1(z:QC):FR:=.row (cn z)
def R1(q:Rat):FR:=.c (gr q)
def qc0{z:QC}:z=⟨0,0⟩↔z.re=0/\z.im=0:=⟨fun h=>by rw[h];exact⟨rfl,rfl⟩,fun h=>Qcs h.1 h.2⟩
def Koa{z:QC}(h:z≠⟨0,0⟩):z.re*z.re+z.im*z.im≠0:=fun e=>h (qc0.2 (Ksz.1 e))
def Kqr{x y:QC}{k l:Nat}(h0:y≠⟨0,0⟩)(hx:ZL x k)(hy:ZL y l):ZL (x/y) (k+l+(k+l)+1+(l+l+(l+l)+1)):=Ukg (Koa h0) hx hy
def Qal{z:QC}{k:Nat}(h:ZL z k):RL (z.re*z.re+z.im*z.im) (k+k+(k+k)+1):=Qca (Qam h.1 h.1) (Qam h.2 h.2)
def Qhu{z:QC}{k:Nat}(h:ZL z k):ZL (cj z) k:=⟨h.1,Qbq h.2⟩
def Qbj(i j:Int)(a1:-9223372036854775808<=i:=by decide)(a2:i<9223372036854775808:=by decide)(b1:-9223372036854775808<=j:=by decide)(b2:j<9223372036854775808:=by decide):ZL ⟨(i:Rat),(j:Rat)⟩ 2:=⟨Qvl i a1 a2,Qvl j b1 b2⟩
def Qex(x y:QC){m l:Nat}(hx:ZL x m)(hy:ZL y l)(hb:m+l+(m+l)<137438953472):Qbx prog true 115 [N1 x,N1 y] (.r (N1 (x*y))) :=
 Kgn eo115 fun w A u v hR _ hu hv=>(Kic x.re x.im y.re y.im u v A w (Qgv.1 hu) (Qgv.1 hv) (hR rfl) m l hx.1 hx.2 hy.1 hy.2 hb).mono fun e w' ⟨z,h1,h2,h3⟩=>⟨z,h1,Qgv.2 h3,h2⟩
def Qeo(x y:QC){m l:Nat}(hx:ZL x m)(hy:ZL y l)(hb:m+l+(m+l)<137438953472):Qbx prog true 114 [N1 x,N1 y] (.r (N1 (x-y))) :=
 Kgn eo114 fun w A u v hR _ hu hv=>(Kxv x.re x.im y.re y.im u v A w (Qgv.1 hu) (Qgv.1 hv) (hR rfl) m l hx.1 hx.2 hy.1 hy.2 hb).mono fun e w' ⟨z,h1,h2,h3⟩=>⟨z,h1,Qgv.2 h3,h2⟩
def Qmr(x:QC)(hx:ZL x 137438953472):Qbx prog true 120 [N1 x] (.r (N1 (cj x))) :=
 Qqe eo120 fun w A u hR _ hu=>(Kbf x.re x.im u A w (Qgv.1 hu) (hR rfl) hx.2).mono fun e w' ⟨z,h1,h2,h3⟩=>⟨z,h1,Qgv.2 h3,h2⟩
def Qqq(x:QC)(r:Bool)(hr:r=true↔x=⟨0,0⟩):Qbx prog true 174 [N1 x] (B1 r) :=
 Qqe eo174 fun w A u hR _ hu=>(Kqo x.re x.im u A w (Qgv.1 hu) r (hr.trans qc0)).mono fun e w' h=>⟨_,h.1,rfl,h.2⟩
def Kgc(x y:QC)(h0:y≠⟨0,0⟩){m l:Nat}(hx:ZL x m)(hy:ZL y l)(hb:(m+l+(m+l)+1)+(l+l+(l+l)+1)<137438953472):Qbx prog true 123 [N1 x,N1 y] (.r (N1 (x/y))) :=
 Kgn eo123 fun w A u v hR _ hu hv=>(Kxu x.re x.im y.re y.im _ rfl (Koa h0) u v A w (Qgv.1 hu) (Qgv.1 hv) (hR rfl) m l hx.1 hx.2 hy.1 hy.2 hb).mono fun e w' ⟨z,h1,h2,h3⟩=>⟨z,h1,Qgv.2 h3,h2⟩
def Qtf(i j:Int)(a1:-9223372036854775808<=i:=by decide)(a2:i<9223372036854775808:=by decide)(b1:-9223372036854775808<=j:=by decide)(b2:j<9223372036854775808:=by decide):Qbx prog true 116 [.c (gx (.int .i64 i)),.c (gx (.int .i64 j))] (.r (N1 ⟨(i:Rat),(j:Rat)⟩)) :=
 Kgn eo116 fun w A u v hR _ hu hv=>by
  cases(hu:u=_);cases(hv:v=_);exact(Kxp i j a1 a2 b1 b2 A w (hR rfl)).mono fun e w' ⟨z,h1,h2,h3⟩=>⟨z,h1,Qgv.2 h3,h2⟩
def Kns{z:QC}(h:Qac z){w:World}{A:Nat->Prop}:FV.R (.tup [.row (Qah z).cells,.c (gl (.int .i64 0))]) (.tuple #[Kzm z.re z.im,.int .i64 (Qyq z.re z.im)]) w A:=by
 refine(FV.val_ok (u:=.tuple #[(Qah z).val,.int .i64 0]) (by kernel_rfl)).2 ?_;rw[Kzm,Qyq,if_pos (show Qar z.re/\Qar z.im from h),if_pos (show Qar z.re/\Qar z.im from h),Qkj];rfl
def Qez(z:QC)(hz:ZL z 137438953472)(h:Qac z):Qbx prog true 51 [N1 z] (.tup [.row (Qah z).cells,.c (gl (.int .i64 0))]) :=
 Qqe eo51 fun w A u hR _ hu=>(Kbg z.re z.im u A w (Qgv.1 hu) hz.1 hz.2).mono fun e w' h1=>⟨_,h1.1,Kns h,h1.2⟩
def Ktd{z:QC}(h:¬Qac z){w:World}{A:Nat->Prop}:FV.R (.tup [.row zGG,.c (gl (.int .i64 4))]) (.tuple #[Kzm z.re z.im,.int .i64 (Qyq z.re z.im)]) w A:=by
 refine(FV.val_ok (u:=.tuple #[zG,.int .i64 4]) (by kernel_rfl)).2 ?_;rw[Kzm,Qyq,if_neg (show ¬(Qar z.re/\Qar z.im) from h),if_neg (show ¬(Qar z.re/\Qar z.im) from h)]
def Qzi(z:QC)(hz:ZL z 137438953472)(h:¬Qac z):Qbx prog true 51 [N1 z] (.tup [.row zGG,.c (gl (.int .i64 4))]) :=
 Qqe eo51 fun w A u hR _ hu=>(Kbg z.re z.im u A w (Qgv.1 hu) hz.1 hz.2).mono fun e w' h1=>⟨_,h1.1,Ktd h,h1.2⟩
def Qew(z:QC)(h:Qac z):Qbx prog true 154 [.row (Qah z).cells] (.tup [N1 z,.c (gl (.bool true))]) :=
 Qqe eo154 fun w A u hR _ hu=>by
  rw[(FR.val_ok (u:=(Qah z).val) (x:=.row (Qah z).cells) (by kernel_rfl)).1 hu];obtain⟨l1,l2,l3,l4⟩:=Kld h;have hg:Qpf (Qah z).val:=⟨z,by rw[Qkj];rfl,h.1,h.2⟩
  refine(Ues _ _ _ _ _ _ _ _ (Nat.lt_of_le_of_lt l1 (by decide)) (Nat.lt_of_le_of_lt l2 (by decide)) (Nat.lt_of_le_of_lt l3 (by decide)) (Nat.lt_of_le_of_lt l4 (by decide)) A w (hR rfl) true ⟨fun _=>hg,fun _=>rfl⟩).mono ?_;rintro e w' ⟨u,h1,h2,z',h3,h4⟩;have h5:=h4 hg;have h6:z=z':=Kbr ((Qkj z).symm.trans h5);subst h6;exact⟨_,h1,⟨[u,.bool true],rfl,Qgv.2 h3,rfl,trivial⟩,h2⟩
def Qau(q:Rat):Qbx prog false 45 [R1 q] (.r (.c (gx (.int .i64 q.num.sign)))) :=
 Qqe eo45 fun w A u hR _ hu=>(Qhz q u A w hu).mono fun e w' ⟨h1,h2⟩=>⟨_,h1,rfl,by subst h2;exact Below.refl _ _⟩
def Kdc(x y:Rat){m l:Nat}(hx:RL x m)(hy:RL y l)(hb:m+l<137438953472):Qbx prog true 163 [R1 x,R1 y] (.r (.c (gx (.int .i64 (Qff x y))))) :=
 Kgn eo163 fun w A u v hR _ hu hv=>(Kid x y u v A w hu hv m l hx hy hb).mono fun e w' ⟨h1,h2⟩=>⟨_,h1,rfl,h2⟩
def Kgd(i j:Int)(a1:-9223372036854775808<=i)(a2:i<9223372036854775808)(b1:-9223372036854775808<=j)(b2:j<9223372036854775808)(h0:j≠0):Qbx prog true 190 [.c (gx (.int .i64 i)),.c (gx (.int .i64 j))] (.r (R1 (Rat.divInt i j))) :=
 Kgn eo190 fun w A u v hR _ hu hv=>by
  cases(hu:u=_);cases(hv:v=_);exact(Qph i j a1 a2 b1 b2 h0 w).mono fun e w' ⟨z,h1,h2⟩=>⟨z,h1,h2.2 A (hR rfl),h2.1⟩
def Uvk(x:QC):Qbx prog false 97 [G1 x] (.r (G1 (cj x))):=Qee eo97 (Utv x) (by kernel_rfl) (by kernel_rfl)
def Qky(x:QC)(hx:ZL x 33554432):Qbx prog false 98 [G1 x] (.r (.row (rF (nm x)))):=Qee eo98 (Utw x hx) (by kernel_rfl) (by kernel_rfl)
def F1(q:Rat):FR:=.row (rF q)
def Qco(q:Rat):Qbx prog false 55 [F1 q] (.r (.c (gx (.int .i64 q.num.sign)))):=Qee eo55 (Utm q) (by kernel_rfl) (by kernel_rfl)
def Qkk(n:Int)(h1:-9223372036854775808<=n)(h2:n<9223372036854775808):Qbx prog false 38 [.c (gx (.int .i64 n))] (.r (F1 (n:Rat))):=Qee eo38 (Usg n h1 h2) (by kernel_rfl) (by kernel_rfl)
def Kts(x y:Rat)(hx:RL x 134217728)(hy:RL y 134217728):Qbx prog false 82 [F1 x,F1 y] (.r (.c (gx (.int .i64 (Qff x y))))):=Qee eo82 (Uxn x y hx hy) (by kernel_rfl) (by kernel_rfl)
def Qqu(x y:Rat)(hx:RL x 134217728)(hy:RL y 134217728):Qbx prog false 131 [F1 x,F1 y] (.r (F1 (x+y))):=Qee eo131 (Ufo x y hx hy) (by kernel_rfl) (by kernel_rfl)
def Qav(x y:Rat)(hx:RL x 134217728)(hy:RL y 134217728):Qbx prog false 81 [F1 x,F1 y] (.r (F1 (x*y))):=Qee eo81 (Ksa x y hx hy) (by kernel_rfl) (by kernel_rfl)
def Kdi(x y:Rat)(hx:RL x 134217728)(hy:RL y 134217728)(h0:y≠0):Qbx prog false 127 [F1 x,F1 y] (.r (F1 (x/y))):=Qee eo127 (Usj x y hx hy h0) (by kernel_rfl) (by kernel_rfl)
