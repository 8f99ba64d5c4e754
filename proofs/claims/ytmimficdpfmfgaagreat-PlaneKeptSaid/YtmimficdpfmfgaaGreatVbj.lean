/- Laws for the walk. -/
import Derived.Test.YtmimficdpfmfgaaGreatVbi
import Derived.RangeFuncNested
import Derived.RangeFuncBound
import Derived.RangeFuncCalls
import Derived.RangeFuncLeaves
import Derived.RangeFuncBox
import Derived.Shelf.Abstract
import Derived.Shelf.RegionOpen
import Derived.OwnWalkIn
import Derived.TacticsInMore
import Derived.LoopNIn
import Derived.LoopIn
set_option linter.unusedVariables false
set_option linter.unusedSimpArgs false
set_option maxHeartbeats 4000000
set_option maxRecDepth 100000
set_option linter.unusedSimpArgs false
namespace Go.Proofs.YtmimficdpfmfgaaGreat
open Go.RowKit Tr
def BQ(x:Rat)(n m:Nat):Prop:=∃(a:Int) (d:Nat),0<d∧d<2 ^ m∧a.natAbs<2 ^ n∧x*(d:Rat)=(a:Rat)
theorem p2m{a b:Nat}(h:a≤b):2 ^ a≤2 ^ b:=Nat.pow_le_pow_right (by decide) h
theorem Qfj{a b n m:Nat}(ha:a<2 ^ n)(hb:b<2 ^ m):a*b<2 ^ (n+m):=by
 rw[Nat.pow_add]
 exact Nat.mul_lt_mul'' ha hb
theorem dpos'{d:Nat}(h:0<d):(d:Rat)≠0:=by
 intro e
 have:(d:Rat)=((0:Nat):Rat):=e
 have:=Rat.natCast_inj.1 this
 omega
theorem BQ.mono{x:Rat}{n m n' m':Nat}(h:BQ x n m)(hn:n≤n')(hm:m≤m'):BQ x n' m':=by
 obtain⟨a,d,h1,h2,h3,h4⟩:=h
 exact⟨a,d,h1,Nat.lt_of_lt_of_le h2 (p2m hm),Nat.lt_of_lt_of_le h3 (p2m hn),h4⟩
theorem BQ.int(z:Int)(n:Nat)(h:z.natAbs<2 ^ n):BQ (z:Rat) n 1:=⟨z,1,by decide,by decide,h,by grind⟩
theorem BQ.mul{x y:Rat}{n m k l:Nat}(h:BQ x n m)(g:BQ y k l):BQ (x*y) (n+k) (m+l):=by
 obtain⟨a,d,h1,h2,h3,h4⟩:=h
 obtain⟨b,e,g1,g2,g3,g4⟩:=g
 refine⟨a*b,d*e,Nat.mul_pos h1 g1,Qfj h2 g2,by rw[Int.natAbs_mul]; exact Qfj h3 g3,?_⟩
 rw[Rat.intCast_mul,Rat.natCast_mul,←h4,←g4]
 grind
theorem BQ.neg{x:Rat}{n m:Nat}(h:BQ x n m):BQ (-x) n m:=by
 obtain⟨a,d,h1,h2,h3,h4⟩:=h
 exact⟨-a,d,h1,h2,by rw[Int.natAbs_neg]; exact h3,by rw[Rat.intCast_neg,←h4]; grind⟩
theorem BQ.add{x y:Rat}{n m k l r:Nat}(h:BQ x n m)(g:BQ y k l)(h5:n+l<r)(h6:k+m<r):BQ (x+y) r (m+l):=by
 obtain⟨a,d,h1,h2,h3,h4⟩:=h
 obtain⟨b,e,g1,g2,g3,g4⟩:=g
 refine⟨a*e+b*d,d*e,Nat.mul_pos h1 g1,Qfj h2 g2,?_,?_⟩
 ·have k1:(a*(e:Int)).natAbs<2 ^ (r - 1):=by
   rw[Int.natAbs_mul]; exact Nat.lt_of_lt_of_le (Qfj h3 (by simpa using g2)) (p2m (by omega))
  have k2:(b*(d:Int)).natAbs<2 ^ (r - 1):=by
   rw[Int.natAbs_mul]; exact Nat.lt_of_lt_of_le (Qfj g3 (by simpa using h2)) (p2m (by omega))
  have k3:2 ^ r=2 ^ (r - 1)+2 ^ (r - 1):=by
   obtain⟨s,rfl⟩:∃ s,r=s+1:=⟨r - 1,by omega⟩
   rw[Nat.pow_succ]; simp; omega
  have:=Int.natAbs_add_le (a*(e:Int)) (b*(d:Int))
  omega
 ·rw[Rat.intCast_add,Rat.intCast_mul,Rat.intCast_mul,Rat.natCast_mul,←h4,←g4]
  have i1:((e:Int):Rat)=(e:Rat):=rfl
  have i2:((d:Int):Rat)=(d:Rat):=rfl
  rw[i1,i2]
  grind
theorem BQ.sub{x y:Rat}{n m k l r:Nat}(h:BQ x n m)(g:BQ y k l)(h5:n+l<r)(h6:k+m<r):BQ (x - y) r (m+l):=by
 have:=h.add g.neg h5 h6
 rwa[show x+-y=x - y from by grind] at this
theorem BQ.div{x y:Rat}{n m k l:Nat}(h:BQ x n m)(g:BQ y k l)(hy:y≠0):BQ (x / y) (n+l) (m+k):=by
 obtain⟨a,d,h1,h2,h3,h4⟩:=h
 obtain⟨b,e,g1,g2,g3,g4⟩:=g
 have hb:b≠0:=fun z=>by
  rw[z] at g4
  have:y*(e:Rat)=0:=g4
  rcases Rat.mul_eq_zero.1 this with k|k
  ·exact hy k
  ·exact dpos' g1 k
 have hd:=dpos' h1
 have he:=dpos' g1
 refine⟨a*e*b.sign,d*b.natAbs,Nat.mul_pos h1 (by omega),Qfj h2 g3,?_,?_⟩
 ·rw[Int.natAbs_mul,Int.natAbs_mul,Int.natAbs_sign_of_ne_zero hb,Nat.mul_one]
  exact Qfj h3 (by simpa using g2)
 ·have s:((b.natAbs:Nat):Rat)=(b:Rat)*(b.sign:Rat):=by
   have:(b.natAbs:Int)=b*b.sign:=by rw[Int.mul_sign_self]
   have h0:((b.natAbs:Int):Rat)=((b*b.sign:Int):Rat):=by rw[this]
   rw[Rat.intCast_mul] at h0
   exact h0
  rw[Rat.natCast_mul,s,Rat.intCast_mul,Rat.intCast_mul,←h4,←g4]
  have i1:((e:Int):Rat)=(e:Rat):=rfl
  rw[i1]
  grind
theorem p2w{r k:Nat}(h:r≤32*k):2 ^ r≤4294967296 ^ k:=by
 have h1:=p2m h
 rw[Nat.pow_mul] at h1
 exact h1
theorem BQ.short{x:Rat}{n m:Nat}(h:BQ x n m)(hn:n≤8192)(hm:m≤8192):Qal x:=by
 obtain⟨a,d,h1,h2,h3,h4⟩:=h
 have hd:=dpos' h1
 have e:x=Rat.divInt a d:=by
  rw[Rat.divInt_eq_div,←h4]
  have i2:((d:Int):Rat)=(d:Rat):=rfl
  rw[i2]; grind
 have k1:(Qac a.natAbs).length≤256:=Qak (Nat.lt_of_lt_of_le h3 (p2w (k:=256) hn))
 have k2:(Qac (d:Int).natAbs).length≤256:=Qak (Nat.lt_of_lt_of_le (by simpa using h2) (p2w (k:=256) hm))
 have k:=Qil (a:=a) (b:=(d:Int)) (by omega) k1 k2
 rw[←e] at k
 exact⟨str_sz k.1,str_sz k.2⟩
theorem BQ.of_size{q:Rat}{k:Nat}(h1:(Qck q.num.natAbs).size≤k)(h2:(Qck q.den).size≤k):BQ q (8*k) (8*k):=by
 have l:∀{n:Nat},(Qck n).size≤k→n<2 ^ (8*k):=fun{n} h=>by
  have:=numS_lt (Qck n)
  rw[Qdr] at this
  rw[Nat.pow_mul]
  exact Nat.lt_of_lt_of_le this (Nat.pow_le_pow_right (by decide) h)
 refine⟨q.num,q.den,q.den_pos,l h2,l h1,?_⟩
 have e:q=(q.num:Rat) / (q.den:Rat):=by
  have:=Rat.num_divInt_den q
  rw[Rat.divInt_eq_div] at this
  exact this.symm
 have hd:=dpos' q.den_pos
 have k:q*(q.den:Rat)=(q.num:Rat) / (q.den:Rat)*(q.den:Rat):=by rw[←e]
 rw[k]; grind
def CZ(z:QC)(n m:Nat):Prop:=∃(a b:Int) (d:Nat),0<d∧d<2 ^ m∧a.natAbs<2 ^ n∧b.natAbs<2 ^ n∧z.re*(d:Rat)=(a:Rat)∧z.im*(d:Rat)=(b:Rat)
theorem add_lt2{a b:Int}{n m r:Nat}(ha:a.natAbs<2 ^ n)(hb:b.natAbs<2 ^ m)(h1:n<r)(h2:m<r):(a+b).natAbs<2 ^ r:=by
 have k1:a.natAbs<2 ^ (r - 1):=Nat.lt_of_lt_of_le ha (p2m (by omega))
 have k2:b.natAbs<2 ^ (r - 1):=Nat.lt_of_lt_of_le hb (p2m (by omega))
 have k3:2 ^ r=2 ^ (r - 1)+2 ^ (r - 1):=by
  obtain⟨s,rfl⟩:∃ s,r=s+1:=⟨r - 1,by omega⟩
  rw[Nat.pow_succ]; simp; omega
 have:=Int.natAbs_add_le a b
 omega
theorem Qcu{a b:Int}{n m:Nat}(ha:a.natAbs<2 ^ n)(hb:b.natAbs<2 ^ m):(a*b).natAbs<2 ^ (n+m):=by rw[Int.natAbs_mul]; exact Qfj ha hb
section
variable{z w:QC}{n m k l r s:Nat}
theorem CZ.mono{n' m':Nat}(h:CZ z n m)(hn:n≤n')(hm:m≤m'):CZ z n' m':=by
 obtain⟨a,b,d,h1,h2,h3,h4,h5⟩:=h
 exact⟨a,b,d,h1,Nat.lt_of_lt_of_le h2 (p2m hm),Nat.lt_of_lt_of_le h3 (p2m hn),Nat.lt_of_lt_of_le h4 (p2m hn),h5⟩
theorem CZ.bq(h:CZ z n m):BQ z.re n m∧BQ z.im n m:=by
 obtain⟨a,b,d,h1,h2,h3,h4,h5,h6⟩:=h
 exact⟨⟨a,d,h1,h2,h3,h5⟩,b,d,h1,h2,h4,h6⟩
theorem CZ.short(h:CZ z n m)(hn:n≤8192)(hm:m≤8192):Qab z:=⟨h.bq.1.short hn hm,h.bq.2.short hn hm⟩
theorem CZ.of{x y:Rat}(h:BQ x n m)(g:BQ y k l)(h1:n+l≤r)(h2:k+m≤r):CZ (⟨x,y⟩:QC) r (m+l):=by
 obtain⟨a,d,a1,a2,a3,a4⟩:=h
 obtain⟨b,e,b1,b2,b3,b4⟩:=g
 refine⟨a*e,b*d,d*e,Nat.mul_pos a1 b1,Qfj a2 b2,Nat.lt_of_lt_of_le (Qcu a3 (by simpa using b2)) (p2m h1),Nat.lt_of_lt_of_le (Qcu b3 (by simpa using a2)) (p2m h2),?_,?_⟩
 ·rw[Rat.intCast_mul,Rat.natCast_mul,←a4]
  have i1:((e:Int):Rat)=(e:Rat):=rfl
  rw[i1]; grind
 ·rw[Rat.intCast_mul,Rat.natCast_mul,←b4]
  have i1:((d:Int):Rat)=(d:Rat):=rfl
  rw[i1]; grind
theorem CZ.cj(h:CZ z n m):CZ (cj z) n m:=by
 obtain⟨a,b,d,h1,h2,h3,h4,h5,h6⟩:=h
 exact⟨a,-b,d,h1,h2,h3,by rw[Int.natAbs_neg]; exact h4,h5,by
  rw[Rat.intCast_neg,←h6]
  show -z.im*(d:Rat)=_
  grind⟩
theorem CZ.neg0(h:CZ z n m):CZ ((⟨0,0⟩:QC) - z) n m:=by
 obtain⟨a,b,d,h1,h2,h3,h4,h5,h6⟩:=h
 exact⟨-a,-b,d,h1,h2,by rw[Int.natAbs_neg]; exact h3,by rw[Int.natAbs_neg]; exact h4,by rw[Rat.intCast_neg,←h5]; simp only[qsr]; grind,by rw[Rat.intCast_neg,←h6]; simp only[qsi]; grind⟩
theorem CZ.add(h:CZ z n m)(g:CZ w k l)(h5:n+l<r)(h6:k+m<r):CZ (z+w) r (m+l):=by
 obtain⟨a,b,d,a1,a2,a3,a4,a5,a6⟩:=h
 obtain⟨p,q,e,b1,b2,b3,b4,b5,b6⟩:=g
 have i1:((e:Int):Rat)=(e:Rat):=rfl
 have i2:((d:Int):Rat)=(d:Rat):=rfl
 refine⟨a*e+p*d,b*e+q*d,d*e,Nat.mul_pos a1 b1,Qfj a2 b2,add_lt2 (Qcu a3 (by simpa using b2)) (Qcu b3 (by simpa using a2)) h5 h6,add_lt2 (Qcu a4 (by simpa using b2)) (Qcu b4 (by simpa using a2)) h5 h6,?_,?_⟩
 ·rw[Rat.intCast_add,Rat.intCast_mul,Rat.intCast_mul,Rat.natCast_mul,←a5,←b5,i1,i2,qar]; grind
 ·rw[Rat.intCast_add,Rat.intCast_mul,Rat.intCast_mul,Rat.natCast_mul,←a6,←b6,i1,i2,qai]; grind
theorem CZ.sub(h:CZ z n m)(g:CZ w k l)(h5:n+l<r)(h6:k+m<r):CZ (z - w) r (m+l):=by
 have:=h.add g.neg0 h5 h6
 rwa[show z+((⟨0,0⟩:QC) - w)=z - w from by apply Qbv<;>simp only[qar,qai,qsr,qsi]<;>grind] at this
theorem CZ.mul(h:CZ z n m)(g:CZ w k l):CZ (z*w) (n+k+1) (m+l):=by
 obtain⟨a,b,d,a1,a2,a3,a4,a5,a6⟩:=h
 obtain⟨p,q,e,b1,b2,b3,b4,b5,b6⟩:=g
 refine⟨a*p+-(b*q),a*q+b*p,d*e,Nat.mul_pos a1 b1,Qfj a2 b2,add_lt2 (Qcu a3 b3) (by rw[Int.natAbs_neg]; exact Qcu a4 b4) (by omega) (by omega),add_lt2 (Qcu a3 b4) (Qcu a4 b3) (by omega) (by omega),?_,?_⟩
 ·rw[Rat.intCast_add,Rat.intCast_neg,Rat.intCast_mul,Rat.intCast_mul,Rat.natCast_mul,←a5,←b5,←a6,←b6,qmr]; grind
 ·rw[Rat.intCast_add,Rat.intCast_mul,Rat.intCast_mul,Rat.natCast_mul,←a5,←b5,←a6,←b6,qmi]; grind
theorem CZ.scale{x:Rat}(h:CZ z n m)(g:BQ x k l):CZ (⟨x*z.re,x*z.im⟩:QC) (n+k) (m+l):=by
 obtain⟨a,b,d,a1,a2,a3,a4,a5,a6⟩:=h
 obtain⟨p,e,b1,b2,b3,b4⟩:=g
 refine⟨a*p,b*p,d*e,Nat.mul_pos a1 b1,Qfj a2 b2,Qcu a3 b3,Qcu a4 b3,?_,?_⟩
 ·rw[Rat.intCast_mul,Rat.natCast_mul,←a5,←b4]; grind
 ·rw[Rat.intCast_mul,Rat.natCast_mul,←a6,←b4]; grind
theorem BQ.nm(h:CZ z n m):BQ (nm z) (n+n+1) (m+m):=by
 obtain⟨a,b,d,a1,a2,a3,a4,a5,a6⟩:=h
 refine⟨a*a+b*b,d*d,Nat.mul_pos a1 a1,Qfj a2 a2,add_lt2 (Qcu a3 a3) (Qcu a4 a4) (by omega) (by omega),?_⟩
 unfold Go.Proofs.YtmimficdpfmfgaaGreat.nm
 rw[Rat.intCast_add,Rat.intCast_mul,Rat.intCast_mul,Rat.natCast_mul,←a5,←a6]; grind
theorem qdrD(x y:QC):(x / y).re=(x.re*y.re - x.im*(-y.im))*(y.re*y.re+y.im*y.im)⁻¹:=rfl
theorem qdiD(x y:QC):(x / y).im=(x.re*(-y.im)+x.im*y.re)*(y.re*y.re+y.im*y.im)⁻¹:=rfl
theorem CZ.div(h:CZ z n m)(g:CZ w k l)(hw:w≠⟨0,0⟩):CZ (z / w) (n+k+1+l) (m+(k+k+1)):=by
 obtain⟨a,b,d,a1,a2,a3,a4,a5,a6⟩:=h
 obtain⟨p,q,e,b1,b2,b3,b4,b5,b6⟩:=g
 have hd:=dpos' a1
 have he:=dpos' b1
 have nw:=qc_nz hw
 have hpq:p*p+q*q≠0:=fun z=>by
  have:((p*p+q*q:Int):Rat)=0:=by rw[z]; rfl
  rw[Rat.intCast_add,Rat.intCast_mul,Rat.intCast_mul,←b5,←b6] at this
  exact nw (by grind)
 have hp0:0≤p*p+q*q:=by
  have sq:∀ z:Int,0≤z*z:=fun z=>by
   rcases Int.le_total 0 z with h|h
   ·exact Int.mul_nonneg h h
   ·exact Int.mul_nonneg_of_nonpos_of_nonpos h h
  have:=sq p
  have:=sq q
  omega
 obtain⟨N,hN⟩:∃ N:Nat,(N:Int)=p*p+q*q:=⟨(p*p+q*q).natAbs,by omega⟩
 have hN2:(N:Rat)=(p:Rat)*p+(q:Rat)*q:=by
  have:((N:Int):Rat)=((p*p+q*q:Int):Rat):=by rw[hN]
  rw[Rat.intCast_add,Rat.intCast_mul,Rat.intCast_mul] at this
  exact this
 have i1:((e:Int):Rat)=(e:Rat):=rfl
 have hv:(N:Rat)=(w.re*w.re+w.im*w.im)*((e:Rat)*e):=by rw[hN2,←b5,←b6]; grind
 refine⟨(a*p+b*q)*e,(b*p+-(a*q))*e,d*N,Nat.mul_pos a1 (by omega),Qfj a2 ?_,?_,?_,?_,?_⟩
 ·have:(p*p+q*q).natAbs<2 ^ (k+k+1):=add_lt2 (Qcu b3 b3) (Qcu b4 b4) (by omega) (by omega)
  omega
 ·exact Qcu (add_lt2 (Qcu a3 b3) (Qcu a4 b4) (by omega) (by omega)) (by simpa using b2)
 ·exact Qcu (add_lt2 (Qcu a4 b3) (by rw[Int.natAbs_neg]; exact Qcu a3 b4) (by omega) (by omega)) (by simpa using b2)
 ·rw[Rat.intCast_mul,Rat.intCast_add,Rat.intCast_mul,Rat.intCast_mul,Rat.natCast_mul,hv,i1,←a5,←a6,←b5,←b6,qdrD]
  grind
 ·rw[Rat.intCast_mul,Rat.intCast_add,Rat.intCast_neg,Rat.intCast_mul,Rat.intCast_mul,Rat.natCast_mul,hv,i1,←a5,←a6,←b5,←b6,qdiD]
  grind
end
theorem BQ.mn{x:Rat}{n m n' m':Nat}(h:BQ x n m)(hm:m≤m')(hn:n≤n':=by omega):BQ x n' m':=h.mono hn hm
theorem CZ.mn{z:QC}{n m n' m':Nat}(h:CZ z n m)(hm:m≤m')(hn:n≤n':=by omega):CZ z n' m':=h.mono hn hm
end Go.Proofs.YtmimficdpfmfgaaGreat
namespace Go.Proofs.YtmimficdpfmfgaaGreat
open Go.RowKit Tr
open Classical
theorem eSendF1(a b c d w:QC)(b_a:ZL a 200000000)(b_b:ZL b 200000000)(b_c:ZL c 200000000)(b_d:ZL d 200000000)(b_w:ZL w 200000000)(h0:¬(((c*w)+d)=(⟨0,0⟩:QC))):SCt 77 [.row (cn a++cn b++cn c++cn d++[gl (.bool false)]),.row ([gl (.bool false)]++cn w)] (.r (.row ([gl (.bool false)]++cn (((a*w)+b) / ((c*w)+d))))) :=
  Qbr (L := [cn a,cn b,cn c,cn d,cn w,cn (a * w),cn ((a * w) + b),cn (c * w),cn ((c * w) + d),cn (((a * w) + b) / ((c * w) + d))].flatten) Qae Qai
     [gs (Qbe a w b_a b_w (by decide)) [sy [0,1],sy [8,9]] (.r (sy [10,11])),gs (Qco (a*w) b (Qah b_a b_w) b_b (by decide)) [sy [10,11],sy [2,3]] (.r (sy [12,13])),gs (Qbe c w b_c b_w (by decide)) [sy [4,5],sy [8,9]] (.r (sy [14,15])),gs (Qco (c*w) d (Qah b_c b_w) b_d (by decide)) [sy [14,15],sy [6,7]] (.r (sy [16,17])),gs (Qia ((c*w)+d) false (fI h0)) [sy [16,17]] vFf,gs (Qfo ((a*w)+b) ((c*w)+d) h0 (Qbk (Qah b_a b_w) b_b) (Qbk (Qah b_c b_w) b_d) (by decide)) [sy [12,13],sy [16,17]] (.r (sy [18,19]))]
     [] [] Tryz.func77 eo77 2000 [.row (flA [Qaj 0 8,[.lit (.bool false)]]),.row [.lit (.bool false),.sym 8,.sym 9]] (.r (.row [.lit (.bool false),.sym 18,.sym 19]))
def wr1(a b c d w:QC):QC:=((a*(cj w))+b) / ((c*(cj w))+d)
theorem eSendT1(a b c d w:QC)(b_a:ZL a 200000000)(b_b:ZL b 200000000)(b_c:ZL c 200000000)(b_d:ZL d 200000000)(b_w:ZL w 200000000)(h0:¬(((c*(cj w))+d)=(⟨0,0⟩:QC))):SCt 77 [.row (cn a++cn b++cn c++cn d++[gl (.bool true)]),.row ([gl (.bool false)]++cn w)] (.r (.row ([gl (.bool false)]++cn (wr1 a b c d w)))) :=
  Qbr (L := [cn a,cn b,cn c,cn d,cn w,cn (cj w),cn (a * (cj w)),cn ((a * (cj w)) + b),cn (c * (cj w)),cn ((c * (cj w)) + d),cn (wr1 a b c d w)].flatten) Qae Qai
     [gs (Qcp w b_w.mn) [sy [8,9]] (.r (sy [10,11])),gs (Qbe a (cj w) b_a (Qao b_w) (by decide)) [sy [0,1],sy [10,11]] (.r (sy [12,13])),gs (Qco (a*(cj w)) b (Qah b_a (Qao b_w)) b_b (by decide)) [sy [12,13],sy [2,3]] (.r (sy [14,15])),gs (Qbe c (cj w) b_c (Qao b_w) (by decide)) [sy [4,5],sy [10,11]] (.r (sy [16,17])),gs (Qco (c*(cj w)) d (Qah b_c (Qao b_w)) b_d (by decide)) [sy [16,17],sy [6,7]] (.r (sy [18,19])),gs (Qia ((c*(cj w))+d) false (fI h0)) [sy [18,19]] vFf,gs (Qfo ((a*(cj w))+b) ((c*(cj w))+d) h0 (Qbk (Qah b_a (Qao b_w)) b_b) (Qbk (Qah b_c (Qao b_w)) b_d) (by decide)) [sy [14,15],sy [18,19]] (.r (sy [20,21]))]
     [] [] Tryz.func77 eo77 2000 [.row (flA [Qaj 0 8,[.lit (.bool true)]]),.row [.lit (.bool false),.sym 8,.sym 9]] (.r (.row [.lit (.bool false),.sym 20,.sym 21]))
def tw(t:Bool)(w:QC):QC:=if t then cj w else w
def den(t:Bool)(c d w:QC):QC:=c*tw t w+d
def snd(t:Bool)(a b c d w:QC):QC:=(a*tw t w+b) / den t c d w
theorem tw_zl{t:Bool}{w:QC}{k:Nat}(h:ZL w k):ZL (tw t w) k:=by
 cases t
 ·exact h
 ·exact Qao h
theorem Qie{t:Bool}{a b c d w:QC}{k m:Nat}(h:den t c d w≠⟨0,0⟩)(ha:ZL a k)(hb:ZL b k)(hc:ZL c k)(hd:ZL d k)(hw:ZL w m):ZL (snd t a b c d w) (40*(k+m)+40) :=
 (Qgm h (Qbk (Qah ha (tw_zl hw)) hb) (Qbk (Qah hc (tw_zl hw)) hd)).mn
theorem eSendZ(t:Bool)(a b c d w:QC)(b_a:ZL a 200000000)(b_b:ZL b 200000000)(b_c:ZL c 200000000)(b_d:ZL d 200000000)(b_w:ZL w 200000000)(h:den t c d w≠⟨0,0⟩):SCt 77 [.row (cn a++cn b++cn c++cn d++[gx (.bool t)]),.row ([gl (.bool false)]++cn w)] (.r (.row ([gl (.bool false)]++cn (snd t a b c d w)))):=by
 cases t
 ·exact eSendF1 a b c d w b_a b_b b_c b_d b_w h
 ·exact eSendT1 a b c d w b_a b_b b_c b_d b_w h
end Go.Proofs.YtmimficdpfmfgaaGreat
namespace Go.Proofs.YtmimficdpfmfgaaGreat
open Go.RowKit Go.Shelf
attribute [local go_sem] Oper.semAt_some
def Holds1{α:Type}(enc:α→Value)(n₀:Nat)(W:World)(sv:Value)(f:Nat→α)(len:Nat):Prop :=
 (sv=.slice none 0 0∧len=0)∨∃ b off cap,sv=.slice (some ⟨b,off,none⟩) len cap∧b<n₀∧∀ j,j<len→W.cell? ⟨b,off+j,none⟩=some (enc (f j))
theorem Holds1.below{α:Type}{enc:α→Value}{n₀:Nat}{A B:World}(h:Below n₀ A B){sv:Value}{f:Nat→α}{len:Nat}:Holds1 enc n₀ A sv f len→Holds1 enc n₀ B sv f len
 | .inl e=>.inl e
 | .inr ⟨b,off,cap,e,hb,hc⟩=>.inr ⟨b,off,cap,e,hb,fun j hj=>(h.cell (p:=⟨b,off+j,none⟩) hb).trans (hc j hj)⟩
end Go.Proofs.YtmimficdpfmfgaaGreat
namespace Go.Proofs.YtmimficdpfmfgaaGreat
open Go.RowKit Go.Shelf
attribute [local go_sem] Oper.semAt_some
end Go.Proofs.YtmimficdpfmfgaaGreat
namespace Go.Proofs.YtmimficdpfmfgaaGreat
open Go.RowKit Go.Shelf
end Go.Proofs.YtmimficdpfmfgaaGreat
namespace Go.Proofs.YtmimficdpfmfgaaGreat
open Go.RowKit Go.Shelf Tr
attribute [local go_sem] Oper.semAt_some
def AW(A:Nat→Prop)(x B:Nat)(W:World)(k:Nat):Prop:=A k∨k=x∨(B≤k∧∃ o,W.heap[k]?=some o∧o.isCells=false)
theorem AW.lt{A:Nat→Prop}{x B:Nat}{W:World}(hA:∀ n,A n→n<W.heap.size)(hx:x<W.heap.size){k:Nat}(h:AW A x B W k):k<W.heap.size:=by
 rcases h with h|rfl|⟨_,o,h,_⟩
 ·exact hA k h
 ·exact hx
 ·exact(Array.getElem?_eq_some_iff.1 h).1
theorem AW.rcv{A:Nat→Prop}{x B:Nat}{W:World}(hA:Rcv A W){vs:List Value}{t:TypeId}(hx:W.heap[x]?=some (.cells vs.toArray t (0,0)))(hn:NoW (.cells vs.toArray t (0,0))):Rcv (AW A x B W) W:=by
 intro k h
 rcases h with h|rfl|⟨_,o,h,ho⟩
 ·exact hA k h
 ·exact⟨_,hx,hn⟩
 ·refine⟨o,h,?_⟩
  intro cs T fr e
  subst e
  cases ho
end Go.Proofs.YtmimficdpfmfgaaGreat
namespace Go.Proofs.YtmimficdpfmfgaaGreat
open Go.RowKit Tr
open Classical
section
variable(t u:Bool)(m p:Q4)
end
def MapOk(m:Q4):Prop:=Sh4 m∧Nf m∧dq m≠⟨0,0⟩
theorem eOpenOk(m:Q4)(t:Bool)(h:MapOk m):SCt 75 [.row (mQ m t)] (.tup [.row (mR m t),gTt]):=by
 obtain⟨a,b,c,d⟩:=m
 obtain⟨⟨h1,h2,h3,h4⟩,hn,hd⟩:=h
 have k:=(eOpen a b c d t h1 h2 h3 h4).f hd
 by_cases hc:c=⟨1,0⟩
 ·exact k.t hc
 ·exact(k.f hc).t (hn.resolve_left hc)
end Go.Proofs.YtmimficdpfmfgaaGreat
set_option linter.unusedSimpArgs false
namespace Go.Proofs.YtmimficdpfmfgaaGreat
open Go.RowKit Tr
theorem qdiv_eq{x y z:QC}(hy:y≠⟨0,0⟩)(e:y*z=x):x / y=z:=by
 have h:=qdm (x:=x) hy
 rw[←e] at h
 exact qcan hy (by rw[e] at h ⊢; exact h)
theorem sc_div{s x y:QC}(hs:s≠⟨0,0⟩)(hy:y≠⟨0,0⟩):(s*x) / (s*y)=x / y :=
 qdiv_eq (mul_ne hs hy) (by
  have h:=qdm (x:=x) hy
  generalize x / y=q at h
  rw[←h]
  apply Qbv<;>simp only[qmr,qmi]<;>grind)
theorem snd_of{s z:QC}{q m:Q4}(hs:s≠⟨0,0⟩)(h:q=smul s m)(hq:q.2.2.1*z+q.2.2.2≠⟨0,0⟩):den false m.2.2.1 m.2.2.2 z≠⟨0,0⟩∧snd false m.1 m.2.1 m.2.2.1 m.2.2.2 z=(q.1*z+q.2.1) / (q.2.2.1*z+q.2.2.2):=by
 obtain⟨a,b,c,d⟩:=m
 subst h
 simp only[smul] at hq ⊢
 have e1:s*c*z+s*d=s*(c*z+d):=by apply Qbv<;>simp only[qmr,qmi,qar,qai]<;>grind
 have e2:s*a*z+s*b=s*(a*z+b):=by apply Qbv<;>simp only[qmr,qmi,qar,qai]<;>grind
 rw[e1] at hq
 have hd:c*z+d≠⟨0,0⟩:=fun e=>hq (by rw[e]; apply Qbv<;>simp only[qmr,qmi]<;>grind)
 refine⟨hd,?_⟩
 rw[e1,e2,sc_div hs hd]
 rfl
section
variable(u v:QC)
def mvA:QC:=(⟨1,0⟩:QC) - v*cj u
def mvB:QC:=v - u
def mvQ:Q4:=(mvA u v,mvB u v,cj (mvB u v),cj (mvA u v))
theorem mv2_q:mul4 (adj4 (hm4 v)) (hm4 u)=mvQ u v:=by
 apply q4_ext<;>simp only[mvQ,mvA,mvB,mul4,adj4,hm4,stp,Bool.false_eq_true,if_false]<;>apply Qbv<;>simp only[qmr,qmi,qar,qai,qsr,qsi,cj]<;>grind
theorem mv_k:nm (mvA u v) - nm (mvB u v)=(1 - nm u)*(1 - nm v):=by
 unfold mvA mvB nm cj; simp only[qmr,qmi,qsr,qsi]; grind
theorem mv_to:rD (mvA u v) (mvB u v) u*v=rN (mvA u v) (mvB u v) u:=by
 unfold rD rN mvA mvB cj; apply Qbv<;>simp only[qmr,qmi,qar,qai,qsr,qsi]<;>grind
end
section
variable{u v z w:QC}
theorem mv2_scal(hu:0<1 - nm u)(hv:0<1 - nm v):∃ s:QC,s≠⟨0,0⟩∧mvQ u v=smul s (mv2 u v):=by
 have h1:=nm4_smul (adj_ne (Qdm hv))
 have h2:=nm4_smul (mul_dq (inv_dq (Qdm hv)) (Qdm hu))
 have k1:by4 (adj4 (hm4 v))≠⟨0,0⟩:=by4_ne (adj_ne (Qdm hv))
 have k2:by4 (mul4 (inv4 (hm4 v)) (hm4 u))≠⟨0,0⟩:=by4_ne (mul_dq (inv_dq (Qdm hv)) (Qdm hu))
 refine⟨_,mul_ne k1 k2,?_⟩
 rw[←smul_smul,←mv2_q]
 have e:adj4 (hm4 v)=smul (by4 (adj4 (hm4 v))) (inv4 (hm4 v)):=h1
 conv=>lhs; rw[e]
 rw[mul4_sl]
 congr 1
theorem mvk_pos(hu:0<1 - nm u)(hv:0<1 - nm v):0<nm (mvA u v) - nm (mvB u v):=by rw[mv_k]; exact Qjk hu hv
theorem mv2_at(hu:0<1 - nm u)(hv:0<1 - nm v)(hz:rD (mvA u v) (mvB u v) z≠⟨0,0⟩):den false (mv2 u v).2.2.1 (mv2 u v).2.2.2 z≠⟨0,0⟩∧snd false (mv2 u v).1 (mv2 u v).2.1 (mv2 u v).2.2.1 (mv2 u v).2.2.2 z=rN (mvA u v) (mvB u v) z / rD (mvA u v) (mvB u v) z:=by
 obtain⟨s,hs,h⟩:=mv2_scal hu hv
 exact snd_of hs h hz
theorem mv2_ok(hu:0<1 - nm u)(hv:0<1 - nm v)(h:Sh4 (mv2 u v)):MapOk (mv2 u v):=⟨h,mv2_nf hu hv,mv2_dq hu hv⟩
theorem mv1_id:mv1 u v=((⟨v.im / u.im,0⟩:QC),(⟨v.re - ((v.im / u.im)*u.re),0⟩:QC),(⟨0,0⟩:QC),(⟨1,0⟩:QC)):=nm4_id (.inr ⟨rfl,rfl⟩)
theorem mv1_ok(hu:0<u.im)(hv:0<v.im)(h:Sh4 (mv1 u v)):MapOk (mv1 u v):=⟨h,by rw[mv1_id]; exact .inr ⟨rfl,rfl⟩,mv1_dq hu hv⟩
theorem den1(z:QC):den false (⟨0,0⟩:QC) (⟨1,0⟩:QC) z=⟨1,0⟩:=by
 show(⟨0,0⟩:QC)*z+⟨1,0⟩=_
 apply Qbv<;>simp only[qmr,qmi,qar,qai]<;>grind
theorem snd1(r t z:QC):snd false r t (⟨0,0⟩:QC) (⟨1,0⟩:QC) z=r*z+t:=by
 show(r*z+t) / den false (⟨0,0⟩:QC) (⟨1,0⟩:QC) z=_
 rw[den1,qd_one]
theorem cz1(x y:Int)(hx:x.natAbs<2)(hy:y.natAbs<2):CZ (⟨(x:Rat),(y:Rat)⟩:QC) 2 2:=CZ.of (BQ.int x 1 hx) (BQ.int y 1 hy) (by omega) (by omega)
theorem mvA_b(hu:CZ u 80 80)(hv:CZ v 80 80):CZ (mvA u v) 164 162:=((cz1 1 0 (by decide) (by decide)).sub (hv.mul hu.cj) (r:=164) (by omega) (by omega)).mono (by omega) (by omega)
theorem mvB_b(hu:CZ u 80 80)(hv:CZ v 80 80):CZ (mvB u v) 164 162:=(hv.sub hu (r:=161) (by omega) (by omega)).mono (by omega) (by omega)
theorem mv2_sh(bu:CZ u 80 80)(bv:CZ v 80 80)(hu:0<1 - nm u)(hv:0<1 - nm v):Sh4 (mv2 u v):=by
 obtain⟨s,hs,h⟩:=mv2_scal hu hv
 have hq:dq (mvQ u v)≠⟨0,0⟩:=by rw[←mv2_q]; exact mul_dq (adj_ne (Qdm hv)) (Qdm hu)
 have e:nm4 (mvQ u v)=mv2 u v:=by rw[h,nm4_sm hs (mv2_dq hu hv),nm4_id (mv2_nf hu hv)]
 rw[←e]
 have a:=mvA_b bu bv
 have b:=mvB_b bu bv
 have ne:=by4_ne hq
 have c:CZ (by4 (mvQ u v)) 164 162:=by unfold by4; split; exact a.cj; exact b.cj
 exact⟨(a.div c ne).short (by omega) (by omega),(b.div c ne).short (by omega) (by omega),(b.cj.div c ne).short (by omega) (by omega),(a.cj.div c ne).short (by omega) (by omega)⟩
theorem mv2_img(bu:CZ u 80 80)(bv:CZ v 80 80)(bz:CZ z 80 80)(hz:rD (mvA u v) (mvB u v) z≠⟨0,0⟩):Qab (rN (mvA u v) (mvB u v) z / rD (mvA u v) (mvB u v) z):=by
 have a:=mvA_b bu bv
 have b:=mvB_b bu bv
 have n:=(a.mul bz).add b (r:=500) (by omega) (by omega)
 have d:=(b.cj.mul bz).add a.cj (r:=500) (by omega) (by omega)
 exact(n.div d hz).short (by omega) (by omega)
theorem mv1_b(hu:0<u.im)(b1:BQ u.re 40 40)(b2:BQ u.im 40 40)(b3:BQ v.re 40 40)(b4:BQ v.im 40 40):CZ (⟨v.im / u.im,0⟩:QC) 200 200∧CZ (⟨v.re - ((v.im / u.im)*u.re),0⟩:QC) 200 200:=by
 have r:=b4.div b2 (pne hu)
 have t:=b3.sub (r.mul b1) (r:=161) (by omega) (by omega)
 exact⟨(CZ.of r (BQ.int 0 1 (by decide)) (r:=200) (by omega) (by omega)).mono (by omega) (by omega),(CZ.of t (BQ.int 0 1 (by decide)) (r:=200) (by omega) (by omega)).mono (by omega) (by omega)⟩
theorem mv1_sh(hu:0<u.im)(b1:BQ u.re 40 40)(b2:BQ u.im 40 40)(b3:BQ v.re 40 40)(b4:BQ v.im 40 40):Sh4 (mv1 u v):=by
 rw[mv1_id]
 have⟨r,t⟩:=mv1_b hu b1 b2 b3 b4
 exact⟨r.short (by omega) (by omega),t.short (by omega) (by omega),(cz1 0 0 (by decide) (by decide)).short (by omega) (by omega),(cz1 1 0 (by decide) (by decide)).short (by omega) (by omega)⟩
theorem mv1_img(hu:0<u.im)(b1:BQ u.re 40 40)(b2:BQ u.im 40 40)(b3:BQ v.re 40 40)(b4:BQ v.im 40 40)(bz:CZ z 80 80):Qab ((⟨v.im / u.im,0⟩:QC)*z+⟨v.re - ((v.im / u.im)*u.re),0⟩):=by
 have⟨r,t⟩:=mv1_b hu b1 b2 b3 b4
 exact((r.mul bz).add t (r:=600) (by omega) (by omega)).short (by omega) (by omega)
end
end Go.Proofs.YtmimficdpfmfgaaGreat
