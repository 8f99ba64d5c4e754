/- Laws. -/
import Derived.Test.YtcjjdooeogmdbaaGreatVbj
set_option linter.all false
set_option maxHeartbeats 4000000
set_option maxRecDepth 100000
namespace Go.Proofs.YtcjjdooeogmdbaaGreat
open Go.RowKit Tr
def BQ(x:Rat)(n m:Nat):Prop:=∃(a:Int) (d:Nat),0<d/\d<2^m/\a.natAbs<2^n/\x*(d:Rat)=(a:Rat)
def p2m{a b:Nat}(h:a<=b):2^a<=2^b:=Nat.pow_le_pow_right (by decide) h
def Qhd{a b n m:Nat}(ha:a<2^n)(hb:b<2^m):a*b<2^(n+m):=by
 rw[Nat.pow_add];exact Nat.mul_lt_mul'' ha hb
def Qvb{d:Nat}(h:0<d):(d:Rat)≠0:=by
 intro e;have:(d:Rat)=((0:Nat):Rat):=e;have:=Rat.natCast_inj.1 this;omega
def BQ.mono{x:Rat}{n m n' m':Nat}(h:BQ x n m)(hn:n<=n')(hm:m<=m'):BQ x n' m':=by
 obtain⟨a,d,h1,h2,h3,h4⟩:=h;exact⟨a,d,h1,Nat.lt_of_lt_of_le h2 (p2m hm),Nat.lt_of_lt_of_le h3 (p2m hn),h4⟩
def BQ.int(z:Int)(n:Nat)(h:z.natAbs<2^n):BQ (z:Rat) n 1:=⟨z,1,by decide,by decide,h,by grind⟩
def BQ.mul{x y:Rat}{n m k l:Nat}(h:BQ x n m)(g:BQ y k l):BQ (x*y) (n+k) (m+l):=by
 obtain⟨a,d,h1,h2,h3,h4⟩:=h;obtain⟨b,e,g1,g2,g3,g4⟩:=g;refine⟨a*b,d*e,Nat.mul_pos h1 g1,Qhd h2 g2,by rw[Int.natAbs_mul];exact Qhd h3 g3,?_⟩;rw[Rat.intCast_mul,Rat.natCast_mul,←h4,←g4];grind
def BQ.neg{x:Rat}{n m:Nat}(h:BQ x n m):BQ (-x) n m:=by
 obtain⟨a,d,h1,h2,h3,h4⟩:=h;exact⟨-a,d,h1,h2,by rw[Int.natAbs_neg];exact h3,by rw[Rat.intCast_neg,←h4];grind⟩
def BQ.add{x y:Rat}{n m k l r:Nat}(h:BQ x n m)(g:BQ y k l)(h5:n+l<r)(h6:k+m<r):BQ (x+y) r (m+l):=by
 obtain⟨a,d,h1,h2,h3,h4⟩:=h;obtain⟨b,e,g1,g2,g3,g4⟩:=g;refine⟨a*e+b*d,d*e,Nat.mul_pos h1 g1,Qhd h2 g2,?_,?_⟩
 .have k1:(a*(e:Int)).natAbs<2^(r-1):=by
   rw[Int.natAbs_mul];exact Nat.lt_of_lt_of_le (Qhd h3 (by simpa using g2)) (p2m (by omega))
  have k2:(b*(d:Int)).natAbs<2^(r-1):=by
   rw[Int.natAbs_mul];exact Nat.lt_of_lt_of_le (Qhd g3 (by simpa using h2)) (p2m (by omega))
  have k3:2^r=2^(r-1)+2^(r-1):=by
   obtain⟨s,rfl⟩:∃ s,r=s+1:=⟨r-1,by omega⟩
   rw[Nat.pow_succ];simp;omega
  have:=Int.natAbs_add_le (a*(e:Int)) (b*(d:Int));omega
 .rw[Rat.intCast_add,Rat.intCast_mul,Rat.intCast_mul,Rat.natCast_mul,←h4,←g4];have i1:((e:Int):Rat)=(e:Rat):=rfl;have i2:((d:Int):Rat)=(d:Rat):=rfl;rw[i1,i2];grind
def BQ.sub{x y:Rat}{n m k l r:Nat}(h:BQ x n m)(g:BQ y k l)(h5:n+l<r)(h6:k+m<r):BQ (x-y) r (m+l):=by
 have:=h.add g.neg h5 h6;rwa[show x+-y=x-y from by grind] at this
def BQ.div{x y:Rat}{n m k l:Nat}(h:BQ x n m)(g:BQ y k l)(hy:y≠0):BQ (x/y) (n+l) (m+k):=by
 obtain⟨a,d,h1,h2,h3,h4⟩:=h;obtain⟨b,e,g1,g2,g3,g4⟩:=g;have hb:b≠0:=fun z=>by
  rw[z] at g4;have:y*(e:Rat)=0:=g4;rcases Rat.mul_eq_zero.1 this with k|k
  .exact hy k
  .exact Qvb g1 k
 have hd:=Qvb h1;have he:=Qvb g1;refine⟨a*e*b.sign,d*b.natAbs,Nat.mul_pos h1 (by omega),Qhd h2 g3,?_,?_⟩
 .rw[Int.natAbs_mul,Int.natAbs_mul,Int.natAbs_sign_of_ne_zero hb,Nat.mul_one];exact Qhd h3 (by simpa using g2)
 .have s:((b.natAbs:Nat):Rat)=(b:Rat)*(b.sign:Rat):=by
   have:(b.natAbs:Int)=b*b.sign:=by rw[Int.mul_sign_self]
   have h0:((b.natAbs:Int):Rat)=((b*b.sign:Int):Rat):=by rw[this]
   rw[Rat.intCast_mul] at h0;exact h0
  rw[Rat.natCast_mul,s,Rat.intCast_mul,Rat.intCast_mul,←h4,←g4];have i1:((e:Int):Rat)=(e:Rat):=rfl;rw[i1];grind
def p2w{r k:Nat}(h:r<=32*k):2^r<=4294967296^k:=by
 have h1:=p2m h;rw[Nat.pow_mul] at h1;exact h1
def BQ.short{x:Rat}{n m:Nat}(h:BQ x n m)(hn:n<=8192)(hm:m<=8192):Qar x:=by
 obtain⟨a,d,h1,h2,h3,h4⟩:=h;have hd:=Qvb h1;have e:x=Rat.divInt a d:=by
  rw[Rat.divInt_eq_div,←h4];have i2:((d:Int):Rat)=(d:Rat):=rfl;rw[i2];grind
 have k1:(Qad a.natAbs).length<=256:=Qak (Nat.lt_of_lt_of_le h3 (p2w (k:=256) hn));have k2:(Qad (d:Int).natAbs).length<=256:=Qak (Nat.lt_of_lt_of_le (by simpa using h2) (p2w (k:=256) hm));have k:=Qhy (a:=a) (b:=(d:Int)) (by omega) k1 k2;rw[<-e] at k;exact⟨Udp k.1,Udp k.2⟩
def BQ.of_size{q:Rat}{k:Nat}(h1:(Qcj q.num.natAbs).size<=k)(h2:(Qcj q.den).size<=k):BQ q (8*k) (8*k):=by
 have l:∀{n:Nat},(Qcj n).size<=k->n<2^(8*k):=fun{n} h=>by
  have:=Qmz (Qcj n);rw[Qdq] at this;rw[Nat.pow_mul];exact Nat.lt_of_lt_of_le this (Nat.pow_le_pow_right (by decide) h)
 refine⟨q.num,q.den,q.den_pos,l h2,l h1,?_⟩;have e:q=(q.num:Rat)/(q.den:Rat):=by
  have:=Rat.num_divInt_den q;rw[Rat.divInt_eq_div] at this;exact this.symm
 have hd:=Qvb q.den_pos;have k:q*(q.den:Rat)=(q.num:Rat)/(q.den:Rat)*(q.den:Rat):=by rw[<-e]
 rw[k];grind
def CZ(z:QC)(n m:Nat):Prop:=∃(a b:Int) (d:Nat),0<d/\d<2^m/\a.natAbs<2^n/\b.natAbs<2^n/\z.re*(d:Rat)=(a:Rat)/\z.im*(d:Rat)=(b:Rat)
def Qjy{a b:Int}{n m r:Nat}(ha:a.natAbs<2^n)(hb:b.natAbs<2^m)(h1:n<r)(h2:m<r):(a+b).natAbs<2^r:=by
 have k1:a.natAbs<2^(r-1):=Nat.lt_of_lt_of_le ha (p2m (by omega));have k2:b.natAbs<2^(r-1):=Nat.lt_of_lt_of_le hb (p2m (by omega));have k3:2^r=2^(r-1)+2^(r-1):=by
  obtain⟨s,rfl⟩:∃ s,r=s+1:=⟨r-1,by omega⟩
  rw[Nat.pow_succ];simp;omega
 have:=Int.natAbs_add_le a b;omega
def Qdj{a b:Int}{n m:Nat}(ha:a.natAbs<2^n)(hb:b.natAbs<2^m):(a*b).natAbs<2^(n+m):=by rw[Int.natAbs_mul];exact Qhd ha hb
section
variable{z w:QC}{n m k l r s:Nat}
def CZ.mono{n' m':Nat}(h:CZ z n m)(hn:n<=n')(hm:m<=m'):CZ z n' m':=by
 obtain⟨a,b,d,h1,h2,h3,h4,h5⟩:=h;exact⟨a,b,d,h1,Nat.lt_of_lt_of_le h2 (p2m hm),Nat.lt_of_lt_of_le h3 (p2m hn),Nat.lt_of_lt_of_le h4 (p2m hn),h5⟩
def CZ.bq(h:CZ z n m):BQ z.re n m/\BQ z.im n m:=by
 obtain⟨a,b,d,h1,h2,h3,h4,h5,h6⟩:=h;exact⟨⟨a,d,h1,h2,h3,h5⟩,b,d,h1,h2,h4,h6⟩
def CZ.short(h:CZ z n m)(hn:n<=8192)(hm:m<=8192):Qac z:=⟨h.bq.1.short hn hm,h.bq.2.short hn hm⟩
def CZ.of{x y:Rat}(h:BQ x n m)(g:BQ y k l)(h1:n+l<=r)(h2:k+m<=r):CZ (⟨x,y⟩:QC) r (m+l):=by
 obtain⟨a,d,a1,a2,a3,a4⟩:=h;obtain⟨b,e,b1,b2,b3,b4⟩:=g;refine⟨a*e,b*d,d*e,Nat.mul_pos a1 b1,Qhd a2 b2,Nat.lt_of_lt_of_le (Qdj a3 (by simpa using b2)) (p2m h1),Nat.lt_of_lt_of_le (Qdj b3 (by simpa using a2)) (p2m h2),?_,?_⟩
 .rw[Rat.intCast_mul,Rat.natCast_mul,←a4];have i1:((e:Int):Rat)=(e:Rat):=rfl;rw[i1];grind
 .rw[Rat.intCast_mul,Rat.natCast_mul,←b4];have i1:((d:Int):Rat)=(d:Rat):=rfl;rw[i1];grind
def CZ.cj(h:CZ z n m):CZ (cj z) n m:=by
 obtain⟨a,b,d,h1,h2,h3,h4,h5,h6⟩:=h;exact⟨a,-b,d,h1,h2,h3,by rw[Int.natAbs_neg];exact h4,h5,by
  rw[Rat.intCast_neg,←h6];show -z.im*(d:Rat)=_;grind⟩
def CZ.neg0(h:CZ z n m):CZ ((⟨0,0⟩:QC)-z) n m:=by
 obtain⟨a,b,d,h1,h2,h3,h4,h5,h6⟩:=h;exact⟨-a,-b,d,h1,h2,by rw[Int.natAbs_neg];exact h3,by rw[Int.natAbs_neg];exact h4,by rw[Rat.intCast_neg,←h5];simp only[qsr];grind,by rw[Rat.intCast_neg,←h6];simp only[qsi];grind⟩
def CZ.add(h:CZ z n m)(g:CZ w k l)(h5:n+l<r)(h6:k+m<r):CZ (z+w) r (m+l):=by
 obtain⟨a,b,d,a1,a2,a3,a4,a5,a6⟩:=h;obtain⟨p,q,e,b1,b2,b3,b4,b5,b6⟩:=g;have i1:((e:Int):Rat)=(e:Rat):=rfl;have i2:((d:Int):Rat)=(d:Rat):=rfl;refine⟨a*e+p*d,b*e+q*d,d*e,Nat.mul_pos a1 b1,Qhd a2 b2,Qjy (Qdj a3 (by simpa using b2)) (Qdj b3 (by simpa using a2)) h5 h6,Qjy (Qdj a4 (by simpa using b2)) (Qdj b4 (by simpa using a2)) h5 h6,?_,?_⟩
 .rw[Rat.intCast_add,Rat.intCast_mul,Rat.intCast_mul,Rat.natCast_mul,←a5,←b5,i1,i2,qar];grind
 .rw[Rat.intCast_add,Rat.intCast_mul,Rat.intCast_mul,Rat.natCast_mul,←a6,←b6,i1,i2,qai];grind
def CZ.sub(h:CZ z n m)(g:CZ w k l)(h5:n+l<r)(h6:k+m<r):CZ (z-w) r (m+l):=by
 have:=h.add g.neg0 h5 h6;rwa[show z+((⟨0,0⟩:QC)-w)=z-w from by apply Qcs<;>simp only[qar,qai,qsr,qsi]<;>grind] at this
def CZ.mul(h:CZ z n m)(g:CZ w k l):CZ (z*w) (n+k+1) (m+l):=by
 obtain⟨a,b,d,a1,a2,a3,a4,a5,a6⟩:=h;obtain⟨p,q,e,b1,b2,b3,b4,b5,b6⟩:=g;refine⟨a*p+-(b*q),a*q+b*p,d*e,Nat.mul_pos a1 b1,Qhd a2 b2,Qjy (Qdj a3 b3) (by rw[Int.natAbs_neg];exact Qdj a4 b4) (by omega) (by omega),Qjy (Qdj a3 b4) (Qdj a4 b3) (by omega) (by omega),?_,?_⟩
 .rw[Rat.intCast_add,Rat.intCast_neg,Rat.intCast_mul,Rat.intCast_mul,Rat.natCast_mul,←a5,←b5,←a6,←b6,qmr];grind
 .rw[Rat.intCast_add,Rat.intCast_mul,Rat.intCast_mul,Rat.natCast_mul,←a5,←b5,←a6,←b6,qmi];grind
def BQ.nm(h:CZ z n m):BQ (nm z) (n+n+1) (m+m):=by
 obtain⟨a,b,d,a1,a2,a3,a4,a5,a6⟩:=h;refine⟨a*a+b*b,d*d,Nat.mul_pos a1 a1,Qhd a2 a2,Qjy (Qdj a3 a3) (Qdj a4 a4) (by omega) (by omega),?_⟩;unfold Go.Proofs.YtcjjdooeogmdbaaGreat.nm;rw[Rat.intCast_add,Rat.intCast_mul,Rat.intCast_mul,Rat.natCast_mul,←a5,←a6];grind
def Uyr(x y:QC):(x/y).re=(x.re*y.re-x.im*(-y.im))*(y.re*y.re+y.im*y.im)⁻¹:=rfl
def Uyq(x y:QC):(x/y).im=(x.re*(-y.im)+x.im*y.re)*(y.re*y.re+y.im*y.im)⁻¹:=rfl
def CZ.div(h:CZ z n m)(g:CZ w k l)(hw:w≠⟨0,0⟩):CZ (z/w) (n+k+1+l) (m+(k+k+1)):=by
 obtain⟨a,b,d,a1,a2,a3,a4,a5,a6⟩:=h;obtain⟨p,q,e,b1,b2,b3,b4,b5,b6⟩:=g;have hd:=Qvb a1;have he:=Qvb b1;have nw:=Koa hw;have hpq:p*p+q*q≠0:=fun z=>by
  have:((p*p+q*q:Int):Rat)=0:=by rw[z];rfl
  rw[Rat.intCast_add,Rat.intCast_mul,Rat.intCast_mul,←b5,←b6] at this;exact nw (by grind)
 have hp0:0<=p*p+q*q:=by
  have sq:∀ z:Int,0<=z*z:=fun z=>by
   rcases Int.le_total 0 z with h|h
   .exact Int.mul_nonneg h h
   .exact Int.mul_nonneg_of_nonpos_of_nonpos h h
  have:=sq p;have:=sq q;omega
 obtain⟨N,hN⟩:∃ N:Nat,(N:Int)=p*p+q*q:=⟨(p*p+q*q).natAbs,by omega⟩
 have hN2:(N:Rat)=(p:Rat)*p+(q:Rat)*q:=by
  have:((N:Int):Rat)=((p*p+q*q:Int):Rat):=by rw[hN]
  rw[Rat.intCast_add,Rat.intCast_mul,Rat.intCast_mul] at this;exact this
 have i1:((e:Int):Rat)=(e:Rat):=rfl;have hv:(N:Rat)=(w.re*w.re+w.im*w.im)*((e:Rat)*e):=by rw[hN2,←b5,←b6];grind
 refine⟨(a*p+b*q)*e,(b*p+-(a*q))*e,d*N,Nat.mul_pos a1 (by omega),Qhd a2 ?_,?_,?_,?_,?_⟩
 .have:(p*p+q*q).natAbs<2^(k+k+1):=Qjy (Qdj b3 b3) (Qdj b4 b4) (by omega) (by omega);omega
 .exact Qdj (Qjy (Qdj a3 b3) (Qdj a4 b4) (by omega) (by omega)) (by simpa using b2)
 .exact Qdj (Qjy (Qdj a4 b3) (by rw[Int.natAbs_neg];exact Qdj a3 b4) (by omega) (by omega)) (by simpa using b2)
 .rw[Rat.intCast_mul,Rat.intCast_add,Rat.intCast_mul,Rat.intCast_mul,Rat.natCast_mul,hv,i1,←a5,←a6,←b5,←b6,Uyr];grind
 .rw[Rat.intCast_mul,Rat.intCast_add,Rat.intCast_neg,Rat.intCast_mul,Rat.intCast_mul,Rat.natCast_mul,hv,i1,←a5,←a6,←b5,←b6,Uyq];grind
end
def BQ.mn{x:Rat}{n m n' m':Nat}(h:BQ x n m)(hm:m<=m')(hn:n<=n':=by omega):BQ x n' m':=h.mono hn hm
def CZ.mn{z:QC}{n m n' m':Nat}(h:CZ z n m)(hm:m<=m')(hn:n<=n':=by omega):CZ z n' m':=h.mono hn hm
end Go.Proofs.YtcjjdooeogmdbaaGreat
namespace Go.Proofs.YtcjjdooeogmdbaaGreat
open Go.RowKit Tr
open Classical
def IZ(x:Rat)(n:Nat):Prop:=∃ a:Int,a.natAbs<2^n/\x=(a:Rat)
section
variable{x y:Rat}{n m r:Nat}
def IZ.mono(h:IZ x n)(k:n<=m):IZ x m:=by
 obtain⟨a,h1,h2⟩:=h;exact⟨a,Nat.lt_of_lt_of_le h1 (p2m k),h2⟩
def IZ.mul(h:IZ x n)(g:IZ y m):IZ (x*y) (n+m):=by
 obtain⟨a,h1,h2⟩:=h;obtain⟨b,g1,g2⟩:=g;exact⟨a*b,Qdj h1 g1,by rw[h2,g2,Rat.intCast_mul]⟩
def IZ.add(h:IZ x n)(g:IZ y m)(k1:n<r)(k2:m<r):IZ (x+y) r:=by
 obtain⟨a,h1,h2⟩:=h;obtain⟨b,g1,g2⟩:=g;exact⟨a+b,Qjy h1 g1 k1 k2,by rw[h2,g2,Rat.intCast_add]⟩
def IZ.neg(h:IZ x n):IZ (-x) n:=by
 obtain⟨a,h1,h2⟩:=h;exact⟨-a,by rw[Int.natAbs_neg];exact h1,by rw[h2,Rat.intCast_neg]⟩
def IZ.sub(h:IZ x n)(g:IZ y m)(k1:n<r)(k2:m<r):IZ (x-y) r:=by
 have:=h.add g.neg k1 k2;rwa[show x+-y=x-y from by grind] at this
def IZ.int(z:Int)(k:Nat)(h:z.natAbs<2^k):IZ (z:Rat) k:=⟨z,h,rfl⟩
def IZ.bq(h:IZ x n):BQ x n 1:=by
 obtain⟨a,h1,h2⟩:=h;rw[h2];exact BQ.int a n h1
def IZ.det3{a b c d e f g h i:Rat}{n m k:Nat}(ha:IZ a n)(hb:IZ b n)(hc:IZ c n)(hd:IZ d m)(he:IZ e m)(hf:IZ f m)(hg:IZ g k)(hh:IZ h k)(hi:IZ i k):IZ (det3 a b c d e f g h i) (n+m+k+3):=by
 have k1:IZ (e*i-f*h) (m+k+1):=(he.mul hi).sub (hf.mul hh) (by omega) (by omega);have k2:IZ (d*i-f*g) (m+k+1):=(hd.mul hi).sub (hf.mul hg) (by omega) (by omega);have k3:IZ (d*h-e*g) (m+k+1):=(hd.mul hh).sub (he.mul hg) (by omega) (by omega);unfold Go.Proofs.YtcjjdooeogmdbaaGreat.det3;exact(((ha.mul k1).sub (hb.mul k2) (r:=n+m+k+2) (by omega) (by omega)).add (hc.mul k3) (by omega) (by omega))
end
def IF(a b e d:Rat)(n:Nat):Prop:=∃ k:Rat,k≠0/\IZ (k*a) n/\IZ (k*b) n/\IZ (k*e) n/\IZ (k*d) n
def IF.mono{a b e d:Rat}{n m:Nat}(h:IF a b e d n)(k:n<=m):IF a b e d m:=by
 obtain⟨q,h0,h1,h2,h3,h4⟩:=h;exact⟨q,h0,h1.mono k,h2.mono k,h3.mono k,h4.mono k⟩
def IF.div{a b e d c:Rat}{n:Nat}(h:IF a b e d n)(hc:c≠0):IF (a/c) (b/c) (e/c) (d/c) n:=by
 obtain⟨q,h0,h1,h2,h3,h4⟩:=h;have k:∀ x:Rat,q*c*(x/c)=q*x:=fun x=>by grind
 exact⟨q*c,fun e=>by rcases Rat.mul_eq_zero.1 e with e|e;exact h0 e;exact hc e,by rw[k];exact h1,by rw[k];exact h2,by rw[k];exact h3,by rw[k];exact h4⟩
def IF.sh{a b e d x y:Rat}{n:Nat}{q:Rat}(h0:q≠0)(h1:IZ (q*x) n)(h2:IZ (q*y) n)(hy:y≠0)(hn:n<8192):Qar (x/y):=by
 have k:x/y=(q*x)/(q*y):=by grind
 rw[k];exact(h1.bq.div h2.bq (fun e=>by rcases Rat.mul_eq_zero.1 e with e|e;exact h0 e;exact hy e)).short (by omega) (by omega)
def IF.cir{a b e d:Rat}{n:Nat}(h:IF a b e d n)(hb:byF a b e≠0)(hn:n<8192):Qno a b e d:=by
 obtain⟨q,h0,h1,h2,h3,h4⟩:=h;have k:IZ (q*byF a b e) n:=by
  unfold byF
  split
  .split
   .exact h3
   .exact h2
  .exact h1
 exact⟨IF.sh (a:=a) (b:=b) (e:=e) (d:=d) h0 h1 k hb hn,IF.sh (a:=a) (b:=b) (e:=e) (d:=d) h0 h2 k hb hn,IF.sh (a:=a) (b:=b) (e:=e) (d:=d) h0 h3 k hb hn,IF.sh (a:=a) (b:=b) (e:=e) (d:=d) h0 h4 k hb hn⟩
def IF.up{b0 b1 b2 b3 f0 f1 f2 f3 g0 g1 g2 g3:Rat}{n m:Nat}(hb:IZ b0 1/\IZ b1 1/\IZ b2 1/\IZ b3 1)(hf:IF f0 f1 f2 f3 n)(hg:IF g0 g1 g2 g3 m) :
  IF (up0 b0 b1 b2 f0 f1 f2 g0 g1 g2) (up1 b0 b2 b3 f0 f2 f3 g0 g2 g3) (up2 b0 b1 b3 f0 f1 f3 g0 g1 g3) (up3 b1 b2 b3 f1 f2 f3 g1 g2 g3) (n+m+6):=by
 obtain⟨c0,c1,c2,c3⟩:=hb;obtain⟨p,p0,p1,p2,p3,p4⟩:=hf;obtain⟨q,q0,q1,q2,q3,q4⟩:=hg;refine⟨4*p*q,fun e=>?_,?_,?_,?_,?_⟩
 .rcases Rat.mul_eq_zero.1 e with e|e
  .rcases Rat.mul_eq_zero.1 e with e|e
   .exact absurd e (by decide)
   .exact p0 e
  .exact q0 e
 .have e:4*p*q*up0 b0 b1 b2 f0 f1 f2 g0 g1 g2=((-2:Int):Rat)*det3 b1 b2 b0 (p*f1) (p*f2) (p*f0) (q*g1) (q*g2) (q*g0):=by
   rw[show((-2:Int):Rat)=-2 from rfl];unfold up0 det3;grind
  rw[e];exact((IZ.int (-2) 2 (by decide)).mul (IZ.det3 c1 c2 c0 p2 p3 p1 q2 q3 q1)).mono (by omega)
 .have e:4*p*q*up1 b0 b2 b3 f0 f2 f3 g0 g2 g3=-det3 b3 b2 b0 (p*f3) (p*f2) (p*f0) (q*g3) (q*g2) (q*g0):=by unfold up1 det3;grind
  rw[e];exact(IZ.det3 c3 c2 c0 p4 p3 p1 q4 q3 q1).neg.mono (by omega)
 .have e:4*p*q*up2 b0 b1 b3 f0 f1 f3 g0 g1 g3=det3 b3 b1 b0 (p*f3) (p*f1) (p*f0) (q*g3) (q*g1) (q*g0):=by unfold up2 det3;grind
  rw[e];exact(IZ.det3 c3 c1 c0 p4 p2 p1 q4 q2 q1).mono (by omega)
 .have e:4*p*q*up3 b1 b2 b3 f1 f2 f3 g1 g2 g3=((2:Int):Rat)*det3 b3 b1 b2 (p*f3) (p*f1) (p*f2) (q*g3) (q*g1) (q*g2):=by
   rw[show((2:Int):Rat)=2 from rfl];unfold up3 det3;grind
  rw[e];exact((IZ.int 2 2 (by decide)).mul (IZ.det3 c3 c1 c2 p4 p2 p3 q4 q2 q3)).mono (by omega)
def Bt(z:QC):Prop:=BQ z.re 40 40/\BQ z.im 40 40
def Bt.cz{z:QC}(h:Bt z):CZ z 80 80:=CZ.of h.1 h.2 (by omega) (by omega)
def Bt.sh{z:QC}(h:Bt z):Qac z:=h.cz.short (by omega) (by omega)
def Bt.spot{z:QC}(h:Bt z):IF 1 (-z.re) z.im (nm z) 162:=by
 obtain⟨a,b,d,h1,h2,h3,h4,h5,h6⟩:=h.cz;have hd:=Qvb h1;have id:IZ (d:Rat) 80:=⟨(d:Int),by simpa using h2,rfl⟩
 have ia:IZ (z.re*(d:Rat)) 80:=⟨a,h3,h5⟩
 have ib:IZ (z.im*(d:Rat)) 80:=⟨b,h4,h6⟩
 refine⟨(d:Rat)*(d:Rat),Qve hd,?_,?_,?_,?_⟩
 .rw[show(d:Rat)*(d:Rat)*1=(d:Rat)*(d:Rat) from by grind];exact(id.mul id).mono (by omega)
 .rw[show(d:Rat)*(d:Rat)*-z.re=-(z.re*(d:Rat)*(d:Rat)) from by grind];exact(ia.mul id).neg.mono (by omega)
 .rw[show(d:Rat)*(d:Rat)*z.im=z.im*(d:Rat)*(d:Rat) from by grind];exact(ib.mul id).mono (by omega)
 .rw[show(d:Rat)*(d:Rat)*nm z=z.re*(d:Rat)*(z.re*(d:Rat))+z.im*(d:Rat)*(z.im*(d:Rat)) from by unfold nm;grind];exact((ia.mul ia).add (ib.mul ib) (r:=161) (by omega) (by omega)).mono (by omega)
def IZ0:IZ 0 1:=IZ.int 0 1 (by decide)
def IZ1:IZ 1 1:=IZ.int 1 1 (by decide)
def IZm:IZ (-1) 1:=IZ.int (-1) 1 (by decide)
def IF.mid{z w:QC}{s t:Rat}{n:Nat}(hz:∃ k:Rat,k≠0/\IZ (k*1) n/\IZ (k*-z.re) n/\IZ (k*z.im) n/\IZ (k*nm z) n/\IZ (k*s) n)(hw:∃ k:Rat,k≠0/\IZ (k*1) n/\IZ (k*-w.re) n/\IZ (k*w.im) n/\IZ (k*nm w) n/\IZ (k*t) n) :
  IF (t-s) (w.re*s-z.re*t) (z.im*t-w.im*s) (nm z*t-nm w*s) (2*n+1):=by
 obtain⟨p,p0,p1,p2,p3,p4,p5⟩:=hz;obtain⟨q,q0,q1,q2,q3,q4,q5⟩:=hw;refine⟨p*q,fun e=>by rcases Rat.mul_eq_zero.1 e with e|e;exact p0 e;exact q0 e,?_,?_,?_,?_⟩
 .rw[show p*q*(t-s)=p*1*(q*t)-q*1*(p*s) from by grind];exact(p1.mul q5).sub (q1.mul p5) (by omega) (by omega)
 .rw[show p*q*(w.re*s-z.re*t)=p*-z.re*(q*t)-q*-w.re*(p*s) from by grind];exact(p2.mul q5).sub (q2.mul p5) (by omega) (by omega)
 .rw[show p*q*(z.im*t-w.im*s)=p*z.im*(q*t)-q*w.im*(p*s) from by grind];exact(p3.mul q5).sub (q3.mul p5) (by omega) (by omega)
 .rw[show p*q*(nm z*t-nm w*s)=p*nm z*(q*t)-q*nm w*(p*s) from by grind];exact(p4.mul q5).sub (q4.mul p5) (by omega) (by omega)
def Bt.hi1{z:QC}(h:Bt z):∃ k:Rat,k≠0/\IZ (k*1) 163/\IZ (k*-z.re) 163/\IZ (k*z.im) 163/\IZ (k*nm z) 163/\IZ (k*z.im) 163:=by
 obtain⟨p,p0,p1,p2,p3,p4⟩:=h.spot.mono (m:=163) (by omega);exact⟨p,p0,p1,p2,p3,p4,p3⟩
def Bt.hi2{z:QC}(h:Bt z):∃ k:Rat,k≠0/\IZ (k*1) 163/\IZ (k*-z.re) 163/\IZ (k*z.im) 163/\IZ (k*nm z) 163/\IZ (k*(1-nm z)) 163:=by
 obtain⟨p,p0,p1,p2,p3,p4⟩:=h.spot;exact⟨p,p0,p1.mono (by omega),p2.mono (by omega),p3.mono (by omega),p4.mono (by omega),by
  rw[show p*(1-nm z)=p*1-p*nm z from by grind];exact p1.sub p4 (by omega) (by omega)⟩
def Bt.mid1{z w:QC}(hz:Bt z)(hw:Bt w):IF (Qep z w) (Qeq z w) (Qer z w) (Qhl z w) 327:=IF.mid hz.hi1 hw.hi1
def Bt.mid2{z w:QC}(hz:Bt z)(hw:Bt w):IF (Qfm z w) (Qfn z w) (Qfo z w) (Qhn z w) 327:=IF.mid hz.hi2 hw.hi2
def Bt.lin1{z w:QC}(hz:Bt z)(hw:Bt w):IF (Qei z w) (Qej z w) (Qek z w) (Qhb z w) 330:=IF.up ⟨IZ0,IZ0,IZ1,IZ0⟩ hz.spot hw.spot
def Bt.lin2{z w:QC}(hz:Bt z)(hw:Bt w):IF (Qel z w) (Qem z w) (Qen z w) (Qhc z w) 330:=IF.up ⟨IZ1,IZ0,IZ0,IZm⟩ hz.spot hw.spot
def Bt.upr{p:Nat}{a b e d:Rat}{z:QC}{n:Nat}(hz:Bt z)(h:IF a b e d n):IF (upr p a b e d z).1 (upr p a b e d z).2.1 (upr p a b e d z).2.2.1 (upr p a b e d z).2.2.2 (n+168):=by
 unfold Go.Proofs.YtcjjdooeogmdbaaGreat.upr
 split
 .exact IF.up ⟨IZ0,IZ0,IZ1,IZ0⟩ h hz.spot
 .exact IF.up ⟨IZ1,IZ0,IZ0,IZm⟩ h hz.spot
def BQ.low{q:Rat}{n m:Nat}(h:BQ q n m):q.num.natAbs<2^n/\q.den<2^m:=by
 obtain⟨a,d,h1,h2,h3,h4⟩:=h;have k:q.num*(d:Int)=a*(q.den:Int):=by
  have e:=Rat.num_divInt_den q;rw[Rat.divInt_eq_div] at e;have hd:=Qvb q.den_pos;have e2:q*(q.den:Rat)=(q.num:Rat):=by
   have:q*(q.den:Rat)=(q.num:Rat)/((q.den:Int):Rat)*(q.den:Rat):=by rw[e]
   rw[this,show((q.den:Int):Rat)=(q.den:Rat) from rfl];grind
  have e3:(q.num:Rat)*(d:Rat)=(a:Rat)*(q.den:Rat):=by rw[←e2,←h4];grind
  have e4:((q.num*(d:Int):Int):Rat)=((a*(q.den:Int):Int):Rat):=by rw[Rat.intCast_mul,Rat.intCast_mul];exact e3
  exact Rat.intCast_inj.1 e4
 have k2:q.num.natAbs*d=a.natAbs*q.den:=by
  have:=congrArg Int.natAbs k;simpa[Int.natAbs_mul] using this
 have dv:q.den ∣ d:=Nat.Coprime.dvd_of_dvd_mul_left (q.reduced.symm) ⟨a.natAbs,by rw[k2,Nat.mul_comm]⟩;have le:q.den<=d:=Nat.le_of_dvd h1 dv;refine⟨?_,Nat.lt_of_le_of_lt le h2⟩;have:q.num.natAbs*d<=a.natAbs*d:=by rw[k2];exact Nat.mul_le_mul_left _ le
 exact Nat.lt_of_le_of_lt (Nat.le_of_mul_le_mul_right this h1) h3
def BQ.self(q:Rat){n m:Nat}(h1:q.num.natAbs<2^n)(h2:q.den<2^m):BQ q n m:=by
 refine⟨q.num,q.den,q.den_pos,h2,h1,?_⟩;have e:=Rat.num_divInt_den q;rw[Rat.divInt_eq_div] at e;have hd:=Qvb q.den_pos;have:q*(q.den:Rat)=(q.num:Rat)/((q.den:Int):Rat)*(q.den:Rat):=by rw[e]
 rw[this,show((q.den:Int):Rat)=(q.den:Rat) from rfl];grind
def BQ.root{t q:Rat}{n m:Nat}(h:BQ q n m)(ht:t*t=q):BQ t n m:=by
 obtain⟨l1,l2⟩:=h.low;have main:∀ s:Rat,0<=s->s*s=q->BQ s n m:=fun s h0 hs=>by
  obtain⟨hr,e⟩:=Udn h0 hs;obtain⟨p1,p2⟩:=Qoo hr;rw[e] at p1 p2;rw[p1,Int.natAbs_mul] at l1;rw[p2] at l2;have g:∀ x:Nat,x<=x*x:=fun x=>by
   rcases Nat.eq_zero_or_pos x with k|k
   .subst k;omega
   .exact Nat.le_mul_of_pos_left x k
  exact BQ.self s (Nat.lt_of_le_of_lt (g _) l1) (Nat.lt_of_le_of_lt (g _) l2)
 by_cases h0:0<=t
 .exact main t h0 ht
 .have:=(main (-t) (by grind) (by rw[←ht];grind)).neg;rwa[show - -t=t from by grind] at this
def fN(l1 l2:Rat):Rat:=l1*l1+l2*l2
def fV(l1 l2 l3 g0 g1 g2:Rat):Rat:=(-g1/g0*l1-g2/g0*l2)*2+l3
def fQ(l1 l2 l3 g0 g1 g2 g3:Rat):Rat:=(Qao g0 g1 g2 g3 g0 g1 g2 g3/(g0*g0)-fV l1 l2 l3 g0 g1 g2*fV l1 l2 l3 g0 g1 g2/(fN l1 l2*4))/fN l1 l2
def fX(l1 l2 l3 g0 g1 g2 t:Rat):QC:=ctX l1 l2 (-g1/g0) (g2/g0) (fV l1 l2 l3 g0 g1 g2) (fN l1 l2) t
def Ury{P V c k M:Rat}(hc:c≠0)(hk:k≠0)(hM:M≠0):(P/(c*c)-V/(c*k)*(V/(c*k))/(M/(k*k)*4))/(M/(k*k))/(k*k)=(4*M*P-V*V)/(4*(c*c)*(M*M)):=by
 have e1:V/(c*k)*(V/(c*k))/(M/(k*k)*4)=V*V/(4*(c*c)*M):=by grind
 rw[e1];have e2:P/(c*c)-V*V/(4*(c*c)*M)=(4*M*P-V*V)/(4*(c*c)*M):=by grind
 rw[e2];generalize 4*M*P-V*V=A;grind
def Usa{l1 l2 l3 g0 g1 g2 k m:Rat}(hk:k≠0)(hm:m≠0)(h0:g0≠0):fV l1 l2 l3 g0 g1 g2=((-(m*g1)*(k*l1)-m*g2*(k*l2))*2+k*l3*(m*g0))/(m*g0*k):=by
 have e:fV l1 l2 l3 g0 g1 g2*g0=(-g1*l1-g2*l2)*2+l3*g0:=by
  have a:-g1/g0*g0=-g1:=Ujc h0;have b:g2/g0*g0=g2:=Ujc h0;unfold fV;generalize -g1/g0=x at *
  generalize g2/g0=y at *
  grind
 have d:m*g0*k≠0:=by grind
 have e2:fV l1 l2 l3 g0 g1 g2*(m*g0*k)=(-(m*g1)*(k*l1)-m*g2*(k*l2))*2+k*l3*(m*g0):=by
  have:fV l1 l2 l3 g0 g1 g2*(m*g0*k)=fV l1 l2 l3 g0 g1 g2*g0*(m*k):=by grind
  rw[this,e];grind
 rw[←e2];grind
def Urz{g0 g1 g2 g3 m:Rat}(hm:m≠0)(h0:g0≠0):Qao g0 g1 g2 g3 g0 g1 g2 g3/(g0*g0)=(m*g1*(m*g1)+m*g2*(m*g2)-m*g0*(m*g3))/(m*g0*(m*g0)):=by
 have a1:=Qve h0;have a2:=Qve hm;have e:m*g1*(m*g1)+m*g2*(m*g2)-m*g0*(m*g3)=m*m*Qao g0 g1 g2 g3 g0 g1 g2 g3:=by unfold Qao;grind
 have e2:m*g0*(m*g0)=m*m*(g0*g0):=by grind
 rw[e,e2];generalize Qao g0 g1 g2 g3 g0 g1 g2 g3=A;generalize g0*g0=B at *
 generalize m*m=C at *
 grind
def Urx{l1 l2 k:Rat}(hk:k≠0):fN l1 l2=(k*l1*(k*l1)+k*l2*(k*l2))/(k*k):=by
 have a:=Qve hk;have e:k*l1*(k*l1)+k*l2*(k*l2)=k*k*fN l1 l2:=by unfold fN;grind
 rw[e];generalize fN l1 l2=A;generalize k*k=B at *
 grind
def Urg{l V c k M:Rat}(hk:k≠0)(hc:c≠0)(hM:M≠0):l*(V/(c*k)/(M/(k*k)*2))=k*l*V/(2*c*M):=by grind
def Qxm(x:Rat):(0:Rat)/x=0:=by rw[Rat.div_def,Rat.zero_mul]
def Uvi{x y m:Rat}(hm:m≠0)(hy:y≠0):-x/y=-(m*x)/(m*y):=by grind
def Uvj{x y m:Rat}(hm:m≠0)(hy:y≠0):x/y=(m*x)/(m*y):=by grind
def Uvr{t k:Rat}(hk:k≠0):t/k*(t/k)=t*t/(k*k):=by grind
def Uvq{l t k:Rat}(hk:k≠0):l*t=k*l*(t/k):=by grind
def Qra{l1 l2 l3 g0 g1 g2 g3 t:Rat}{L G:Nat}(hl:∃ k:Rat,k≠0/\IZ (k*l1) L/\IZ (k*l2) L/\IZ (k*l3) L)(hg:IF g0 g1 g2 g3 G)(h0:g0≠0)(hN:fN l1 l2≠0)(ht:t=0\/t*t=fQ l1 l2 l3 g0 g1 g2 g3)(hL:L<=830)(hG:G<=500):Qac (fX l1 l2 l3 g0 g1 g2 t):=by
 obtain⟨k,k0,i1,i2,i3⟩:=hl;obtain⟨m,m0,j0,j1,j2,j3⟩:=hg;replace i1:=i1.mono hL;replace i2:=i2.mono hL;replace i3:=i3.mono hL;replace j0:=j0.mono hG;replace j1:=j1.mono hG;replace j2:=j2.mono hG;replace j3:=j3.mono hG;have hk:∀ x y:Rat,k*x=y→x=y/k:=fun x y e=>by rw[←e];grind
 have hm:∀ x y:Rat,m*x=y→x=y/m:=fun x y e=>by rw[←e];grind
 obtain⟨p1,e1⟩:∃ p,k*l1=p:=⟨_,rfl⟩
 obtain⟨p2,e2⟩:∃ p,k*l2=p:=⟨_,rfl⟩
 obtain⟨p3,e3⟩:∃ p,k*l3=p:=⟨_,rfl⟩
 obtain⟨c0,f0⟩:∃ p,m*g0=p:=⟨_,rfl⟩
 obtain⟨c1,f1⟩:∃ p,m*g1=p:=⟨_,rfl⟩
 obtain⟨c2,f2⟩:∃ p,m*g2=p:=⟨_,rfl⟩
 obtain⟨c3,f3⟩:∃ p,m*g3=p:=⟨_,rfl⟩
 rw[e1] at i1;rw[e2] at i2;rw[e3] at i3;rw[f0] at j0;rw[f1] at j1;rw[f2] at j2;rw[f3] at j3;have c00:c0≠0:=by rw[<-f0];exact fun e=>by rcases Rat.mul_eq_zero.1 e with e|e;exact m0 e;exact h0 e
 have er:-g1/g0=-c1/c0:=by rw[<-f0,<-f1];exact Uvi m0 h0
 have es:g2/g0=c2/c0:=by rw[<-f0,<-f2];exact Uvj m0 h0
 have eR:Qao g0 g1 g2 g3 g0 g1 g2 g3/(g0*g0)=(c1*c1+c2*c2-c0*c3)/(c0*c0):=by rw[Urz m0 h0,f0,f1,f2,f3]
 obtain⟨V,eV⟩:∃ V,V=(-c1*p1-c2*p2)*2+p3*c0:=⟨_,rfl⟩
 obtain⟨M,eM⟩:∃ M,M=p1*p1+p2*p2:=⟨_,rfl⟩
 have eN:fN l1 l2=M/(k*k):=by rw[Urx k0,e1,e2,<-eM]
 have hM:M≠0:=fun e=>hN (by rw[eN,e,Qxm])
 have ev:fV l1 l2 l3 g0 g1 g2=V/(c0*k):=by rw[Usa k0 m0 h0,e1,e2,e3,f0,f1,f2,<-eV]
 have iV:IZ V 1334:=by
  rw[eV];exact(((j1.neg.mul i1).sub (j2.mul i2) (r:=1331) (by omega) (by omega)).mul (IZ.int 2 2 (by decide))).add (i3.mul j0) (by omega) (by omega)
 have iM:IZ M 1661:=by rw[eM];exact(i1.mul i1).add (i2.mul i2) (by omega) (by omega)
 have eK:∀ l p:Rat,k*l=p->l*(fV l1 l2 l3 g0 g1 g2/(fN l1 l2*2))=p*V/(2*c0*M):=fun l p e=>by
  rw[ev,eN,<-e];exact Urg k0 c00 hM
 obtain⟨P,eP⟩:∃ P,P=c1*c1+c2*c2-c0*c3:=⟨_,rfl⟩
 have iP:IZ P 1002:=by rw[eP];exact((j1.mul j1).add (j2.mul j2) (r:=1001) (by omega) (by omega)).sub (j0.mul j3) (by omega) (by omega)
 rw[<-eP] at eR;have d1:(2*c0*M:Rat)≠0:=by
  intro e;rcases Rat.mul_eq_zero.1 e with e|e
  .rcases Rat.mul_eq_zero.1 e with e|e
   .exact absurd e (by decide)
   .exact c00 e
  .exact hM e
 have bK:∀ p:Rat,IZ p 830->BQ (p*V/(2*c0*M)) 2165 2164:=fun p hp =>
  ((hp.mul iV).bq.div (((IZ.int 2 2 (by decide)).mul j0).mul iM).bq d1).mono (by omega) (by omega)
 obtain⟨u,eu⟩:∃ u,u=t/k:=⟨_,rfl⟩
 have d2:(4*(c0*c0)*(M*M):Rat)≠0:=by
  intro e;rcases Rat.mul_eq_zero.1 e with e|e
  .rcases Rat.mul_eq_zero.1 e with e|e
   .exact absurd e (by decide)
   .exact Qve c00 e
  .exact Qve hM e
 have bu:BQ u 2670 4326:=by
  rcases ht with ht|ht
  .rw[eu,ht,show(0:Rat)/k=((0:Int):Rat) from by rw[show((0:Int):Rat)=0 from rfl,Qxm]];exact(BQ.int 0 1 (by decide)).mono (by omega) (by omega)
  .refine BQ.root (q:=(4*M*P-V*V)/(4*(c0*c0)*(M*M))) ?_ ?_
   .have n1:=((((IZ.int 4 3 (by decide)).mul iM).mul iP).sub (iV.mul iV) (r:=2669) (by omega) (by omega)).bq;have n2:=(((IZ.int 4 3 (by decide)).mul (j0.mul j0)).mul (iM.mul iM)).bq;exact(n1.div n2 d2).mono (by omega) (by omega)
   .rw[eu];have:t/k*(t/k)=fQ l1 l2 l3 g0 g1 g2 g3/(k*k):=by rw[<-ht];exact Uvr k0
    rw[this];unfold fQ;rw[eR,ev,eN];exact Ury c00 k0 hM
 have eT:∀ l p:Rat,k*l=p->l*t=p*u:=fun l p e=>by rw[eu,<-e];exact Uvq k0
 have br:BQ (-c1/c0) 501 501:=(j1.neg.bq.div j0.bq c00).mono (by omega) (by omega);have bs:BQ (c2/c0) 501 501:=(j2.bq.div j0.bq c00).mono (by omega) (by omega);unfold fX ctX;rw[er,es,eK l1 p1 e1,eK l2 p2 e2,eT l1 p1 e1,eT l2 p2 e2];exact⟨((br.sub (bK p1 i1) (r:=2667) (by omega) (by omega)).add (i2.bq.mul bu) (r:=6996) (by omega) (by omega)).short (by omega) (by omega),
  ((bs.add (bK p2 i2) (r:=2667) (by omega) (by omega)).add (i1.bq.mul bu) (r:=6996) (by omega) (by omega)).short (by omega) (by omega)⟩
def Qms(a b e d c:Rat)(z:QC):vl (a/c) (b/c) (e/c) (d/c) z=vl a b e d z/c:=by
 unfold vl;grind
def Kkk(a b e d c f0 f1 f2 f3:Rat):Qao (a/c) (b/c) (e/c) (d/c) f0 f1 f2 f3=Qao a b e d f0 f1 f2 f3/c:=by
 unfold Qao;grind
def Unv(a b e d c:Rat):Qao (a/c) (b/c) (e/c) (d/c) (a/c) (b/c) (e/c) (d/c)=Qao a b e d a b e d/(c*c):=by
 have h:∀ x:Rat,x/(c*c)=x*(c⁻¹*c⁻¹):=fun x=>by rw[Rat.div_def,Rat.inv_mul_rev]
 rw[h,show a/c=a*c⁻¹ from Rat.div_def _ _,show b/c=b*c⁻¹ from Rat.div_def _ _,show e/c=e*c⁻¹ from Rat.div_def _ _,show d/c=d*c⁻¹ from Rat.div_def _ _];unfold Qao;grind
def Umj(z w:QC):vl (Qei z w) (Qej z w) (Qek z w) (Qhb z w) z=0:=by simp only[vl,Qei,Qej,Qek,Qhb,up0,up1,up2,up3,det3,nm];grind
def Umi(z w:QC):vl (Qei z w) (Qej z w) (Qek z w) (Qhb z w) w=0:=by simp only[vl,Qei,Qej,Qek,Qhb,up0,up1,up2,up3,det3,nm];grind
def Umh(z w:QC):Qao (Qei z w) (Qej z w) (Qek z w) (Qhb z w) 0 0 1 0=0:=by simp only[Qao,Qei,Qej,Qek,Qhb,up0,up1,up2,up3,det3];grind
def Umv(z w:QC):Qao (Qep z w) (Qeq z w) (Qer z w) (Qhl z w) 0 0 1 0=0:=by simp only[Qao,Qep,Qeq,Qer,Qhl,nm];grind
def Umt(z w:QC):rfN (Qep z w) (Qeq z w) (Qer z w) (Qhl z w) z=w*rfD (Qep z w) (Qeq z w) (Qer z w) (Qhl z w) z:=by
 apply Qcs<;>simp only[rfN,rfD,cj,qmr,qmi,qar,qai,qsr,qsi,Qep,Qeq,Qer,Qhl,nm]<;>grind
def Umn(z w:QC):vl (Qel z w) (Qem z w) (Qen z w) (Qhc z w) z=0:=by simp only[vl,Qel,Qem,Qen,Qhc,up0,up1,up2,up3,det3,nm];grind
def Umm(z w:QC):vl (Qel z w) (Qem z w) (Qen z w) (Qhc z w) w=0:=by simp only[vl,Qel,Qem,Qen,Qhc,up0,up1,up2,up3,det3,nm];grind
def Uml(z w:QC):Qao (Qel z w) (Qem z w) (Qen z w) (Qhc z w) 1 0 0 (-1)=0:=by simp only[Qao,Qel,Qem,Qen,Qhc,up0,up1,up2,up3,det3];grind
def Umy(z w:QC):Qao (Qfm z w) (Qfn z w) (Qfo z w) (Qhn z w) 1 0 0 (-1)=0:=by simp only[Qao,Qfm,Qfn,Qfo,Qhn,nm];grind
def Umw(z w:QC):rfN (Qfm z w) (Qfn z w) (Qfo z w) (Qhn z w) z=w*rfD (Qfm z w) (Qfn z w) (Qfo z w) (Qhn z w) z:=by
 apply Qcs<;>simp only[rfN,rfD,cj,qmr,qmi,qar,qai,qsr,qsi,Qfm,Qfn,Qfo,Qhn,nm]<;>grind
def Uhe(a b e d c:Rat)(z:QC):rfN (a/c) (b/c) (e/c) (d/c) z=(⟨c⁻¹,0⟩:QC)*rfN a b e d z:=by
 rw[show a/c=a*c⁻¹ from Rat.div_def _ _,show b/c=b*c⁻¹ from Rat.div_def _ _,show e/c=e*c⁻¹ from Rat.div_def _ _,show d/c=d*c⁻¹ from Rat.div_def _ _];apply Qcs<;>simp only[rfN,rfD,cj,qmr,qmi,qar,qai,qsr,qsi]<;>grind
def Uhb(a b e d c:Rat)(z:QC):rfD (a/c) (b/c) (e/c) (d/c) z=(⟨c⁻¹,0⟩:QC)*rfD a b e d z:=by
 rw[show a/c=a*c⁻¹ from Rat.div_def _ _,show b/c=b*c⁻¹ from Rat.div_def _ _,show e/c=e*c⁻¹ from Rat.div_def _ _,show d/c=d*c⁻¹ from Rat.div_def _ _];apply Qcs<;>simp only[rfN,rfD,cj,qmr,qmi,qar,qai,qsr,qsi]<;>grind
def Kjn{a b e d c:Rat}{z w:QC}(h:rfN a b e d z=w*rfD a b e d z)(hd:rfD (a/c) (b/c) (e/c) (d/c) z≠⟨0,0⟩):rfN (a/c) (b/c) (e/c) (d/c) z/rfD (a/c) (b/c) (e/c) (d/c) z=w:=by
 have k:rfN (a/c) (b/c) (e/c) (d/c) z=rfD (a/c) (b/c) (e/c) (d/c) z*w:=by
  rw[Uhe,Uhb,h];apply Qcs<;>simp only[qmr,qmi]<;>grind
 have e1:=qdm (x:=rfN (a/c) (b/c) (e/c) (d/c) z) hd;rw[k] at e1 ⊢;generalize rfD (a/c) (b/c) (e/c) (d/c) z=D at *
 have e2:D*(D*w/D-w)=⟨0,0⟩:=by
  have:D*(D*w/D-w)=D*(D*w/D)-D*w:=by apply Qcs<;>simp only[qmr,qmi,qsr,qsi]<;>grind
  rw[this,e1];apply Qcs<;>simp only[qsr,qsi]<;>grind
 exact Qtl.1 ((Ugx.1 e2).elim (fun k=>absurd k hd) id)
def Kyx(zr zi xr xi wr wi:Rat):((zi*zi+xi*xi+(zr-xr)*(zr-xr))*(zi*zi+xi*xi+(zr-xr)*(zr-xr))-4*(zi*zi)*(xi*xi))*((xi*xi+wi*wi+(xr-wr)*(xr-wr))*(xi*xi+wi*wi+(xr-wr)*(xr-wr))-4*(xi*xi)*(wi*wi))-(2*(xi*xi)*(zi*zi+wi*wi+(zr-wr)*(zr-wr))-(zi*zi+xi*xi+(zr-xr)*(zr-xr))*(xi*xi+wi*wi+(xr-wr)*(xr-wr)))*(2*(xi*xi)*(zi*zi+wi*wi+(zr-wr)*(zr-wr))-(zi*zi+xi*xi+(zr-xr)*(zr-xr))*(xi*xi+wi*wi+(xr-wr)*(xr-wr)))=4*(xi*xi)*(det3 1 zr (zr*zr+zi*zi) 1 xr (xr*xr+xi*xi) 1 wr (wr*wr+wi*wi)*det3 1 zr (zr*zr+zi*zi) 1 xr (xr*xr+xi*xi) 1 wr (wr*wr+wi*wi)):=by
 unfold det3;grind
def Utz(a0 a1 a2 b0 b1 b2 c0 c1 c2:Rat):(a0*a0-a1*a1-a2*a2)*(b0*b0-b1*b1-b2*b2)*(c0*c0-c1*c1-c2*c2)+2*((a0*b0-a1*b1-a2*b2)*(b0*c0-b1*c1-b2*c2)*(a0*c0-a1*c1-a2*c2))-(c0*c0-c1*c1-c2*c2)*((a0*b0-a1*b1-a2*b2)*(a0*b0-a1*b1-a2*b2))-(a0*a0-a1*a1-a2*a2)*((b0*c0-b1*c1-b2*c2)*(b0*c0-b1*c1-b2*c2))-(b0*b0-b1*b1-b2*b2)*((a0*c0-a1*c1-a2*c2)*(a0*c0-a1*c1-a2*c2))=det3 a0 a1 a2 b0 b1 b2 c0 c1 c2*det3 a0 a1 a2 b0 b1 b2 c0 c1 c2:=by
 unfold det3;grind
def Ufr(Z X W p q r:Rat):(p*p-Z*X)*(q*q-X*W)-(X*r-p*q)*(X*r-p*q)=X*(Z*X*W+2*(p*q*r)-W*(p*p)-Z*(q*q)-X*(r*r)):=by grind
def Uft(u:QC):(1+nm u)*(1+nm u)-2*u.re*(2*u.re)-2*u.im*(2*u.im)=(1-nm u)*(1-nm u):=by unfold nm;grind
def Ufu(u v:QC):(1+nm u)*(1+nm v)-2*u.re*(2*v.re)-2*u.im*(2*v.im)=(1-nm u)*(1-nm v)+2*((u.re-v.re)*(u.re-v.re)+(u.im-v.im)*(u.im-v.im)):=by unfold nm;grind
def Kyy(z x w:QC){p q r:Rat}(hp:p=(1-nm z)*(1-nm x)+2*((z.re-x.re)*(z.re-x.re)+(z.im-x.im)*(z.im-x.im)))(hq:q=(1-nm x)*(1-nm w)+2*((x.re-w.re)*(x.re-w.re)+(x.im-w.im)*(x.im-w.im)))(hr:r=(1-nm z)*(1-nm w)+2*((z.re-w.re)*(z.re-w.re)+(z.im-w.im)*(z.im-w.im))) :
  (p*p-(1-nm z)*(1-nm z)*((1-nm x)*(1-nm x)))*(q*q-(1-nm x)*(1-nm x)*((1-nm w)*(1-nm w)))-((1-nm x)*(1-nm x)*r-p*q)*((1-nm x)*(1-nm x)*r-p*q)=(1-nm x)*(1-nm x)*(det3 (1+nm z) (2*z.re) (2*z.im) (1+nm x) (2*x.re) (2*x.im) (1+nm w) (2*w.re) (2*w.im)*det3 (1+nm z) (2*z.re) (2*z.im) (1+nm x) (2*x.re) (2*x.im) (1+nm w) (2*w.re) (2*w.im)):=by
 rw[Ufr,<-Utz,Uft,Uft,Uft,Ufu,Ufu,Ufu,<-hp,<-hq,<-hr]
def Uny{x y c:Rat}(hc:c≠0)(h:x*c=y*c):x=y:=by grind
def Utx{x z w:QC}(hx:0<x.im)(hz:0<z.im)(hw:0<w.im):∃ t:Rat,(Qdy x z*Qdy x z-1)*(Qdy x w*Qdy x w-1)-(Qdy z w-Qdy x z*Qdy x w)*(Qdy z w-Qdy x z*Qdy x w)=t*t:=by
 have e:∀ u v:QC,0<u.im->0<v.im->Qdy u v*(2*(u.im*v.im))=u.im*u.im+v.im*v.im+(u.re-v.re)*(u.re-v.re):=fun u v hu hv=>by
  have:=pne (Qdv hu hv);have n:nm (u-v)=(u.re-v.re)*(u.re-v.re)+(u.im-v.im)*(u.im-v.im):=by simp only[nm,qsr,qsi]
  have k:nm (u-v)/(u.im*v.im+u.im*v.im)*(2*(u.im*v.im))=nm (u-v):=by
   generalize u.im*v.im=q at *
   generalize nm (u-v)=m;grind
  have k2:(1+nm (u-v)/(u.im*v.im+u.im*v.im))*(2*(u.im*v.im))=2*(u.im*v.im)+nm (u-v)/(u.im*v.im+u.im*v.im)*(2*(u.im*v.im)):=by
   generalize nm (u-v)/(u.im*v.im+u.im*v.im)=m;grind
  unfold Qdy;rw[k2,k,n];grind
 have e1:=e x z hx hz;have e2:=e x w hx hw;have e3:=e z w hz hw;have id:=Kyx z.re z.im x.re x.im w.re w.im;have px:=pne hx;have pz:=pne hz;have pw:=pne hw;generalize Qdy x z=A at *
 generalize Qdy x w=B at *
 generalize Qdy z w=C at *
 obtain⟨V,hV⟩:∃ V,V=det3 1 z.re (z.re*z.re+z.im*z.im) 1 x.re (x.re*x.re+x.im*x.im) 1 w.re (w.re*w.re+w.im*w.im):=⟨_,rfl⟩
 rw[<-hV] at id;obtain⟨N1,h1⟩:∃ N,N=z.im*z.im+x.im*x.im+(z.re-x.re)*(z.re-x.re):=⟨_,rfl⟩
 obtain⟨N2,h2⟩:∃ N,N=x.im*x.im+w.im*w.im+(x.re-w.re)*(x.re-w.re):=⟨_,rfl⟩
 obtain⟨N3,h3⟩:∃ N,N=z.im*z.im+w.im*w.im+(z.re-w.re)*(z.re-w.re):=⟨_,rfl⟩
 rw[←h1,←h2,←h3] at id;replace e1:A*(2*(x.im*z.im))=N1:=by rw[e1,h1];grind
 rw[<-h2] at e2;rw[<-h3] at e3;clear h1 h2 h3 hV e;refine⟨V/(2*(x.im*z.im*w.im)),?_⟩;generalize x.im=a at *
 generalize z.im=b at *
 generalize w.im=c at *
 have d:(2*(a*b*c):Rat)≠0:=by grind
 obtain⟨t,ht⟩:∃ t,t=V/(2*(a*b*c)):=⟨_,rfl⟩
 rw[←ht];replace ht:t*(2*(a*b*c))=V:=by rw[ht];grind
 have k0:(16*(b*b)*(a*a)*(a*a)*(c*c):Rat)≠0:=by grind
 refine Uny k0 ?_;rw[←e1,←e2,←e3,←ht] at id;clear ht e1 e2 e3 k0 d;grind
def Uty{x z w:QC}(hx:0<1-nm x)(hz:0<1-nm z)(hw:0<1-nm w):∃ t:Rat,(Qdo x z*Qdo x z-1)*(Qdo x w*Qdo x w-1)-(Qdo z w-Qdo x z*Qdo x w)*(Qdo z w-Qdo x z*Qdo x w)=t*t:=by
 have e:∀ u v:QC,0<1-nm u->0<1-nm v->Qdo u v*((1-nm u)*(1-nm v))=(1-nm u)*(1-nm v)+2*((u.re-v.re)*(u.re-v.re)+(u.im-v.im)*(u.im-v.im)):=fun u v hu hv=>by
  have:=pne (Qdv hu hv);have n:nm (u-v)=(u.re-v.re)*(u.re-v.re)+(u.im-v.im)*(u.im-v.im):=by simp only[nm,qsr,qsi]
  unfold Qdo;rw[n];generalize (1-nm u)*(1-nm v)=q at *
  generalize (u.re-v.re)*(u.re-v.re)+(u.im-v.im)*(u.im-v.im)=m;grind
 have e1:=e x z hx hz;have e2:=e x w hx hw;have e3:=e z w hz hw;have px:=pne hx;have pz:=pne hz;have pw:=pne hw;generalize Qdo x z=A at *
 generalize Qdo x w=B at *
 generalize Qdo z w=C at *
 obtain⟨V,hV⟩:∃ V,V=det3 (1+nm z) (2*z.re) (2*z.im) (1+nm x) (2*x.re) (2*x.im) (1+nm w) (2*w.re) (2*w.im):=⟨_,rfl⟩
 obtain⟨N1,h1⟩:∃ N,N=(1-nm z)*(1-nm x)+2*((z.re-x.re)*(z.re-x.re)+(z.im-x.im)*(z.im-x.im)):=⟨_,rfl⟩
 obtain⟨N2,h2⟩:∃ N,N=(1-nm x)*(1-nm w)+2*((x.re-w.re)*(x.re-w.re)+(x.im-w.im)*(x.im-w.im)):=⟨_,rfl⟩
 obtain⟨N3,h3⟩:∃ N,N=(1-nm z)*(1-nm w)+2*((z.re-w.re)*(z.re-w.re)+(z.im-w.im)*(z.im-w.im)):=⟨_,rfl⟩
 have id:=Kyy z x w h1 h2 h3;rw[←hV] at id;replace e1:A*((1-nm x)*(1-nm z))=N1:=by rw[e1,h1];grind
 rw[<-h2] at e2;rw[<-h3] at e3;clear h1 h2 h3 hV e;refine⟨V/((1-nm x)*(1-nm z)*(1-nm w)),?_⟩;generalize 1-nm x=a at *
 generalize 1-nm z=b at *
 generalize 1-nm w=c at *
 have d:(a*b*c:Rat)≠0:=by grind
 obtain⟨t,ht⟩:∃ t,t=V/(a*b*c):=⟨_,rfl⟩
 rw[←ht];replace ht:t*(a*b*c)=V:=by rw[ht];grind
 have k0:((b*b)*(a*a)*(a*a)*(c*c):Rat)≠0:=by grind
 refine Uny k0 ?_;rw[←e1,←e2,←e3,←ht] at id;clear ht e1 e2 e3 k0 d;grind
def Ufa{x z:QC}(hx:0<x.im)(hz:0<z.im):vl 1 (-x.re) (x.im+(Qdy x z-1)*x.im) (nm x) z=0:=by
 have:=pne (Qdv hx hz);have k:(Qdy x z-1)*(x.im*z.im+x.im*z.im)=nm (x-z):=by unfold Qdy;grind
 have n:nm (x-z)=(x.re-z.re)*(x.re-z.re)+(x.im-z.im)*(x.im-z.im):=by simp only[nm,qsr,qsi]
 rw[n] at k;unfold vl nm;grind
def Ufb{x z:QC}(hx:0<1-nm x)(hz:0<1-nm z){b:Rat}(hb:b=(Qdo x z-1)*(1-nm x)*(1/2)):vl (1+b) (-x.re) x.im (nm x-b) z=0:=by
 have:=pne (Qdv hx hz);have k:(Qdo x z-1)*((1-nm x)*(1-nm z))=nm (x-z)+nm (x-z):=by unfold Qdo;grind
 have n:nm (x-z)=(x.re-z.re)*(x.re-z.re)+(x.im-z.im)*(x.im-z.im):=by simp only[nm,qsr,qsi]
 rw[n] at k;rw[hb];unfold vl;unfold nm at *
 grind
end Go.Proofs.YtcjjdooeogmdbaaGreat
namespace Go.Proofs.YtcjjdooeogmdbaaGreat
open Go.RowKit Tr
def Udw{n k:Nat}(h:(Qcj n).size<=4*k):(Qad n).length<=k:=by
 refine Qak ?_;have h1:=Qmz (Qcj n);rw[Qdq] at h1;refine Nat.lt_of_lt_of_le h1 ?_;rw[show(4294967296:Nat)=256^4 from by decide,<-Nat.pow_mul];exact Nat.pow_le_pow_right (by decide) h
def Qde{q:Rat}(h:Qar q):RL q 256:=⟨Udw h.1,Udw h.2⟩
def Qqa(q:Rat)(hq:RL q 134217728)(h:¬Qjx q):SCt 121 [.c (gr q)] (.tup [.c ga,gFf]) :=
 Qqe eo121 fun w A u hR hA hu=>by
  by_cases h0:q<0
  .refine(Kkr q h0 u A w hu).mono ?_;rintro e w' ⟨rfl,hb⟩;exact⟨_,rfl,⟨[.pointer none,.bool false],rfl,⟨rfl,fun _ _ e=>by cases e⟩,rfl,trivial⟩,hb⟩
  .replace h0:=Rat.not_lt.1 h0;obtain⟨r1,r2⟩:=(Qzr q.num.natAbs).choose_spec;obtain⟨d1,d2⟩:=(Qzr q.den).choose_spec;obtain⟨e1,e2,e3⟩:=Kdx h0 r1 r2 d1 d2;refine(Kks q h0 _ _ r1 r2 d1 d2 e2 false (Iff.intro (fun k=>Bool.noConfusion k) (fun k=>(h ⟨_,Rat.divInt_nonneg (Int.natCast_nonneg _) (Int.natCast_nonneg _),k⟩).elim)) u A w hu (hR rfl) 134217728 hq lr).mono ?_;rintro e w' ⟨m,rfl,hb,h1⟩;exact⟨_,rfl,⟨[_,.bool false],rfl,⟨rfl,fun _ _ e=>by cases e⟩,rfl,trivial⟩,hb⟩
