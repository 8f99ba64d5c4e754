/- Laws. -/
import Derived.Test.YtcjjdooeogmdbaaGreatVbi
set_option linter.all false
set_option maxHeartbeats 4000000
set_option maxRecDepth 100000
namespace Go.Proofs.YtcjjdooeogmdbaaGreat
open Go.RowKit Tr
open Classical
def vl(a b e d:Rat)(z:QC):Rat:=a*nm z+2*(b*z.re-e*z.im)+d
def ctX(l1 l2 r s v N t:Rat):QC:=⟨r-l1*(v/(N*2))+l2*t,s+l2*(v/(N*2))+l1*t⟩
def Krn{l1 l2 l3 r s v N t:Rat}(hN:N≠0)(eN:N=l1*l1+l2*l2)(ev:v=(r*l1-s*l2)*2+l3):vl 0 l1 l2 l3 (ctX l1 l2 r s v N t)=0:=by
 have h:v/(N*2)*(l1*l1+l2*l2)*2=v:=by rw[←eN];grind
 simp only[vl,ctX];generalize v/(N*2)=k at *
 grind
def Krk{l1 l2 l3 r s v N t R:Rat}(hN:N≠0)(eN:N=l1*l1+l2*l2)(ht:t*t=(R-v*v/(N*4))/N):nm (ctX l1 l2 r s v N t-⟨r,s⟩)=R:=by
 have h1:v/(N*2)*N*2=v:=by grind
 have h2:v*v/(N*4)=v/(N*2)*(v/(N*2))*N:=by grind
 have h3:t*t*N=R-v/(N*2)*(v/(N*2))*N:=by rw[ht,h2];grind
 simp only[nm,ctX,qsr,qsi];generalize v/(N*2)=k at *
 subst eN;grind
def Uku{g0 g1 g2 g3 R:Rat}{X:QC}(hg:g0≠0)(hR:R=Qao g0 g1 g2 g3 g0 g1 g2 g3/(g0*g0))(h:nm (X-⟨-g1/g0,g2/g0⟩)=R):vl g0 g1 g2 g3 X=0:=by
 have k1:-g1/g0*g0=-g1:=by grind
 have k2:g2/g0*g0=g2:=by grind
 have k3:R*(g0*g0)=g1*g1+g2*g2-g0*g3:=by rw[hR];simp only[Qao];grind
 simp only[nm,qsr,qsi] at h;have k4:vl g0 g1 g2 g3 X*g0=0:=by
  simp only[vl,nm];generalize -g1/g0=r at *
  generalize g2/g0=s at *
  grind
 rcases Rat.mul_eq_zero.1 k4 with k|k
 .exact k
 .exact absurd k hg
def Krl{l1 r v N t:Rat}(hN:N≠0)(eN:N=l1*l1+0*0)(ht:t≠0)(h:¬0<(ctX l1 0 r 0 v N t).im):0<(ctX l1 0 r 0 v N (-t)).im:=by
 simp only[ctX] at *
 have h1:l1*t≠0:=by
  intro k;rcases Rat.mul_eq_zero.1 k with k|k
  .subst k;exact hN (by rw[eN];grind)
  .exact ht k
 grind
def Uvx{v N:Rat}(n0:N≠0):v/(N*2)*N*2=v∧v*v/(N*4)=v/(N*2)*(v/(N*2))*N:=⟨by grind,by grind⟩
def Upr{x y N:Rat}(n0:N≠0)(h:y=x/N):y*N=x:=by rw[h];grind
def le1{P:Rat}(h:¬0<1-P):0≤P-1:=by grind
def Krm{l1 l2 r s v N t R:Rat}(hN:0<N)(eN:N=l1*l1+l2*l2)(ev:v=(r*l1-s*l2)*2+0)(eR:r*r+s*s=R+1)(ht:t*t=(R-v*v/(N*4))/N)(h0:t≠0)
  (h:¬0<1-nm (ctX l1 l2 r s v N t)):0<1-nm (ctX l1 l2 r s v N (-t)):=by
 have n0:N≠0:=fun k=>by rw[k] at hN;exact Rat.lt_irrefl hN
 obtain⟨k,hk⟩:∃ k,k=v/(N*2):=⟨_,rfl⟩
 have h1:k*N*2=v:=by rw[hk];exact(Uvx n0).1
 have h2:v*v/(N*4)=k*k*N:=by rw[hk];exact(Uvx n0).2
 have h3:t*t*N=R-k*k*N:=by rw[h2] at ht;exact Upr n0 ht
 simp only[nm,ctX,<-hk] at *
 clear ht h2 hk;have tt:0<t*t:=by
  have:=rsq t;have k2:t*t≠0:=fun k=>by rcases Rat.mul_eq_zero.1 k with k|k<;>exact h0 k
  grind
 have w0:0<t*t*N:=Qdv tt hN;obtain⟨P,hP⟩:∃ P,P=(r-l1*k+l2*t)*(r-l1*k+l2*t)+(s+l2*k+l1*t)*(s+l2*k+l1*t):=⟨_,rfl⟩
 obtain⟨Q,hQ⟩:∃ Q,Q=(r-l1*k+l2*-t)*(r-l1*k+l2*-t)+(s+l2*k+l1*-t)*(s+l2*k+l1*-t):=⟨_,rfl⟩
 rw[←hP] at h;rw[←hQ];have a2:(r-l1*k)*(r-l1*k)+(s+l2*k)*(s+l2*k)=t*t*N+1:=by grind
 have w2:(l2*t)*(l2*t)+(l1*t)*(l1*t)=t*t*N:=by rw[eN];grind
 have cr:(r-l1*k)*(l1*t)-(s+l2*k)*(l2*t)=0:=by
  have:(r-l1*k)*(l1*t)-(s+l2*k)*(l2*t)=t*(r*l1-s*l2-k*(l1*l1+l2*l2)):=by grind
  rw[this,←eN];grind
 have sm:P+Q=4*(t*t*N)+2:=by rw[hP,hQ];grind
 rw[show l2*-t=-(l2*t) from Rat.mul_neg l2 t,show l1*-t=-(l1*t) from Rat.mul_neg l1 t] at hQ;have pr:P*Q=1:=by
  generalize r-l1*k=x at *
  generalize s+l2*k=y at *
  generalize l2*t=e at *
  generalize l1*t=f at *
  generalize t*t*N=W at *
  have d:P*Q=(x*x+y*y+(e*e+f*f))*(x*x+y*y+(e*e+f*f))-4*((x*x+y*y)*(e*e+f*f))+4*((x*f-y*e)*(x*f-y*e)):=by
   rw[hP,hQ];grind
  rw[d,a2,w2,cr];grind
 by_cases c:0<1-Q
 .exact c
 .have m:=Rat.mul_nonneg (le1 h) (le1 c);have:(P-1)*(Q-1)=P*Q-(P+Q)+1:=by grind
  rw[this,pr,sm] at m;grind
def upr(p:Nat)(a b e d:Rat)(z:QC):Rat×Rat×Rat×Rat :=
 if p=1 then(up0 0 0 1 a b e 1 (-z.re) z.im,up1 0 1 0 a e d 1 z.im (nm z),up2 0 0 0 a b d 1 (-z.re) (nm z),up3 0 1 0 b e d (-z.re) z.im (nm z))
 else(up0 1 0 0 a b e 1 (-z.re) z.im,up1 1 0 (-1) a e d 1 z.im (nm z),up2 1 0 (-1) a b d 1 (-z.re) (nm z),up3 0 0 (-1) b e d (-z.re) z.im (nm z))
def Ubl(a b d:Rat)(z:QC):Qao (upr 1 a b 0 d z).1 (upr 1 a b 0 d z).2.1 (upr 1 a b 0 d z).2.2.1 (upr 1 a b 0 d z).2.2.2 (upr 1 a b 0 d z).1 (upr 1 a b 0 d z).2.1 (upr 1 a b 0 d z).2.2.1 (upr 1 a b 0 d z).2.2.2*16=vl a b 0 d z*vl a b 0 d z+4*(z.im*z.im)*Qao a b 0 d a b 0 d:=by
 simp only[upr,if_pos,Qao,vl,up0,up1,up2,up3,det3,nm];grind
def Ubm(a b e:Rat)(z:QC):Qao (upr 2 a b e a z).1 (upr 2 a b e a z).2.1 (upr 2 a b e a z).2.2.1 (upr 2 a b e a z).2.2.2 (upr 2 a b e a z).1 (upr 2 a b e a z).2.1 (upr 2 a b e a z).2.2.1 (upr 2 a b e a z).2.2.2*16=vl a b e a z*vl a b e a z+(1-nm z)*(1-nm z)*Qao a b e a a b e a:=by
 simp only[upr,show ¬(2:Nat)=1 from by decide,if_false,Qao,vl,up0,up1,up2,up3,det3,nm];grind
def Uds(p:Nat)(a b e d:Rat)(z:QC)(h:if p=1 then e=0 else a=d):vl (upr p a b e d z).1 (upr p a b e d z).2.1 (upr p a b e d z).2.2.1 (upr p a b e d z).2.2.2 z=0:=by
 unfold upr
 split at h<;>rename_i k<;>simp only[k,if_true,if_false,vl,up0,up1,up2,up3,det3,nm]<;>grind
def Qoq(p:Nat)(a b e d:Rat)(z:QC)(h:if p=1 then e=0 else a=d):Qao (upr p a b e d z).1 (upr p a b e d z).2.1 (upr p a b e d z).2.2.1 (upr p a b e d z).2.2.2 a b e d=0:=by
 unfold upr
 split at h<;>rename_i k<;>simp only[k,if_true,if_false,Qao,up0,up1,up2,up3,det3,nm]<;>grind
def Qve{g:Rat}(h:g≠0):g*g≠0:=fun k=>by rcases Rat.mul_eq_zero.1 k with k|k<;>exact h k
def Ujc{x y:Rat}(h:y≠0):x/y*y=x:=by grind
def Kyk{l1 l2 l3 g0 g1 g2 g3 r s v N t R:Rat}(hg:g0≠0)(hN:0<N)(hP:0<Qao g0 g1 g2 g3 g0 g1 g2 g3)(er:r=-g1/g0)(es:s=g2/g0)(ev:v=(r*l1-s*l2)*2+l3)
  (hu:Qao 0 l1 l2 l3 g0 g1 g2 g3=0) (hR:R=Qao g0 g1 g2 g3 g0 g1 g2 g3/(g0*g0)) (ht:t*t=(R-v*v/(N*4))/N):t≠0:=by
 have n0:N≠0:=fun k=>by rw[k] at hN;exact Rat.lt_irrefl hN
 have v0:v*g0=0:=by
  have k1:r*g0=-g1:=by rw[er];grind
  have k2:s*g0=g2:=by rw[es];grind
  have:v*g0=-2*Qao 0 l1 l2 l3 g0 g1 g2 g3:=by
   rw[ev];simp only[Qao];have:((r*l1-s*l2)*2+l3)*g0=(r*g0*l1-s*g0*l2)*2+l3*g0:=by grind
   rw[this,k1,k2];grind
  rw[this,hu];grind
 have v1:v=0:=by
  rcases Rat.mul_eq_zero.1 v0 with k|k
  .exact k
  .exact absurd k hg
 intro k;rw[k,v1] at ht;have e:=Upr n0 ht;have e2:R=0:=by
  have:(0:Rat)*0/(N*4)=0:=by grind
  rw[this] at e;grind
 rw[e2] at hR;have:=Upr (Qve hg) hR;grind
def Ukv{u0 u1 u2 u3 g1 g2 g3 r s v N t R:Rat}(hN:0<N)(hP:0<Qao 1 g1 g2 g3 1 g1 g2 g3)(hQ:0<Qao u0 u1 u2 u3 u0 u1 u2 u3)(hu:Qao u0 u1 u2 u3 1 g1 g2 g3=0)(er:r=-g1)(es:s=g2)
  (eN:N=(u1-g1*u0)*(u1-g1*u0)+(u2-g2*u0)*(u2-g2*u0)) (ev:v=(r*(u1-g1*u0)-s*(u2-g2*u0))*2+(u3-g3*u0)) (hR:R=Qao 1 g1 g2 g3 1 g1 g2 g3)
  (ht:t*t=(R-v*v/(N*4))/N):t≠0:=by
 have n0:N≠0:=fun k=>by rw[k] at hN;exact Rat.lt_irrefl hN
 have e1:v=2*(u0*R)-2*Qao u0 u1 u2 u3 1 g1 g2 g3:=by rw[ev,hR,er,es];simp only[Qao];grind
 have e2:N=Qao u0 u1 u2 u3 u0 u1 u2 u3-2*(u0*Qao u0 u1 u2 u3 1 g1 g2 g3)+u0*u0*R:=by rw[eN,hR];simp only[Qao];grind
 rw[hu] at e1 e2;rw[←hR] at hP;intro k;rw[k] at ht;have e:=Upr n0 ht;have e3:v*v/(N*4)*(N*4)=v*v:=Ujc (by grind);have e4:R=v*v/(N*4):=by grind
 rw[←e4,e1] at e3;have e5:R*(N-u0*u0*R)=0:=by grind
 have e6:=Qdv hP hQ;rw[show N-u0*u0*R=Qao u0 u1 u2 u3 u0 u1 u2 u3 from by grind] at e5;grind
def Keb{a b d:Rat}{z:QC}(hz:0<z.im)(hp:0<Qao a b 0 d a b 0 d):0<Qao (upr 1 a b 0 d z).1 (upr 1 a b 0 d z).2.1 (upr 1 a b 0 d z).2.2.1 (upr 1 a b 0 d z).2.2.2 (upr 1 a b 0 d z).1 (upr 1 a b 0 d z).2.1 (upr 1 a b 0 d z).2.2.1 (upr 1 a b 0 d z).2.2.2:=by
 have e:=Ubl a b d z;have h1:=rsq (vl a b 0 d z);have h2:=Qdv (Qdv hz hz) hp;generalize Qao (upr 1 a b 0 d z).1 (upr 1 a b 0 d z).2.1 (upr 1 a b 0 d z).2.2.1 (upr 1 a b 0 d z).2.2.2 (upr 1 a b 0 d z).1 (upr 1 a b 0 d z).2.1 (upr 1 a b 0 d z).2.2.1 (upr 1 a b 0 d z).2.2.2=x at *
 grind
def Klj{a b e:Rat}{z:QC}(hz:0<1-nm z)(hp:0<Qao a b e a a b e a):0<Qao (upr 2 a b e a z).1 (upr 2 a b e a z).2.1 (upr 2 a b e a z).2.2.1 (upr 2 a b e a z).2.2.2 (upr 2 a b e a z).1 (upr 2 a b e a z).2.1 (upr 2 a b e a z).2.2.1 (upr 2 a b e a z).2.2.2:=by
 have e':=Ubm a b e z;have h1:=rsq (vl a b e a z);have h2:=Qdv (Qdv hz hz) hp;generalize Qao (upr 2 a b e a z).1 (upr 2 a b e a z).2.1 (upr 2 a b e a z).2.2.1 (upr 2 a b e a z).2.2.2 (upr 2 a b e a z).1 (upr 2 a b e a z).2.1 (upr 2 a b e a z).2.2.1 (upr 2 a b e a z).2.2.2=x at *
 grind
def Kaa{u0 u1 u2 u3 g1 g2 g3:Rat}{X:QC}(h1:vl 0 (u1-g1*u0) (u2-g2*u0) (u3-g3*u0) X=0)(h2:vl 1 g1 g2 g3 X=0):vl u0 u1 u2 u3 X=0:=by
 have:vl u0 u1 u2 u3 X=vl 0 (u1-g1*u0) (u2-g2*u0) (u3-g3*u0) X+u0*vl 1 g1 g2 g3 X:=by simp only[vl];grind
 rw[this,h1,h2];grind
def Qvs{l1 l2 l3 g0 g1 g2 g3 r s v N t R:Rat}(hg:g0≠0)(hN:N≠0)(eN:N=l1*l1+l2*l2)(er:r=-g1/g0)(es:s=g2/g0)(ev:v=(r*l1-s*l2)*2+l3)
  (hR:R=Qao g0 g1 g2 g3 g0 g1 g2 g3/(g0*g0)) (ht:t*t=(R-v*v/(N*4))/N) :
  (vl 0 l1 l2 l3 (ctX l1 l2 r s v N t)=0/\vl g0 g1 g2 g3 (ctX l1 l2 r s v N t)=0)/\vl 0 l1 l2 l3 (ctX l1 l2 r s v N (-t))=0/\vl g0 g1 g2 g3 (ctX l1 l2 r s v N (-t))=0:=by
 have ht':-t*-t=(R-v*v/(N*4))/N:=by rw[←ht];grind
 refine⟨⟨Krn hN eN ev,Uku hg hR ?_⟩,Krn hN eN ev,Uku hg hR ?_⟩
 .rw[<-er,<-es];exact Krk (l3:=l3) hN eN ht
 .rw[<-er,<-es];exact Krk (l3:=l3) hN eN ht'
def Klh(a b d:Rat)(z:QC):(upr 1 a b 0 d z).2.2.1=0:=by
 simp only[upr,if_pos,up2,det3];grind
def Kli(a b e:Rat)(z:QC):(upr 2 a b e a z).2.2.2=(upr 2 a b e a z).1:=by
 simp only[upr,show ¬(2:Nat)=1 from by decide,if_false,up0,up3,det3];grind
def Qhm(p:Nat)(a b e d:Rat)(z v:QC):Prop :=
 (if p=1 then 0<v.im else 0<1-nm v)/\vl a b e d v=0/\vl (upr p a b e d z).1 (upr p a b e d z).2.1 (upr p a b e d z).2.2.1 (upr p a b e d z).2.2.2 v=0
def Utq{d:Rat}{z:QC}(hz:0<z.im){u0 u1 u2 u3 r s v N t R:Rat}(eU:upr 1 0 1 0 d z=(u0,u1,u2,u3))(hu:u0≠0)(eN:N=1*1+0*0)(er:r=-u1/u0)(es:s=u2/u0)(ev:v=(r*1-s*0)*2+d)
  (hR:R=Qao u0 u1 u2 u3 u0 u1 u2 u3/(u0*u0)) (ht:t*t=(R-v*v/(N*4))/N) :
  (0<(ctX 1 0 r s v N t).im->Qhm 1 0 1 0 d z (ctX 1 0 r s v N t))/\(¬0<(ctX 1 0 r s v N t).im->Qhm 1 0 1 0 d z (ctX 1 0 r s v N (-t))):=by
 have n1:N=1:=by rw[eN];grind
 have hN:0<N:=by rw[n1];decide
 have n0:N≠0:=by rw[n1];decide
 have hP:=Keb (a:=0) (b:=1) (d:=d) hz (by simp only[Qao];grind);have hO:=Qoq 1 0 1 0 d z (by simp);have h2:=Klh 0 1 d z;have k:=Qvs hu n0 eN er es ev hR ht;simp only[Qhm,eU,if_pos] at *
 have s0:s=0:=by rw[es,h2];grind
 have t0:=Kyk hu hN hP er es ev (by have c:=hO;simp only[Qao] at c ⊢;clear hO k ht ev eN hR er es eU;grind) hR ht;subst s0;exact⟨fun h=>⟨h,k.1⟩,fun h=>⟨Krl n0 eN t0 h,k.2⟩⟩
def Uto{b d:Rat}{z:QC}(hz:0<z.im)(hp:0<Qao 1 b 0 d 1 b 0 d){u1 u2 u3 r s v N t R:Rat}(eU:upr 1 1 b 0 d z=(0,u1,u2,u3))(eN:N=u1*u1+u2*u2)(er:r=-b)(es:s=0)(ev:v=(r*u1-s*u2)*2+u3)
  (hR:R=Qao 1 b 0 d 1 b 0 d) (ht:t*t=(R-v*v/(N*4))/N) :
  (0<(ctX u1 u2 r s v N t).im->Qhm 1 1 b 0 d z (ctX u1 u2 r s v N t))/\(¬0<(ctX u1 u2 r s v N t).im->Qhm 1 1 b 0 d z (ctX u1 u2 r s v N (-t))):=by
 have hP:=Keb (a:=1) (b:=b) (d:=d) hz hp;have hO:=Qoq 1 1 b 0 d z (by simp);have h2:=Klh 1 b d z;simp only[Qhm,eU,if_pos] at *
 have hN:0<N:=by
  have c:Qao 0 u1 u2 u3 0 u1 u2 u3=N:=by rw[eN];simp only[Qao];clear hP hO;grind
  rw[<-c];exact hP
 have n0:N≠0:=fun k=>by rw[k] at hN;exact Rat.lt_irrefl hN
 have er':r=-b/1:=by rw[er];grind
 have es':s=0/1:=by rw[es];grind
 have hR':R=Qao 1 b 0 d 1 b 0 d/(1*1):=by rw[hR];grind
 have k:=Qvs (by decide) n0 eN er' es' ev hR' ht;have t0:=Kyk (by decide) hN hp er' es' ev hO hR' ht;subst h2;subst es;exact⟨fun h=>⟨h,k.1.2,k.1.1⟩,fun h=>⟨Krl n0 eN t0 h,k.2.2,k.2.1⟩⟩
def Utp{b d:Rat}{z:QC}(hz:0<z.im)(hp:0<Qao 1 b 0 d 1 b 0 d){u0 u1 u2 u3 r s v N t R:Rat}(eU:upr 1 1 b 0 d z=(u0,u1,u2,u3))(eN:N=(u1-b*u0)*(u1-b*u0)+(u2-0*u0)*(u2-0*u0))(er:r=-b)(es:s=0)
  (ev:v=(r*(u1-b*u0)-s*(u2-0*u0))*2+(u3-d*u0)) (hR:R=Qao 1 b 0 d 1 b 0 d) (ht:t*t=(R-v*v/(N*4))/N) :
  (0<(ctX (u1-b*u0) (u2-0*u0) r s v N t).im->Qhm 1 1 b 0 d z (ctX (u1-b*u0) (u2-0*u0) r s v N t))/\(¬0<(ctX (u1-b*u0) (u2-0*u0) r s v N t).im->Qhm 1 1 b 0 d z (ctX (u1-b*u0) (u2-0*u0) r s v N (-t))):=by
 have hP:=Keb (a:=1) (b:=b) (d:=d) hz hp;have hO:=Qoq 1 1 b 0 d z (by simp);have h2:=Klh 1 b d z;simp only[Qhm,eU,if_pos] at *
 have hN:0<N:=by
  have c:N=Qao u0 u1 u2 u3 u0 u1 u2 u3-2*(u0*Qao u0 u1 u2 u3 1 b 0 d)+u0*u0*Qao 1 b 0 d 1 b 0 d:=by rw[eN];simp only[Qao];clear hP hO hp;grind
  have c2:=Rat.mul_nonneg (rsq u0) (Rat.le_of_lt hp);rw[hO] at c;clear ev eN ht hR;generalize Qao u0 u1 u2 u3 u0 u1 u2 u3=A at *
  generalize u0*u0*Qao 1 b 0 d 1 b 0 d=B at *
  grind
 have n0:N≠0:=fun k=>by rw[k] at hN;exact Rat.lt_irrefl hN
 have er':r=-b/1:=by rw[er];grind
 have es':s=0/1:=by rw[es];grind
 have hR':R=Qao 1 b 0 d 1 b 0 d/(1*1):=by rw[hR];grind
 have k:=Qvs (by decide) n0 eN er' es' ev hR' ht;have t0:=Ukv hN hp hP hO er es eN ev hR ht;have l0:u2-0*u0=0:=by rw[h2];grind
 have k1:=Kaa k.1.1 k.1.2;have k2:=Kaa k.2.1 k.2.2;subst es;rw[l0] at eN k k1 k2 ⊢;exact⟨fun h=>⟨h,k.1.2,k1⟩,fun h=>⟨Krl n0 eN t0 h,k.2.2,k2⟩⟩
def Ulq{b e:Rat}{z:QC}(hz:0<1-nm z)(hp:0<Qao 1 b e 1 1 b e 1){u1 u2 u3 r s v N t R:Rat}(eU:upr 2 1 b e 1 z=(0,u1,u2,u3))(eN:N=u1*u1+u2*u2)(er:r=-b)(es:s=e)(ev:v=(r*u1-s*u2)*2+u3)
  (hR:R=Qao 1 b e 1 1 b e 1) (ht:t*t=(R-v*v/(N*4))/N) :
  (0<1-nm (ctX u1 u2 r s v N t)->Qhm 2 1 b e 1 z (ctX u1 u2 r s v N t))/\(¬0<1-nm (ctX u1 u2 r s v N t)->Qhm 2 1 b e 1 z (ctX u1 u2 r s v N (-t))):=by
 have hP:=Klj (a:=1) (b:=b) (e:=e) hz hp;have hO:=Qoq 2 1 b e 1 z (by simp);have h2:=Kli 1 b e z;simp only[Qhm,eU,show ¬(2:Nat)=1 from by decide,if_false] at *
 have hN:0<N:=by
  have c:Qao 0 u1 u2 u3 0 u1 u2 u3=N:=by rw[eN];simp only[Qao];clear hP hO hp;grind
  rw[<-c];exact hP
 have n0:N≠0:=fun k=>by rw[k] at hN;exact Rat.lt_irrefl hN
 have er':r=-b/1:=by rw[er];grind
 have es':s=e/1:=by rw[es];grind
 have hR':R=Qao 1 b e 1 1 b e 1/(1*1):=by rw[hR];grind
 have k:=Qvs (by decide) n0 eN er' es' ev hR' ht;have t0:=Kyk (by decide) hN hp er' es' ev hO hR' ht;have eR:r*r+s*s=R+1:=by rw[er,es,hR];simp only[Qao];clear hP hO hp;grind
 subst h2;exact⟨fun h=>⟨h,k.1.2,k.1.1⟩,fun h=>⟨Krm hN eN ev eR ht t0 h,k.2.2,k.2.1⟩⟩
def Utn{b e:Rat}{z:QC}(hz:0<1-nm z)(hp:0<Qao 0 b e 0 0 b e 0){u0 u1 u2 u3 r s v N t R:Rat}(eU:upr 2 0 b e 0 z=(u0,u1,u2,u3))(hu:u0≠0)(eN:N=b*b+e*e)(er:r=-u1/u0)(es:s=u2/u0)(ev:v=(r*b-s*e)*2+0)
  (hR:R=Qao u0 u1 u2 u3 u0 u1 u2 u3/(u0*u0)) (ht:t*t=(R-v*v/(N*4))/N) :
  (0<1-nm (ctX b e r s v N t)->Qhm 2 0 b e 0 z (ctX b e r s v N t))/\(¬0<1-nm (ctX b e r s v N t)->Qhm 2 0 b e 0 z (ctX b e r s v N (-t))):=by
 have hP:=Klj (a:=0) (b:=b) (e:=e) hz hp;have hO:=Qoq 2 0 b e 0 z (by simp);have h2:=Kli 0 b e z;simp only[Qhm,eU,show ¬(2:Nat)=1 from by decide,if_false] at *
 have hN:0<N:=by
  have c:Qao 0 b e 0 0 b e 0=N:=by rw[eN];simp only[Qao];clear hP hO hp;grind
  rw[<-c];exact hp
 have n0:N≠0:=fun k=>by rw[k] at hN;exact Rat.lt_irrefl hN
 have k:=Qvs hu n0 eN er es ev hR ht;have t0:=Kyk hu hN hP er es ev (by have c:=hO;simp only[Qao] at c ⊢;clear hO hP hp k ht ev eN hR er es eU;grind) hR ht;have eR:r*r+s*s=R+1:=by
  have k1:r*u0=-u1:=by rw[er];exact Ujc hu
  have k2:s*u0=u2:=by rw[es];exact Ujc hu
  have k3:R*(u0*u0)=u1*u1+u2*u2-u0*u0:=by rw[hR,Ujc (Qve hu),h2];simp only[Qao];clear hO hP hp k ht ev eN hR er es eU;grind
  have k4:(r*r+s*s-(R+1))*(u0*u0)=0:=by
   have:(r*r+s*s-(R+1))*(u0*u0)=(r*u0)*(r*u0)+(s*u0)*(s*u0)-R*(u0*u0)-u0*u0:=by clear hO hP hp k ht ev eN hR er es eU;grind
   rw[this,k1,k2,k3];clear hO hP hp k ht ev eN hR er es eU;grind
  rcases Rat.mul_eq_zero.1 k4 with c|c
  .clear hO hP hp k ht ev eN hR er es eU;grind
  .exact absurd c (Qve hu)
 exact⟨fun h=>⟨h,k.1⟩,fun h=>⟨Krm hN eN ev eR ht t0 h,k.2⟩⟩
def Ulr{b e:Rat}{z:QC}(hz:0<1-nm z)(hp:0<Qao 1 b e 1 1 b e 1){u0 u1 u2 u3 r s v N t R:Rat}(eU:upr 2 1 b e 1 z=(u0,u1,u2,u3))(eN:N=(u1-b*u0)*(u1-b*u0)+(u2-e*u0)*(u2-e*u0))(er:r=-b)(es:s=e)
  (ev:v=(r*(u1-b*u0)-s*(u2-e*u0))*2+(u3-1*u0)) (hR:R=Qao 1 b e 1 1 b e 1) (ht:t*t=(R-v*v/(N*4))/N) :
  (0<1-nm (ctX (u1-b*u0) (u2-e*u0) r s v N t)->Qhm 2 1 b e 1 z (ctX (u1-b*u0) (u2-e*u0) r s v N t))/\(¬0<1-nm (ctX (u1-b*u0) (u2-e*u0) r s v N t)->Qhm 2 1 b e 1 z (ctX (u1-b*u0) (u2-e*u0) r s v N (-t))):=by
 have hP:=Klj (a:=1) (b:=b) (e:=e) hz hp;have hO:=Qoq 2 1 b e 1 z (by simp);have h2:=Kli 1 b e z;simp only[Qhm,eU,show ¬(2:Nat)=1 from by decide,if_false] at *
 have hN:0<N:=by
  have c:N=Qao u0 u1 u2 u3 u0 u1 u2 u3-2*(u0*Qao u0 u1 u2 u3 1 b e 1)+u0*u0*Qao 1 b e 1 1 b e 1:=by rw[eN];simp only[Qao];clear hP hO hp;grind
  have c2:=Rat.mul_nonneg (rsq u0) (Rat.le_of_lt hp);rw[hO] at c;clear ev eN ht hR;generalize Qao u0 u1 u2 u3 u0 u1 u2 u3=A at *
  generalize u0*u0*Qao 1 b e 1 1 b e 1=B at *
  grind
 have n0:N≠0:=fun k=>by rw[k] at hN;exact Rat.lt_irrefl hN
 have er':r=-b/1:=by rw[er];grind
 have es':s=e/1:=by rw[es];grind
 have hR':R=Qao 1 b e 1 1 b e 1/(1*1):=by rw[hR];grind
 have k:=Qvs (by decide) n0 eN er' es' ev hR' ht;have t0:=Ukv hN hp hP hO er es eN ev hR ht;have k1:=Kaa k.1.1 k.1.2;have k2:=Kaa k.2.1 k.2.2;have eR:r*r+s*s=R+1:=by rw[er,es,hR];simp only[Qao];clear hP hO hp;grind
 have l3:u3-1*u0=0:=by rw[h2];grind
 rw[l3] at ev;exact⟨fun h=>⟨h,k.1.2,k1⟩,fun h=>⟨Krm hN eN ev eR ht t0 h,k.2.2,k2⟩⟩
end Go.Proofs.YtcjjdooeogmdbaaGreat
namespace Go.Proofs.YtcjjdooeogmdbaaGreat
open Go.RowKit Tr
def stp(t:Bool)(a b c d:QC)(p:QC×QC×QC×QC):QC×QC×QC×QC :=
 if t then(a*cj p.1+b*cj p.2.2.1,a*cj p.2.1+b*cj p.2.2.2,c*cj p.1+d*cj p.2.2.1,c*cj p.2.1+d*cj p.2.2.2)
 else(a*p.1+b*p.2.2.1,a*p.2.1+b*p.2.2.2,c*p.1+d*p.2.2.1,c*p.2.1+d*p.2.2.2)
def pw(t:Bool)(a b c d:QC)(k:Nat):QC×QC×QC×QC:=if t then mtn a b c d k else mp a b c d k
def Ksu{u v:QC}(h:u≠⟨0,0⟩)(k:v≠⟨0,0⟩):u*v≠⟨0,0⟩:=fun e=>(Ugx.1 e).elim h k
def dq(p:QC×QC×QC×QC):QC:=p.1*p.2.2.2-p.2.1*p.2.2.1
abbrev Q4:=QC×QC×QC×QC
def ZL4(p:Q4)(k:Nat):Prop:=ZL p.1 k/\ZL p.2.1 k/\ZL p.2.2.1 k/\ZL p.2.2.2 k
def ZL4.mono{p:Q4}{k l:Nat}(h:ZL4 p k)(hk:k<=l):ZL4 p l:=⟨h.1.mono hk,h.2.1.mono hk,h.2.2.1.mono hk,h.2.2.2.mono hk⟩
def qdm{x y:QC}(h:y≠⟨0,0⟩):y*(x/y)=x:=by
 have hn:=Koa h;have hi:=Rat.mul_inv_cancel _ hn;have e1:(x/y).re=(x.re*y.re-x.im*(-y.im))*(y.re*y.re+y.im*y.im)⁻¹:=rfl;have e2:(x/y).im=(x.re*(-y.im)+x.im*y.re)*(y.re*y.re+y.im*y.im)⁻¹:=rfl;generalize (y.re*y.re+y.im*y.im)⁻¹=i at *
 apply Qcs
 .rw[qmr,e1,e2];grind
 .rw[qmi,e1,e2];grind
def IsW(L W:Nat)(z:QC):Prop:=∃ x y:Int,z.re*(L:Int)=(x:Int)/\z.im*(L:Int)=(y:Int)/\x.natAbs<=W/\y.natAbs<=W
def IsW.mul{L W L' W':Nat}{z w:QC}(h:IsW L W z)(k:IsW L' W' w):IsW (L*L') (2*(W*W')) (z*w):=by
 obtain⟨x,y,h1,h2,h3,h4⟩:=h;obtain⟨u,v,k1,k2,k3,k4⟩:=k;refine⟨x*u-y*v,x*v+y*u,?_,?_,?_,?_⟩
 .rw[Int.natCast_mul,Rat.intCast_mul,Rat.intCast_sub,Rat.intCast_mul,Rat.intCast_mul,←h1,←h2,←k1,←k2,qmr];grind
 .rw[Int.natCast_mul,Rat.intCast_mul,Rat.intCast_add,Rat.intCast_mul,Rat.intCast_mul,←h1,←h2,←k1,←k2,qmi];grind
 .have e1:=Nat.mul_le_mul h3 k3;have e2:=Nat.mul_le_mul h4 k4;rw[<-Int.natAbs_mul] at e1 e2;have:=Int.natAbs_sub_le (x*u) (y*v);omega
 .have e1:=Nat.mul_le_mul h3 k4;have e2:=Nat.mul_le_mul h4 k3;rw[<-Int.natAbs_mul] at e1 e2;have:=Int.natAbs_add_le (x*v) (y*u);omega
def IsW.add{L W W':Nat}{z w:QC}(h:IsW L W z)(k:IsW L W' w):IsW L (W+W') (z+w):=by
 obtain⟨x,y,h1,h2,h3,h4⟩:=h;obtain⟨u,v,k1,k2,k3,k4⟩:=k;refine⟨x+u,y+v,?_,?_,?_,?_⟩
 .rw[Rat.intCast_add,←h1,←k1,qar];grind
 .rw[Rat.intCast_add,←h2,←k2,qai];grind
 .have:=Int.natAbs_add_le x u;omega
 .have:=Int.natAbs_add_le y v;omega
def IsW.cj{L W:Nat}{z:QC}(h:IsW L W z):IsW L W (cj z):=by
 obtain⟨x,y,h1,h2,h3,h4⟩:=h;refine⟨x,-y,h1,?_,h3,by omega⟩;rw[Rat.intCast_neg,←h2];show -z.im*_=_;grind
def W4(L W:Nat)(p:QC×QC×QC×QC):Prop:=IsW L W p.1/\IsW L W p.2.1/\IsW L W p.2.2.1/\IsW L W p.2.2.2
def Kib{z:QC}{L B D:Nat}(hr:z.re.den ∣ L)(hi:z.im.den ∣ L)(hL:L<=D)(h1:z.re.num.natAbs<=B)(h2:z.im.num.natAbs<=B):IsW L (B*D) z:=by
 obtain⟨u,hu⟩:=hr;obtain⟨v,hv⟩:=hi;refine⟨z.re.num*u,z.im.num*v,?_,?_,?_,?_⟩
 .rw[hu,Int.natCast_mul,Rat.intCast_mul,Rat.intCast_mul,←Kta z.re];grind
 .rw[hv,Int.natCast_mul,Rat.intCast_mul,Rat.intCast_mul,←Kta z.im];grind
 .rw[Int.natAbs_mul];refine Nat.mul_le_mul h1 ?_;have:=z.re.den_nz;rw[Int.natAbs_natCast];exact Nat.le_trans (Nat.le_mul_of_pos_left u (Nat.pos_of_ne_zero z.re.den_nz)) (by rw[<-hu];exact hL)
 .rw[Int.natAbs_mul];refine Nat.mul_le_mul h2 ?_;have:=z.im.den_nz;rw[Int.natAbs_natCast];exact Nat.le_trans (Nat.le_mul_of_pos_left v (Nat.pos_of_ne_zero z.im.den_nz)) (by rw[<-hv];exact hL)
def Udv{m n j k:Nat}(h:(Qad m).length<=j)(g:(Qad n).length<=k):(Qad (m*n)).length<=j+k:=Qgt h g
def Uxa(a b c d e f g h:Nat):a ∣ a*(b*(c*(d*(e*(f*(g*h))))))/\b ∣ a*(b*(c*(d*(e*(f*(g*h))))))/\c ∣ a*(b*(c*(d*(e*(f*(g*h))))))/\d ∣ a*(b*(c*(d*(e*(f*(g*h))))))/\e ∣ a*(b*(c*(d*(e*(f*(g*h))))))/\f ∣ a*(b*(c*(d*(e*(f*(g*h))))))/\g ∣ a*(b*(c*(d*(e*(f*(g*h))))))/\h ∣ a*(b*(c*(d*(e*(f*(g*h)))))):=by
 have l:∀{x y z:Nat},x ∣ y->x ∣ z*y:=fun h=>Nat.dvd_trans h (Nat.dvd_mul_left _ _)
 have o:∀ x y:Nat,x ∣ x*y:=fun x y=>Nat.dvd_mul_right x y
 exact⟨o _ _,l (o _ _),l (l (o _ _)),l (l (l (o _ _))),l (l (l (l (o _ _)))),l (l (l (l (l (o _ _))))),l (l (l (l (l (l (o _ _)))))),l (l (l (l (l (l (l (Nat.dvd_refl _)))))))⟩
def Ukn(k:Nat):∃ B,(Qad B).length<=k+1/\∀ n,(Qad n).length<=k->n<=B :=
 ⟨4294967296^k,Qak (Nat.pow_lt_pow_right (by decide) (by omega)),fun n h=>Nat.le_of_lt (Nat.lt_of_lt_of_le (Qcc n) (Nat.pow_le_pow_right (by decide) h))⟩
def q1:Q4:=(⟨1,0⟩,⟨0,0⟩,⟨0,0⟩,⟨1,0⟩)
def Uwj(x y:Q4):Q4:=stp false x.1 x.2.1 x.2.2.1 x.2.2.2 y
def Uwv(b:Q4):Q4:=(b.2.2.2,⟨0,0⟩-b.2.1,⟨0,0⟩-b.2.2.1,b.1)
def W1(b m:Q4):Q4:=Uwj m (Uwv b)
def W2(b m:Q4):Q4:=Uwj b (W1 b m)
section
variable{b m:Q4}(hb:dq b≠⟨0,0⟩)(hm:dq m≠⟨0,0⟩)
end
def Ukf{a b c d:QC}{k:Nat}(ha:ZL a k)(hb:ZL b k)(hc:ZL c k)(hd:ZL d k):∃ L W,L≠0/\(Qad L).length<=8*k/\(Qad W).length<=9*k+1/\W4 L W (a,b,c,d):=by
 obtain⟨L,hL⟩:∃ L,L=a.re.den*(a.im.den*(b.re.den*(b.im.den*(c.re.den*(c.im.den*(d.re.den*d.im.den)))))):=⟨_,rfl⟩
 obtain⟨d1,d2,d3,d4,d5,d6,d7,d8⟩:=Uxa a.re.den a.im.den b.re.den b.im.den c.re.den c.im.den d.re.den d.im.den;rw[<-hL] at d1 d2 d3 d4 d5 d6 d7 d8;have hl:(Qad L).length<=8*k:=by
  rw[hL];exact Nat.le_trans (Udv ha.1.2 (Udv ha.2.2 (Udv hb.1.2 (Udv hb.2.2 (Udv hc.1.2 (Udv hc.2.2 (Udv hd.1.2 hd.2.2))))))) (by omega)
 have h0:L≠0:=by
  have:=a.re.den_nz;have:=a.im.den_nz;have:=b.re.den_nz;have:=b.im.den_nz;have:=c.re.den_nz;have:=c.im.den_nz;have:=d.re.den_nz;have:=d.im.den_nz;rw[hL];simp only[Nat.mul_ne_zero_iff];exact⟨by assumption,by assumption,by assumption,by assumption,by assumption,by assumption,by assumption,by assumption⟩
 obtain⟨B,hB1,hB2⟩:=Ukn k;have hB:∀{q:Rat},RL q k->q.num.natAbs<=B:=fun h=>hB2 _ h.1
 refine⟨L,B*L,h0,hl,Nat.le_trans (Udv hB1 hl) (by omega),?_⟩;exact⟨Kib d1 d2 lr (hB ha.1) (hB ha.2),Kib d3 d4 lr (hB hb.1) (hB hb.2),Kib d5 d6 lr (hB hc.1) (hB hc.2),Kib d7 d8 lr (hB hd.1) (hB hd.2)⟩
def IsW.sub{L W W':Nat}{z w:QC}(h:IsW L W z)(k:IsW L W' w):IsW L (W+W') (z-w):=by
 obtain⟨x,y,h1,h2,h3,h4⟩:=h;obtain⟨u,v,k1,k2,k3,k4⟩:=k;refine⟨x-u,y-v,?_,?_,?_,?_⟩
 .rw[Rat.intCast_sub,←h1,←k1,qsr];grind
 .rw[Rat.intCast_sub,←h2,←k2,qsi];grind
 .have:=Int.natAbs_sub_le x u;omega
 .have:=Int.natAbs_sub_le y v;omega
def IsW.mono{L W W':Nat}{z:QC}(h:IsW L W z)(k:W<=W'):IsW L W' z:=by
 obtain⟨x,y,h1,h2,h3,h4⟩:=h;exact⟨x,y,h1,h2,by omega,by omega⟩
end Go.Proofs.YtcjjdooeogmdbaaGreat
namespace Go.Proofs.YtcjjdooeogmdbaaGreat
open Go.RowKit Tr
def ZL4.w{p:Q4}{k:Nat}(h:ZL4 p k):∃ L W,L≠0/\(Qad L).length<=8*k/\(Qad W).length<=9*k+1/\W4 L W p:=by
 obtain⟨a,b,c,d⟩:=p;exact Ukf h.1 h.2.1 h.2.2.1 h.2.2.2
open Classical
def hm4(z:QC):Q4:=((⟨1,0⟩:QC),(⟨0,0⟩:QC)-z,(⟨0,0⟩:QC)-cj z,(⟨1,0⟩:QC))
def hmn(z:QC):hm4 z=((⟨1,0⟩:QC),ng z,ng (cj z),(⟨1,0⟩:QC)):=by unfold hm4;rw[<-Kzl,<-Kzl]
end Go.Proofs.YtcjjdooeogmdbaaGreat
namespace Go.Proofs.YtcjjdooeogmdbaaGreat
open Go.RowKit Tr
def Kjk(x y:QC):nm (x*y)=nm x*nm y:=by unfold nm;simp only[qmr,qmi];grind
def Kcl{x:QC}(h:x≠⟨0,0⟩):nm x≠0:=Koa h
def Ugl(x:QC):0<=nm x:=by
 have a1:=rsq x.re;have a2:=rsq x.im;unfold nm;grind
def Uni(x:QC):nm (cj x)=nm x:=by unfold nm cj;grind
def Uda{x y:QC}(h:y≠⟨0,0⟩):nm (x/y)=nm x/nm y:=by
 have e:nm y*nm (x/y)=nm x:=by rw[<-Kjk,qdm h]
 have k:=Kcl h;grind
def Ufe{a b c d:QC}(hb:b≠⟨0,0⟩)(hd:d≠⟨0,0⟩):a/b-c/d=(a*d-c*b)/(b*d):=by
 have h1:b*(a/b)=a:=qdm hb;have h2:d*(c/d)=c:=qdm hd;have h3:(b*d)*((a*d-c*b)/(b*d))=a*d-c*b:=qdm (Ksu hb hd);generalize a/b=x at h1 ⊢;generalize c/d=y at h2 ⊢;have h4:(b*d)*(x-y)=a*d-c*b:=by
  rw[←h1,←h2];apply Qcs<;>simp only[qmr,qmi,qsr,qsi]<;>grind
 generalize (a*d-c*b)/(b*d)=u at h3 ⊢;have h5:(b*d)*((x-y)-u)=⟨0,0⟩:=by
  have:(b*d)*((x-y)-u)=(b*d)*(x-y)-(b*d)*u:=by apply Qcs<;>simp only[qmr,qmi,qsr,qsi]<;>grind
  rw[this,h4,h3];apply Qcs<;>simp only[qsr,qsi]<;>grind
 exact Qtl.1 ((Ugx.1 h5).elim (fun k=>absurd k (Ksu hb hd)) id)
def imq(x y:QC):Rat:=x.im*y.re-x.re*y.im
def Ksi{x y:QC}(h:y≠⟨0,0⟩):(x/y).im=imq x y/nm y:=by
 have e:(x/y).im=(x.re*(-y.im)+x.im*y.re)*(nm y)⁻¹:=rfl;rw[e,Rat.div_def];unfold imq;congr 1;grind
def Ksg{x y:QC}(h:y≠⟨0,0⟩):1-nm (x/y)=(nm y-nm x)/nm y:=by
 rw[Uda h];have k:=Kcl h;grind
def Qwq{N1 D1 N2 D2:QC}(h1:D1≠⟨0,0⟩)(h2:D2≠⟨0,0⟩):nm (N1/D1-N2/D2)=nm (N1*D2-N2*D1)/(nm D1*nm D2):=by
 rw[Ufe h1 h2,Uda (Ksu h1 h2),Kjk D1 D2]
def Ula{N1 D1 N2 D2:QC}(h1:D1≠⟨0,0⟩)(h2:D2≠⟨0,0⟩)(k1:nm D1-nm N1≠0)(k2:nm D2-nm N2≠0):Qdo (N1/D1) (N2/D2)=1+(nm (N1*D2-N2*D1)+nm (N1*D2-N2*D1))/((nm D1-nm N1)*(nm D2-nm N2)):=by
 unfold Qdo;rw[Qwq h1 h2,Ksg h1,Ksg h2];have a:=Kcl h1;have b:=Kcl h2;generalize nm (N1*D2-N2*D1)=n;generalize nm D1-nm N1=x at *
 generalize nm D2-nm N2=y at *
 grind
def Ukz{N1 D1 N2 D2:QC}(h1:D1≠⟨0,0⟩)(h2:D2≠⟨0,0⟩)(k1:imq N1 D1≠0)(k2:imq N2 D2≠0):Qdy (N1/D1) (N2/D2)=1+nm (N1*D2-N2*D1)/(imq N1 D1*imq N2 D2+imq N1 D1*imq N2 D2):=by
 unfold Qdy;rw[Qwq h1 h2,Ksi h1,Ksi h2];have a:=Kcl h1;have b:=Kcl h2;generalize nm (N1*D2-N2*D1)=n;generalize imq N1 D1=x at *
 generalize imq N2 D2=y at *
 grind
section
variable(a b z w:QC)
end
def Qrr{x y:QC}(h:0<nm y-nm x):y≠⟨0,0⟩:=fun e=>by
 rw[e] at h;have e0:nm (⟨0,0⟩:QC)=0:=by unfold nm;grind
 rw[e0] at h;have:=Ugl x;grind
def Ukx{x y:QC}(h:0<nm y-nm x):0<1-nm (x/y):=by
 have k:=Qrr h;rw[Ksg k,Rat.div_def];have k2:0<nm y:=by have:=Ugl y;have:=Kcl k;grind
 exact Qdv h (Rat.inv_pos.2 k2)
section
variable{z w:QC}
end
def rfN(a b e d:Rat)(z:QC):QC:=((⟨0,0⟩:QC)-cj ⟨b,e⟩)*cj z-⟨d,0⟩
def rfD(a b e d:Rat)(z:QC):QC:=⟨a*z.re,-(a*z.im)⟩+⟨b,e⟩
def Kkp(a b e d:Rat)(z w:QC):rfN a b e d z*rfD a b e d w-rfN a b e d w*rfD a b e d z=(⟨a*d-(b*b+e*e),0⟩:QC)*cj (z-w):=by
 unfold rfN rfD cj;apply Qcs<;>simp only[qmr,qmi,qar,qai,qsr,qsi]<;>grind
def Qwu(a b d:Rat)(z:QC):imq (rfN a b 0 d z) (rfD a b 0 d z)=(b*b-a*d)*z.im:=by
 unfold imq rfN rfD cj;simp only[qmr,qmi,qar,qai,qsr,qsi];grind
def Kkq(a b e:Rat)(z:QC):nm (rfD a b e a z)-nm (rfN a b e a z)=(b*b+e*e-a*a)*(1-nm z):=by
 unfold rfN rfD nm cj;simp only[qmr,qmi,qar,qai,qsr,qsi];grind
def Kfz{a b d:Rat}{z w:QC}(hp:0<b*b-a*d)(hz:0<z.im)(hw:0<w.im):Qdy (rfN a b 0 d z/rfD a b 0 d z) (rfN a b 0 d w/rfD a b 0 d w)=Qdy z w/\rfD a b 0 d z≠⟨0,0⟩/\0<(rfN a b 0 d z/rfD a b 0 d z).im:=by
 have dn:∀ z:QC,0<z.im->rfD a b 0 d z≠⟨0,0⟩:=fun z hz h=>by
  have k:imq (rfN a b 0 d z) (rfD a b 0 d z)=0:=by rw[h];unfold imq;grind
  rw[Qwu] at k;exact pne (Qdv hp hz) k
 refine⟨?_,dn z hz,?_⟩
 .rw[Ukz (dn z hz) (dn w hw) (by rw[Qwu];exact pne (Qdv hp hz)) (by rw[Qwu];exact pne (Qdv hp hw)),Kkp,Kjk,Uni,Qwu,Qwu];have e:nm (⟨a*d-(b*b+0*0),0⟩:QC)=(b*b-a*d)*(b*b-a*d):=by simp only[nm];grind
  rw[e];unfold Qdy;have n1:=pne hp;have n2:=pne hz;have n3:=pne hw;generalize b*b-a*d=k at *
  generalize nm (z-w)=n;grind
 .rw[Ksi (dn z hz),Qwu,Rat.div_def];have k2:0<nm (rfD a b 0 d z):=by have:=Ugl (rfD a b 0 d z);have:=Kcl (dn z hz);grind
  exact Qdv (Qdv hp hz) (Rat.inv_pos.2 k2)
def Kga{a b e:Rat}{z w:QC}(hp:0<b*b+e*e-a*a)(hz:0<1-nm z)(hw:0<1-nm w):Qdo (rfN a b e a z/rfD a b e a z) (rfN a b e a w/rfD a b e a w)=Qdo z w/\rfD a b e a z≠⟨0,0⟩/\0<1-nm (rfN a b e a z/rfD a b e a z):=by
 have k1:0<nm (rfD a b e a z)-nm (rfN a b e a z):=by rw[Kkq];exact Qdv hp hz
 have k2:0<nm (rfD a b e a w)-nm (rfN a b e a w):=by rw[Kkq];exact Qdv hp hw
 refine⟨?_,Qrr k1,Ukx k1⟩;rw[Ula (Qrr k1) (Qrr k2) (pne k1) (pne k2),Kkp,Kjk,Uni,Kkq,Kkq];have e2:nm (⟨a*a-(b*b+e*e),0⟩:QC)=(b*b+e*e-a*a)*(b*b+e*e-a*a):=by simp only[nm];grind
 rw[e2];unfold Qdo;have n1:=pne hp;have n2:=pne hz;have n3:=pne hw;generalize b*b+e*e-a*a=k at *
 generalize 1-nm z=x at *
 generalize 1-nm w=y at *
 generalize nm (z-w)=n;grind
