/- Laws. -/
import Derived.Test.YtmimficdpfmfgaaGreatWaz
set_option linter.all false
set_option maxHeartbeats 4000000
set_option maxRecDepth 100000
namespace Go.Proofs.YtmimficdpfmfgaaGreat
open Go.RowKit Tr
open Classical
def vl(a b e d:Rat)(z:QC):Rat:=a*nm z+2*(b*z.re-e*z.im)+d
def ctX(l1 l2 r s v N t:Rat):QC:=⟨r-l1*(v/(N*2))+l2*t,s+l2*(v/(N*2))+l1*t⟩
def Kpe{l1 l2 l3 r s v N t:Rat}(hN:N≠0)(eN:N=l1*l1+l2*l2)(ev:v=(r*l1-s*l2)*2+l3):vl 0 l1 l2 l3 (ctX l1 l2 r s v N t)=0:=by
 have h:v/(N*2)*(l1*l1+l2*l2)*2=v:=by rw[←eN];grind
 simp only[vl,ctX];generalize v/(N*2)=k at *
 grind
def Kpb{l1 l2 l3 r s v N t R:Rat}(hN:N≠0)(eN:N=l1*l1+l2*l2)(ht:t*t=(R-v*v/(N*4))/N):nm (ctX l1 l2 r s v N t-⟨r,s⟩)=R:=by
 have h1:v/(N*2)*N*2=v:=by grind
 have h2:v*v/(N*4)=v/(N*2)*(v/(N*2))*N:=by grind
 have h3:t*t*N=R-v/(N*2)*(v/(N*2))*N:=by rw[ht,h2];grind
 simp only[nm,ctX,qsr,qsi];generalize v/(N*2)=k at *
 subst eN;grind
def Umw{g0 g1 g2 g3 R:Rat}{X:QC}(hg:g0≠0)(hR:R=Qam g0 g1 g2 g3 g0 g1 g2 g3/(g0*g0))(h:nm (X-⟨-g1/g0,g2/g0⟩)=R):vl g0 g1 g2 g3 X=0:=by
 have k1:-g1/g0*g0=-g1:=by grind
 have k2:g2/g0*g0=g2:=by grind
 have k3:R*(g0*g0)=g1*g1+g2*g2-g0*g3:=by rw[hR];simp only[Qam];grind
 simp only[nm,qsr,qsi] at h;have k4:vl g0 g1 g2 g3 X*g0=0:=by
  simp only[vl,nm];generalize -g1/g0=r at *
  generalize g2/g0=s at *
  grind
 rcases axt.1 k4 with k|k
 .exact k
 .exact absurd k hg
def Kpc{l1 r v N t:Rat}(hN:N≠0)(eN:N=l1*l1+0*0)(ht:t≠0)(h:¬0<(ctX l1 0 r 0 v N t).im):0<(ctX l1 0 r 0 v N (-t)).im:=by
 simp only[ctX] at *
 have h1:l1*t≠0:=by
  intro k;rcases axt.1 k with k|k
  .subst k;exact hN (by rw[eN];grind)
  .exact ht k
 grind
def Uyn{v N:Rat}(n0:N≠0):v/(N*2)*N*2=v∧v*v/(N*4)=v/(N*2)*(v/(N*2))*N:=⟨by grind,by grind⟩
def Uto{x y N:Rat}(n0:N≠0)(h:y=x/N):y*N=x:=by rw[h];grind
def le1{P:Rat}(h:¬0<1-P):0≤P-1:=by grind
def Kpd{l1 l2 r s v N t R:Rat}(hN:0<N)(eN:N=l1*l1+l2*l2)(ev:v=(r*l1-s*l2)*2+0)(eR:r*r+s*s=R+1)(ht:t*t=(R-v*v/(N*4))/N)(h0:t≠0)
  (h:¬0<1-nm (ctX l1 l2 r s v N t)):0<1-nm (ctX l1 l2 r s v N (-t)):=by
 have n0:N≠0:=fun k=>by rw[k] at hN;exact Rat.lt_irrefl hN
 obtain⟨k,hk⟩:∃ k,k=v/(N*2):=⟨_,rfl⟩
 have h1:k*N*2=v:=by rw[hk];exact(Uyn n0).1
 have h2:v*v/(N*4)=k*k*N:=by rw[hk];exact(Uyn n0).2
 have h3:t*t*N=R-k*k*N:=by rw[h2] at ht;exact Uto n0 ht
 simp only[nm,ctX,<-hk] at *
 clear ht h2 hk;have tt:0<t*t:=by
  have:=rsq t;have k2:t*t≠0:=fun k=>by rcases axt.1 k with k|k<;>exact h0 k
  grind
 have w0:0<t*t*N:=Qqy tt hN;obtain⟨P,hP⟩:∃ P,P=(r-l1*k+l2*t)*(r-l1*k+l2*t)+(s+l2*k+l1*t)*(s+l2*k+l1*t):=⟨_,rfl⟩
 obtain⟨Q,hQ⟩:∃ Q,Q=(r-l1*k+l2*-t)*(r-l1*k+l2*-t)+(s+l2*k+l1*-t)*(s+l2*k+l1*-t):=⟨_,rfl⟩
 rw[←hP] at h;rw[←hQ];have a2:(r-l1*k)*(r-l1*k)+(s+l2*k)*(s+l2*k)=t*t*N+1:=by grind
 have w2:(l2*t)*(l2*t)+(l1*t)*(l1*t)=t*t*N:=by rw[eN];grind
 have cr:(r-l1*k)*(l1*t)-(s+l2*k)*(l2*t)=0:=by
  have:(r-l1*k)*(l1*t)-(s+l2*k)*(l2*t)=t*(r*l1-s*l2-k*(l1*l1+l2*l2)):=by grind
  rw[this,←eN];grind
 have sm:P+Q=4*(t*t*N)+2:=by rw[hP,hQ];grind
 rw[show l2*-t=-(l2*t) from Rat.mul_neg l2 t,show l1*-t=-(l1*t) from Rat.mul_neg l1 t] at hQ;have pr:P*Q=1:=by
  generalize r-l1*k=x at *
  generalize s+l2*k=y at *
  generalize l2*t=e at *
  generalize l1*t=f at *
  generalize t*t*N=W at *
  have d:P*Q=(x*x+y*y+(e*e+f*f))*(x*x+y*y+(e*e+f*f))-4*((x*x+y*y)*(e*e+f*f))+4*((x*f-y*e)*(x*f-y*e)):=by
   rw[hP,hQ];grind
  rw[d,a2,w2,cr];grind
 by_cases c:0<1-Q
 .exact c
 .have m:=Rat.mul_nonneg (le1 h) (le1 c);have:(P-1)*(Q-1)=P*Q-(P+Q)+1:=by grind
  rw[this,pr,sm] at m;grind
def upr(p:Nat)(a b e d:Rat)(z:QC):Rat×Rat×Rat×Rat :=
 if p=1 then(up0 0 0 1 a b e 1 (-z.re) z.im,up1 0 1 0 a e d 1 z.im (nm z),up2 0 0 0 a b d 1 (-z.re) (nm z),up3 0 1 0 b e d (-z.re) z.im (nm z))
 else(up0 1 0 0 a b e 1 (-z.re) z.im,up1 1 0 (-1) a e d 1 z.im (nm z),up2 1 0 (-1) a b d 1 (-z.re) (nm z),up3 0 0 (-1) b e d (-z.re) z.im (nm z))
def Ubo(a b d:Rat)(z:QC):Qam (upr 1 a b 0 d z).1 (upr 1 a b 0 d z).2.1 (upr 1 a b 0 d z).2.2.1 (upr 1 a b 0 d z).2.2.2 (upr 1 a b 0 d z).1 (upr 1 a b 0 d z).2.1 (upr 1 a b 0 d z).2.2.1 (upr 1 a b 0 d z).2.2.2*16=vl a b 0 d z*vl a b 0 d z+4*(z.im*z.im)*Qam a b 0 d a b 0 d:=by
 simp only[upr,if_pos,Qam,vl,up0,up1,up2,up3,det3,nm];grind
def Ubp(a b e:Rat)(z:QC):Qam (upr 2 a b e a z).1 (upr 2 a b e a z).2.1 (upr 2 a b e a z).2.2.1 (upr 2 a b e a z).2.2.2 (upr 2 a b e a z).1 (upr 2 a b e a z).2.1 (upr 2 a b e a z).2.2.1 (upr 2 a b e a z).2.2.2*16=vl a b e a z*vl a b e a z+(1-nm z)*(1-nm z)*Qam a b e a a b e a:=by
 simp only[upr,show ¬(2:Nat)=1 from by decide,if_false,Qam,vl,up0,up1,up2,up3,det3,nm];grind
def Qid(p:Nat)(a b e d:Rat)(z:QC)(h:if p=1 then e=0 else a=d):Qam (upr p a b e d z).1 (upr p a b e d z).2.1 (upr p a b e d z).2.2.1 (upr p a b e d z).2.2.2 a b e d=0:=by
 unfold upr
 split at h<;>rename_i k<;>simp only[k,if_true,if_false,Qam,up0,up1,up2,up3,det3,nm]<;>grind
def Krb{g:Rat}(h:g≠0):g*g≠0:=fun k=>by rcases axt.1 k with k|k<;>exact h k
def Utn{x y:Rat}(h:y≠0):x/y*y=x:=by grind
def Kxy{l1 l2 l3 g0 g1 g2 g3 r s v N t R:Rat}(hg:g0≠0)(hN:0<N)(hP:0<Qam g0 g1 g2 g3 g0 g1 g2 g3)(er:r=-g1/g0)(es:s=g2/g0)(ev:v=(r*l1-s*l2)*2+l3)
  (hu:Qam 0 l1 l2 l3 g0 g1 g2 g3=0) (hR:R=Qam g0 g1 g2 g3 g0 g1 g2 g3/(g0*g0)) (ht:t*t=(R-v*v/(N*4))/N):t≠0:=by
 have n0:N≠0:=fun k=>by rw[k] at hN;exact Rat.lt_irrefl hN
 have v0:v*g0=0:=by
  have k1:r*g0=-g1:=by rw[er];grind
  have k2:s*g0=g2:=by rw[es];grind
  have:v*g0=-2*Qam 0 l1 l2 l3 g0 g1 g2 g3:=by
   rw[ev];simp only[Qam];have:((r*l1-s*l2)*2+l3)*g0=(r*g0*l1-s*g0*l2)*2+l3*g0:=by grind
   rw[this,k1,k2];grind
  rw[this,hu];grind
 have v1:v=0:=by
  rcases axt.1 v0 with k|k
  .exact k
  .exact absurd k hg
 intro k;rw[k,v1] at ht;have e:=Uto n0 ht;have e2:R=0:=by
  have:(0:Rat)*0/(N*4)=0:=by grind
  rw[this] at e;grind
 rw[e2] at hR;have:=Uto (Krb hg) hR;grind
def Umx{u0 u1 u2 u3 g1 g2 g3 r s v N t R:Rat}(hN:0<N)(hP:0<Qam 1 g1 g2 g3 1 g1 g2 g3)(hQ:0<Qam u0 u1 u2 u3 u0 u1 u2 u3)(hu:Qam u0 u1 u2 u3 1 g1 g2 g3=0)(er:r=-g1)(es:s=g2)
  (eN:N=(u1-g1*u0)*(u1-g1*u0)+(u2-g2*u0)*(u2-g2*u0)) (ev:v=(r*(u1-g1*u0)-s*(u2-g2*u0))*2+(u3-g3*u0)) (hR:R=Qam 1 g1 g2 g3 1 g1 g2 g3)
  (ht:t*t=(R-v*v/(N*4))/N):t≠0:=by
 have n0:N≠0:=fun k=>by rw[k] at hN;exact Rat.lt_irrefl hN
 have e1:v=2*(u0*R)-2*Qam u0 u1 u2 u3 1 g1 g2 g3:=by rw[ev,hR,er,es];simp only[Qam];grind
 have e2:N=Qam u0 u1 u2 u3 u0 u1 u2 u3-2*(u0*Qam u0 u1 u2 u3 1 g1 g2 g3)+u0*u0*R:=by rw[eN,hR];simp only[Qam];grind
 rw[hu] at e1 e2;rw[←hR] at hP;intro k;rw[k] at ht;have e:=Uto n0 ht;have e3:v*v/(N*4)*(N*4)=v*v:=Utn (by grind);have e4:R=v*v/(N*4):=by grind
 rw[←e4,e1] at e3;have e5:R*(N-u0*u0*R)=0:=by grind
 have e6:=Qqy hP hQ;rw[show N-u0*u0*R=Qam u0 u1 u2 u3 u0 u1 u2 u3 from by grind] at e5;grind
def Qws{a b d:Rat}{z:QC}(hz:0<z.im)(hp:0<Qam a b 0 d a b 0 d):0<Qam (upr 1 a b 0 d z).1 (upr 1 a b 0 d z).2.1 (upr 1 a b 0 d z).2.2.1 (upr 1 a b 0 d z).2.2.2 (upr 1 a b 0 d z).1 (upr 1 a b 0 d z).2.1 (upr 1 a b 0 d z).2.2.1 (upr 1 a b 0 d z).2.2.2:=by
 have e:=Ubo a b d z;have h1:=rsq (vl a b 0 d z);have h2:=Qqy (Qqy hz hz) hp;generalize Qam (upr 1 a b 0 d z).1 (upr 1 a b 0 d z).2.1 (upr 1 a b 0 d z).2.2.1 (upr 1 a b 0 d z).2.2.2 (upr 1 a b 0 d z).1 (upr 1 a b 0 d z).2.1 (upr 1 a b 0 d z).2.2.1 (upr 1 a b 0 d z).2.2.2=x at *
 grind
def Kjk{a b e:Rat}{z:QC}(hz:0<1-nm z)(hp:0<Qam a b e a a b e a):0<Qam (upr 2 a b e a z).1 (upr 2 a b e a z).2.1 (upr 2 a b e a z).2.2.1 (upr 2 a b e a z).2.2.2 (upr 2 a b e a z).1 (upr 2 a b e a z).2.1 (upr 2 a b e a z).2.2.1 (upr 2 a b e a z).2.2.2:=by
 have e':=Ubp a b e z;have h1:=rsq (vl a b e a z);have h2:=Qqy (Qqy hz hz) hp;generalize Qam (upr 2 a b e a z).1 (upr 2 a b e a z).2.1 (upr 2 a b e a z).2.2.1 (upr 2 a b e a z).2.2.2 (upr 2 a b e a z).1 (upr 2 a b e a z).2.1 (upr 2 a b e a z).2.2.1 (upr 2 a b e a z).2.2.2=x at *
 grind
def Krd(x y:Rat):0<=x*x+y*y:=by
 have:=rsq x;have:=rsq y;grind
def Qys{u0 u1 u2 u3 g1 g2 g3:Rat}{X:QC}(h1:vl 0 (u1-g1*u0) (u2-g2*u0) (u3-g3*u0) X=0)(h2:vl 1 g1 g2 g3 X=0):vl u0 u1 u2 u3 X=0:=by
 have:vl u0 u1 u2 u3 X=vl 0 (u1-g1*u0) (u2-g2*u0) (u3-g3*u0) X+u0*vl 1 g1 g2 g3 X:=by simp only[vl];grind
 rw[this,h1,h2];grind
def Qli{l1 l2 l3 g0 g1 g2 g3 r s v N t R:Rat}(hg:g0≠0)(hN:N≠0)(eN:N=l1*l1+l2*l2)(er:r=-g1/g0)(es:s=g2/g0)(ev:v=(r*l1-s*l2)*2+l3)
  (hR:R=Qam g0 g1 g2 g3 g0 g1 g2 g3/(g0*g0)) (ht:t*t=(R-v*v/(N*4))/N) :
  (vl 0 l1 l2 l3 (ctX l1 l2 r s v N t)=0/\vl g0 g1 g2 g3 (ctX l1 l2 r s v N t)=0)/\vl 0 l1 l2 l3 (ctX l1 l2 r s v N (-t))=0/\vl g0 g1 g2 g3 (ctX l1 l2 r s v N (-t))=0:=by
 have ht':-t*-t=(R-v*v/(N*4))/N:=by rw[←ht];grind
 refine⟨⟨Kpe hN eN ev,Umw hg hR ?_⟩,Kpe hN eN ev,Umw hg hR ?_⟩
 .rw[<-er,<-es];exact Kpb (l3:=l3) hN eN ht
 .rw[<-er,<-es];exact Kpb (l3:=l3) hN eN ht'
def Qwq(a b d:Rat)(z:QC):(upr 1 a b 0 d z).2.2.1=0:=by
 simp only[upr,if_pos,up2,det3];grind
def Qwr(a b e:Rat)(z:QC):(upr 2 a b e a z).2.2.2=(upr 2 a b e a z).1:=by
 simp only[upr,show ¬(2:Nat)=1 from by decide,if_false,up0,up3,det3];grind
def Qld(p:Nat)(a b e d:Rat)(z v:QC):Prop :=
 (if p=1 then 0<v.im else 0<1-nm v)/\vl a b e d v=0/\vl (upr p a b e d z).1 (upr p a b e d z).2.1 (upr p a b e d z).2.2.1 (upr p a b e d z).2.2.2 v=0
def Uwq{d:Rat}{z:QC}(hz:0<z.im){u0 u1 u2 u3 r s v N t R:Rat}(eU:upr 1 0 1 0 d z=(u0,u1,u2,u3))(hu:u0≠0)(eN:N=1*1+0*0)(er:r=-u1/u0)(es:s=u2/u0)(ev:v=(r*1-s*0)*2+d)
  (hR:R=Qam u0 u1 u2 u3 u0 u1 u2 u3/(u0*u0)) (ht:t*t=(R-v*v/(N*4))/N) :
  (0<(ctX 1 0 r s v N t).im->Qld 1 0 1 0 d z (ctX 1 0 r s v N t))/\(¬0<(ctX 1 0 r s v N t).im->Qld 1 0 1 0 d z (ctX 1 0 r s v N (-t))):=by
 have n1:N=1:=by rw[eN];grind
 have hN:0<N:=by rw[n1];decide
 have n0:N≠0:=by rw[n1];decide
 have hP:=Qws (a:=0) (b:=1) (d:=d) hz (by simp only[Qam];grind);have hO:=Qid 1 0 1 0 d z (by simp);have h2:=Qwq 0 1 d z;have k:=Qli hu n0 eN er es ev hR ht;simp only[Qld,eU,if_pos] at *
 have s0:s=0:=by rw[es,h2];grind
 have t0:=Kxy hu hN hP er es ev (by have c:=hO;simp only[Qam] at c ⊢;clear hO k ht ev eN hR er es eU;grind) hR ht;subst s0;exact⟨fun h=>⟨h,k.1⟩,fun h=>⟨Kpc n0 eN t0 h,k.2⟩⟩
def Uwo{b d:Rat}{z:QC}(hz:0<z.im)(hp:0<Qam 1 b 0 d 1 b 0 d){u1 u2 u3 r s v N t R:Rat}(eU:upr 1 1 b 0 d z=(0,u1,u2,u3))(eN:N=u1*u1+u2*u2)(er:r=-b)(es:s=0)(ev:v=(r*u1-s*u2)*2+u3)
  (hR:R=Qam 1 b 0 d 1 b 0 d) (ht:t*t=(R-v*v/(N*4))/N) :
  (0<(ctX u1 u2 r s v N t).im->Qld 1 1 b 0 d z (ctX u1 u2 r s v N t))/\(¬0<(ctX u1 u2 r s v N t).im->Qld 1 1 b 0 d z (ctX u1 u2 r s v N (-t))):=by
 have hP:=Qws (a:=1) (b:=b) (d:=d) hz hp;have hO:=Qid 1 1 b 0 d z (by simp);have h2:=Qwq 1 b d z;simp only[Qld,eU,if_pos] at *
 have hN:0<N:=by
  have c:Qam 0 u1 u2 u3 0 u1 u2 u3=N:=by rw[eN];simp only[Qam];clear hP hO;grind
  rw[<-c];exact hP
 have n0:N≠0:=fun k=>by rw[k] at hN;exact Rat.lt_irrefl hN
 have er':r=-b/1:=by rw[er];grind
 have es':s=0/1:=by rw[es];grind
 have hR':R=Qam 1 b 0 d 1 b 0 d/(1*1):=by rw[hR];grind
 have k:=Qli (by decide) n0 eN er' es' ev hR' ht;have t0:=Kxy (by decide) hN hp er' es' ev hO hR' ht;subst h2;subst es;exact⟨fun h=>⟨h,k.1.2,k.1.1⟩,fun h=>⟨Kpc n0 eN t0 h,k.2.2,k.2.1⟩⟩
def Uwp{b d:Rat}{z:QC}(hz:0<z.im)(hp:0<Qam 1 b 0 d 1 b 0 d){u0 u1 u2 u3 r s v N t R:Rat}(eU:upr 1 1 b 0 d z=(u0,u1,u2,u3))(eN:N=(u1-b*u0)*(u1-b*u0)+(u2-0*u0)*(u2-0*u0))(er:r=-b)(es:s=0)
  (ev:v=(r*(u1-b*u0)-s*(u2-0*u0))*2+(u3-d*u0)) (hR:R=Qam 1 b 0 d 1 b 0 d) (ht:t*t=(R-v*v/(N*4))/N) :
  (0<(ctX (u1-b*u0) (u2-0*u0) r s v N t).im->Qld 1 1 b 0 d z (ctX (u1-b*u0) (u2-0*u0) r s v N t))/\(¬0<(ctX (u1-b*u0) (u2-0*u0) r s v N t).im->Qld 1 1 b 0 d z (ctX (u1-b*u0) (u2-0*u0) r s v N (-t))):=by
 have hP:=Qws (a:=1) (b:=b) (d:=d) hz hp;have hO:=Qid 1 1 b 0 d z (by simp);have h2:=Qwq 1 b d z;simp only[Qld,eU,if_pos] at *
 have hN:0<N:=by
  have c:N=Qam u0 u1 u2 u3 u0 u1 u2 u3-2*(u0*Qam u0 u1 u2 u3 1 b 0 d)+u0*u0*Qam 1 b 0 d 1 b 0 d:=by rw[eN];simp only[Qam];clear hP hO hp;grind
  have c2:=Rat.mul_nonneg (rsq u0) (Rat.le_of_lt hp);rw[hO] at c;clear ev eN ht hR;generalize Qam u0 u1 u2 u3 u0 u1 u2 u3=A at *
  generalize u0*u0*Qam 1 b 0 d 1 b 0 d=B at *
  grind
 have n0:N≠0:=fun k=>by rw[k] at hN;exact Rat.lt_irrefl hN
 have er':r=-b/1:=by rw[er];grind
 have es':s=0/1:=by rw[es];grind
 have hR':R=Qam 1 b 0 d 1 b 0 d/(1*1):=by rw[hR];grind
 have k:=Qli (by decide) n0 eN er' es' ev hR' ht;have t0:=Umx hN hp hP hO er es eN ev hR ht;have l0:u2-0*u0=0:=by rw[h2];grind
 have k1:=Qys k.1.1 k.1.2;have k2:=Qys k.2.1 k.2.2;subst es;rw[l0] at eN k k1 k2 ⊢;exact⟨fun h=>⟨h,k.1.2,k1⟩,fun h=>⟨Kpc n0 eN t0 h,k.2.2,k2⟩⟩
def Uoe{b e:Rat}{z:QC}(hz:0<1-nm z)(hp:0<Qam 1 b e 1 1 b e 1){u1 u2 u3 r s v N t R:Rat}(eU:upr 2 1 b e 1 z=(0,u1,u2,u3))(eN:N=u1*u1+u2*u2)(er:r=-b)(es:s=e)(ev:v=(r*u1-s*u2)*2+u3)
  (hR:R=Qam 1 b e 1 1 b e 1) (ht:t*t=(R-v*v/(N*4))/N) :
  (0<1-nm (ctX u1 u2 r s v N t)->Qld 2 1 b e 1 z (ctX u1 u2 r s v N t))/\(¬0<1-nm (ctX u1 u2 r s v N t)->Qld 2 1 b e 1 z (ctX u1 u2 r s v N (-t))):=by
 have hP:=Kjk (a:=1) (b:=b) (e:=e) hz hp;have hO:=Qid 2 1 b e 1 z (by simp);have h2:=Qwr 1 b e z;simp only[Qld,eU,show ¬(2:Nat)=1 from by decide,if_false] at *
 have hN:0<N:=by
  have c:Qam 0 u1 u2 u3 0 u1 u2 u3=N:=by rw[eN];simp only[Qam];clear hP hO hp;grind
  rw[<-c];exact hP
 have n0:N≠0:=fun k=>by rw[k] at hN;exact Rat.lt_irrefl hN
 have er':r=-b/1:=by rw[er];grind
 have es':s=e/1:=by rw[es];grind
 have hR':R=Qam 1 b e 1 1 b e 1/(1*1):=by rw[hR];grind
 have k:=Qli (by decide) n0 eN er' es' ev hR' ht;have t0:=Kxy (by decide) hN hp er' es' ev hO hR' ht;have eR:r*r+s*s=R+1:=by rw[er,es,hR];simp only[Qam];clear hP hO hp;grind
 subst h2;exact⟨fun h=>⟨h,k.1.2,k.1.1⟩,fun h=>⟨Kpd hN eN ev eR ht t0 h,k.2.2,k.2.1⟩⟩
def Uwn{b e:Rat}{z:QC}(hz:0<1-nm z)(hp:0<Qam 0 b e 0 0 b e 0){u0 u1 u2 u3 r s v N t R:Rat}(eU:upr 2 0 b e 0 z=(u0,u1,u2,u3))(hu:u0≠0)(eN:N=b*b+e*e)(er:r=-u1/u0)(es:s=u2/u0)(ev:v=(r*b-s*e)*2+0)
  (hR:R=Qam u0 u1 u2 u3 u0 u1 u2 u3/(u0*u0)) (ht:t*t=(R-v*v/(N*4))/N) :
  (0<1-nm (ctX b e r s v N t)->Qld 2 0 b e 0 z (ctX b e r s v N t))/\(¬0<1-nm (ctX b e r s v N t)->Qld 2 0 b e 0 z (ctX b e r s v N (-t))):=by
 have hP:=Kjk (a:=0) (b:=b) (e:=e) hz hp;have hO:=Qid 2 0 b e 0 z (by simp);have h2:=Qwr 0 b e z;simp only[Qld,eU,show ¬(2:Nat)=1 from by decide,if_false] at *
 have hN:0<N:=by
  have c:Qam 0 b e 0 0 b e 0=N:=by rw[eN];simp only[Qam];clear hP hO hp;grind
  rw[<-c];exact hp
 have n0:N≠0:=fun k=>by rw[k] at hN;exact Rat.lt_irrefl hN
 have k:=Qli hu n0 eN er es ev hR ht;have t0:=Kxy hu hN hP er es ev (by have c:=hO;simp only[Qam] at c ⊢;clear hO hP hp k ht ev eN hR er es eU;grind) hR ht;have eR:r*r+s*s=R+1:=by
  have k1:r*u0=-u1:=by rw[er];exact Utn hu
  have k2:s*u0=u2:=by rw[es];exact Utn hu
  have k3:R*(u0*u0)=u1*u1+u2*u2-u0*u0:=by rw[hR,Utn (Krb hu),h2];simp only[Qam];clear hO hP hp k ht ev eN hR er es eU;grind
  have k4:(r*r+s*s-(R+1))*(u0*u0)=0:=by
   have:(r*r+s*s-(R+1))*(u0*u0)=(r*u0)*(r*u0)+(s*u0)*(s*u0)-R*(u0*u0)-u0*u0:=by clear hO hP hp k ht ev eN hR er es eU;grind
   rw[this,k1,k2,k3];clear hO hP hp k ht ev eN hR er es eU;grind
  rcases axt.1 k4 with c|c
  .clear hO hP hp k ht ev eN hR er es eU;grind
  .exact absurd c (Krb hu)
 exact⟨fun h=>⟨h,k.1⟩,fun h=>⟨Kpd hN eN ev eR ht t0 h,k.2⟩⟩
def Uof{b e:Rat}{z:QC}(hz:0<1-nm z)(hp:0<Qam 1 b e 1 1 b e 1){u0 u1 u2 u3 r s v N t R:Rat}(eU:upr 2 1 b e 1 z=(u0,u1,u2,u3))(eN:N=(u1-b*u0)*(u1-b*u0)+(u2-e*u0)*(u2-e*u0))(er:r=-b)(es:s=e)
  (ev:v=(r*(u1-b*u0)-s*(u2-e*u0))*2+(u3-1*u0)) (hR:R=Qam 1 b e 1 1 b e 1) (ht:t*t=(R-v*v/(N*4))/N) :
  (0<1-nm (ctX (u1-b*u0) (u2-e*u0) r s v N t)->Qld 2 1 b e 1 z (ctX (u1-b*u0) (u2-e*u0) r s v N t))/\(¬0<1-nm (ctX (u1-b*u0) (u2-e*u0) r s v N t)->Qld 2 1 b e 1 z (ctX (u1-b*u0) (u2-e*u0) r s v N (-t))):=by
 have hP:=Kjk (a:=1) (b:=b) (e:=e) hz hp;have hO:=Qid 2 1 b e 1 z (by simp);have h2:=Qwr 1 b e z;simp only[Qld,eU,show ¬(2:Nat)=1 from by decide,if_false] at *
 have hN:0<N:=by
  have c:N=Qam u0 u1 u2 u3 u0 u1 u2 u3-2*(u0*Qam u0 u1 u2 u3 1 b e 1)+u0*u0*Qam 1 b e 1 1 b e 1:=by rw[eN];simp only[Qam];clear hP hO hp;grind
  have c2:=Rat.mul_nonneg (rsq u0) (Rat.le_of_lt hp);rw[hO] at c;clear ev eN ht hR;generalize Qam u0 u1 u2 u3 u0 u1 u2 u3=A at *
  generalize u0*u0*Qam 1 b e 1 1 b e 1=B at *
  grind
 have n0:N≠0:=fun k=>by rw[k] at hN;exact Rat.lt_irrefl hN
 have er':r=-b/1:=by rw[er];grind
 have es':s=e/1:=by rw[es];grind
 have hR':R=Qam 1 b e 1 1 b e 1/(1*1):=by rw[hR];grind
 have k:=Qli (by decide) n0 eN er' es' ev hR' ht;have t0:=Umx hN hp hP hO er es eN ev hR ht;have k1:=Qys k.1.1 k.1.2;have k2:=Qys k.2.1 k.2.2;have eR:r*r+s*s=R+1:=by rw[er,es,hR];simp only[Qam];clear hP hO hp;grind
 have l3:u3-1*u0=0:=by rw[h2];grind
 rw[l3] at ev;exact⟨fun h=>⟨h,k.1.2,k1⟩,fun h=>⟨Kpd hN eN ev eR ht t0 h,k.2.2,k2⟩⟩
end Go.Proofs.YtmimficdpfmfgaaGreat
namespace Go.Proofs.YtmimficdpfmfgaaGreat
open Go.RowKit Tr
def Upy{x y:Rat}(hx:0<x)(hy:0<y)(h:x*x=y*y):x=y:=by
 have e:(x-y)*(x+y)=0:=by grind
 rcases axt.1 e with k|k<;>grind
def Uyc{a b d u0 u1 u3:Rat}{x y:QC}(hp:0<Qam a b 0 d a b 0 d)(hq:0<Qam u0 u1 0 u3 u0 u1 0 u3)(ho:Qam u0 u1 0 u3 a b 0 d=0)(hx:0<x.im)(hy:0<y.im)
  (h1:vl a b 0 d x=0) (h2:vl u0 u1 0 u3 x=0) (k1:vl a b 0 d y=0) (k2:vl u0 u1 0 u3 y=0):x=y:=by
 unfold Qam at hp hq ho;have hD:a*u1-b*u0≠0:=fun hD=>by
  have s1:0≤a*a:=rsq a;have s2:0≤b*b:=rsq b;have e1:(b*b-a*d)*(u0*u0)=-(a*a)*(u1*u1-u0*u3):=by grind
  have e2:(b*b-a*d)*(u1*u1)=-(b*b)*(u1*u1-u0*u3):=by grind
  have p1:0<b*b-a*d:=by grind
  have p2:0<u1*u1-u0*u3:=by grind
  have q1:0≤a*a*(u1*u1-u0*u3):=Rat.mul_nonneg s1 (by grind);have q2:0≤b*b*(u1*u1-u0*u3):=Rat.mul_nonneg s2 (by grind);have t1:0≤(b*b-a*d)*(u0*u0):=Rat.mul_nonneg (by grind) (rsq u0);have t2:0≤(b*b-a*d)*(u1*u1):=Rat.mul_nonneg (by grind) (rsq u1);have z1:(b*b-a*d)*(u0*u0)=0:=by grind
  have z2:(b*b-a*d)*(u1*u1)=0:=by grind
  have w0:u0*u0=0:=(axt.1 z1).resolve_left (by grind);have w1:u1*u1=0:=(axt.1 z2).resolve_left (by grind);have v0:u0=0:=by rcases axt.1 w0 with k|k<;>exact k
  rw[w1,v0] at p2;grind
 unfold vl at h1 h2 k1 k2;have n0:(a*u1-b*u0)*(nm x-nm y)=0:=by grind
 have r0:(a*u1-b*u0)*(x.re-y.re)=0:=by grind
 have n1:nm x=nm y:=by have:=(axt.1 n0).resolve_left hD;grind
 have r1:x.re=y.re:=by have:=(axt.1 r0).resolve_left hD;grind
 have i1:x.im=y.im:=Upy hx hy (by unfold nm at n1;rw[r1] at n1;grind);exact Qcj r1 i1
def Uyd{a b e u0 u1 u2:Rat}{x y:QC}(hp:0<Qam a b e a a b e a)(hq:0<Qam u0 u1 u2 u0 u0 u1 u2 u0)(ho:Qam u0 u1 u2 u0 a b e a=0)(hx:0<1-nm x)(hy:0<1-nm y)
  (h1:vl a b e a x=0) (h2:vl u0 u1 u2 u0 x=0) (k1:vl a b e a y=0) (k2:vl u0 u1 u2 u0 y=0):x=y:=by
 unfold Qam at hp hq ho;have hD:b*u2-e*u1≠0:=fun hD=>by
  have N0:0≤b*b+e*e:=Krd b e;have M0:0≤u1*u1+u2*u2:=Krd u1 u2;have p1:a*a<b*b+e*e:=by grind
  have p2:u0*u0<u1*u1+u2*u2:=by grind
  have o1:b*u1+e*u2=a*u0:=by grind
  have c1:(b*b+e*e)*(u1*u1+u2*u2)=(a*u0)*(a*u0):=by
   rw[←o1];have:(b*u2-e*u1)*(b*u2-e*u1)=0:=by rw[hD];grind
   grind
  have q0:=rsq u0;have q1:0≤(b*b+e*e-a*a)*(u0*u0):=Rat.mul_nonneg (by grind) q0;have q2:0<(b*b+e*e)*(u1*u1+u2*u2-u0*u0):=Rat.mul_pos (by have:=rsq a;grind) (by grind);grind
 unfold vl at h1 h2 k1 k2;have sx:(0:Rat)<1+nm x:=by have:=Krd x.re x.im;unfold nm;grind
 have sy:(0:Rat)<1+nm y:=by have:=Krd y.re y.im;unfold nm;grind
 have r0:(b*u2-e*u1)*(x.re*(1+nm y)-y.re*(1+nm x))=0:=by grind
 have i0:(b*u2-e*u1)*(x.im*(1+nm y)-y.im*(1+nm x))=0:=by grind
 have r1:x.re*(1+nm y)=y.re*(1+nm x):=by have:=(axt.1 r0).resolve_left hD;grind
 have i1:x.im*(1+nm y)=y.im*(1+nm x):=by have:=(axt.1 i0).resolve_left hD;grind
 have c:nm x*((1+nm y)*(1+nm y))=nm y*((1+nm x)*(1+nm x)):=by
  have e1:nm x*((1+nm y)*(1+nm y))=x.re*(1+nm y)*(x.re*(1+nm y))+x.im*(1+nm y)*(x.im*(1+nm y)):=by
   generalize hy:(1+nm y)=s;unfold nm;grind
  have e2:nm y*((1+nm x)*(1+nm x))=y.re*(1+nm x)*(y.re*(1+nm x))+y.im*(1+nm x)*(y.im*(1+nm x)):=by
   generalize hx:(1+nm x)=s;unfold nm;grind
  rw[e1,e2,r1,i1]
 have f:(nm x-nm y)*(1-nm x*nm y)=0:=by grind
 have g:1-nm x*nm y≠0:=by
  have a0:0≤nm x:=by have:=Krd x.re x.im;unfold nm;grind
  have:=Rat.mul_nonneg a0 (show 0≤1-nm y by grind);grind
 have n1:nm x=nm y:=by have:=(axt.1 f).resolve_right g;grind
 rw[n1] at r1 i1;have d1:(x.re-y.re)*(1+nm y)=0:=by grind
 have d2:(x.im-y.im)*(1+nm y)=0:=by grind
 have s0:=pne sy;exact Qcj (by have:=(axt.1 d1).resolve_right s0;grind) (by have:=(axt.1 d2).resolve_right s0;grind)
def Uhf(t:Rat):Qer (t*t):=by
 by_cases h:0<=t
 .exact⟨t,h,rfl⟩
 .exact⟨-t,by grind,by grind⟩
def Udw{A c N:Rat}(hN:N≠0)(h:A*N=c*c):A/N=(c/N)*(c/N):=by grind
def Uzx{w N:Rat}(hN:N≠0):-2*w*(-2*w)/(N*4)*N=w*w:=by grind
def Uiv{k0 k1 k2 k3 m1 m2 m3 r s v N R:Rat}{x:QC}(hk:k0≠0)(hN:N≠0)(eN:N=m1*m1+m2*m2)(er:r=-k1/k0)(es:s=k2/k0)(ev:v=(r*m1-s*m2)*2+m3)
  (eR:R=Qam k0 k1 k2 k3 k0 k1 k2 k3/(k0*k0)) (h1:vl k0 k1 k2 k3 x=0) (h2:vl 0 m1 m2 m3 x=0):Qer ((R-v*v/(N*4))/N):=by
 have e:((R-v*v/(N*4))/N)=((m2*(x.re-r)+m1*(x.im-s))/N)*((m2*(x.re-r)+m1*(x.im-s))/N):=by
  have c1:R=(x.re-r)*(x.re-r)+(x.im-s)*(x.im-s):=by
   rw[eR,er,es];unfold Qam;unfold vl nm at h1;grind
  have c2:v=-2*(m1*(x.re-r)-m2*(x.im-s)):=by
   rw[ev];unfold vl at h2;grind
  rw[c1,c2];refine Udw hN ?_;generalize x.re-r=p;generalize x.im-s=q;have k:=Uzx (w:=m1*p-m2*q) hN;have c:(p*p+q*q)*N-(m1*p-m2*q)*(m1*p-m2*q)=(m2*p+m1*q)*(m2*p+m1*q):=by rw[eN];grind
  rw[←c,←k];grind
 rw[e];exact Uhf _
def stp(t:Bool)(a b c d:QC)(p:QC×QC×QC×QC):QC×QC×QC×QC :=
 if t then(a*cj p.1+b*cj p.2.2.1,a*cj p.2.1+b*cj p.2.2.2,c*cj p.1+d*cj p.2.2.1,c*cj p.2.1+d*cj p.2.2.2)
 else(a*p.1+b*p.2.2.1,a*p.2.1+b*p.2.2.2,c*p.1+d*p.2.2.1,c*p.2.1+d*p.2.2.2)
def Khs{u v:QC}(h:u≠⟨0,0⟩)(k:v≠⟨0,0⟩):u*v≠⟨0,0⟩:=fun e=>(Uim.1 e).elim h k
def dq(p:QC×QC×QC×QC):QC:=p.1*p.2.2.2-p.2.1*p.2.2.1
def Une{p:QC×QC×QC×QC}(h:dq p≠⟨0,0⟩)(hc:p.2.2.1=⟨0,0⟩):p.2.2.2≠⟨0,0⟩:=fun hd=>h (by
 unfold dq;rw[hc,hd];apply Qcj<;>simp only[qmr,qmi,qsr,qsi]<;>grind)
abbrev Q4:=QC×QC×QC×QC
def by4(p:Q4):QC:=if p.2.2.1=⟨0,0⟩ then p.2.2.2 else p.2.2.1
def nm4(p:Q4):Q4:=(p.1/by4 p,p.2.1/by4 p,p.2.2.1/by4 p,p.2.2.2/by4 p)
def ZL4(p:Q4)(k:Nat):Prop:=ZL p.1 k/\ZL p.2.1 k/\ZL p.2.2.1 k/\ZL p.2.2.2 k
def ZL4.mono{p:Q4}{k l:Nat}(h:ZL4 p k)(hk:k<=l):ZL4 p l:=⟨h.1.mono hk,h.2.1.mono hk,h.2.2.1.mono hk,h.2.2.2.mono hk⟩
def Uco{p:Q4}(h:dq p≠⟨0,0⟩):by4 p≠⟨0,0⟩:=by
 unfold by4
 split
 .next hc=>exact Une h hc
 .next hc=>exact hc
def Ums{p:Q4}{k:Nat}(h:ZL4 p k):ZL (by4 p) k:=by
 unfold by4
 split
 .exact h.2.2.2
 .exact h.2.2.1
def Qpt{p:Q4}{k:Nat}(h:ZL4 p k)(hd:dq p≠⟨0,0⟩):ZL4 (nm4 p) (8*k+2):=by
 have hb:=Uco hd;have hz:=Ums h;exact⟨(Qxd hb h.1 hz).mono (by omega),(Qxd hb h.2.1 hz).mono (by omega),(Qxd hb h.2.2.1 hz).mono (by omega),(Qxd hb h.2.2.2 hz).mono (by omega)⟩
def qdm{x y:QC}(h:y≠⟨0,0⟩):y*(x/y)=x:=by
 have hn:=Kmb h;have hi:=Rat.mul_inv_cancel _ hn;have e1:(x/y).re=(x.re*y.re-x.im*(-y.im))*(y.re*y.re+y.im*y.im)⁻¹:=rfl;have e2:(x/y).im=(x.re*(-y.im)+x.im*y.re)*(y.re*y.re+y.im*y.im)⁻¹:=rfl;generalize (y.re*y.re+y.im*y.im)⁻¹=i at *
 apply Qcj
 .rw[qmr,e1,e2];grind
 .rw[qmi,e1,e2];grind
def IsW(L W:Nat)(z:QC):Prop:=∃ x y:Int,z.re*(L:Int)=(x:Int)/\z.im*(L:Int)=(y:Int)/\x.natAbs<=W/\y.natAbs<=W
def IsW.mul{L W L' W':Nat}{z w:QC}(h:IsW L W z)(k:IsW L' W' w):IsW (L*L') (2*(W*W')) (z*w):=by
 obtain⟨x,y,h1,h2,h3,h4⟩:=h;obtain⟨u,v,k1,k2,k3,k4⟩:=k;refine⟨x*u-y*v,x*v+y*u,?_,?_,?_,?_⟩
 .rw[Int.natCast_mul,axk,Rat.intCast_sub,axk,axk,←h1,←h2,←k1,←k2,qmr];grind
 .rw[Int.natCast_mul,axk,Rat.intCast_add,axk,axk,←h1,←h2,←k1,←k2,qmi];grind
 .have e1:=axr h3 k3;have e2:=axr h4 k4;rw[<-axm] at e1 e2;have:=Int.natAbs_sub_le (x*u) (y*v);omega
 .have e1:=axr h3 k4;have e2:=axr h4 k3;rw[<-axm] at e1 e2;have:=Int.natAbs_add_le (x*v) (y*u);omega
def IsW.add{L W W':Nat}{z w:QC}(h:IsW L W z)(k:IsW L W' w):IsW L (W+W') (z+w):=by
 obtain⟨x,y,h1,h2,h3,h4⟩:=h;obtain⟨u,v,k1,k2,k3,k4⟩:=k;refine⟨x+u,y+v,?_,?_,?_,?_⟩
 .rw[Rat.intCast_add,←h1,←k1,qar];grind
 .rw[Rat.intCast_add,←h2,←k2,qai];grind
 .have:=Int.natAbs_add_le x u;omega
 .have:=Int.natAbs_add_le y v;omega
def IsW.cj{L W:Nat}{z:QC}(h:IsW L W z):IsW L W (cj z):=by
 obtain⟨x,y,h1,h2,h3,h4⟩:=h;refine⟨x,-y,h1,?_,h3,by omega⟩;rw[Rat.intCast_neg,←h2];show -z.im*_=_;grind
def W4(L W:Nat)(p:QC×QC×QC×QC):Prop:=IsW L W p.1/\IsW L W p.2.1/\IsW L W p.2.2.1/\IsW L W p.2.2.2
def Kgj{z:QC}{L B D:Nat}(hr:z.re.den ∣ L)(hi:z.im.den ∣ L)(hL:L<=D)(h1:z.re.num.natAbs<=B)(h2:z.im.num.natAbs<=B):IsW L (B*D) z:=by
 obtain⟨u,hu⟩:=hr;obtain⟨v,hv⟩:=hi;refine⟨z.re.num*u,z.im.num*v,?_,?_,?_,?_⟩
 .rw[hu,Int.natCast_mul,axk,axk,←Krf z.re];grind
 .rw[hv,Int.natCast_mul,axk,axk,←Krf z.im];grind
 .rw[axm];refine axr h1 ?_;have:=z.re.den_nz;rw[axs];exact axw (Nat.le_mul_of_pos_left u (Nat.pos_of_ne_zero z.re.den_nz)) (by rw[<-hu];exact hL)
 .rw[axm];refine axr h2 ?_;have:=z.im.den_nz;rw[axs];exact axw (Nat.le_mul_of_pos_left v (Nat.pos_of_ne_zero z.im.den_nz)) (by rw[<-hv];exact hL)
def Uee{m n j k:Nat}(h:(Qac m).length<=j)(g:(Qac n).length<=k):(Qac (m*n)).length<=j+k:=Qfu h g
def Vao(a b c d e f g h:Nat):a ∣ a*(b*(c*(d*(e*(f*(g*h))))))/\b ∣ a*(b*(c*(d*(e*(f*(g*h))))))/\c ∣ a*(b*(c*(d*(e*(f*(g*h))))))/\d ∣ a*(b*(c*(d*(e*(f*(g*h))))))/\e ∣ a*(b*(c*(d*(e*(f*(g*h))))))/\f ∣ a*(b*(c*(d*(e*(f*(g*h))))))/\g ∣ a*(b*(c*(d*(e*(f*(g*h))))))/\h ∣ a*(b*(c*(d*(e*(f*(g*h)))))):=by
 have l:∀{x y z:Nat},x ∣ y->x ∣ z*y:=fun h=>Nat.dvd_trans h (Nat.dvd_mul_left _ _)
 have o:∀ x y:Nat,x ∣ x*y:=fun x y=>Nat.dvd_mul_right x y
 exact⟨o _ _,l (o _ _),l (l (o _ _)),l (l (l (o _ _))),l (l (l (l (o _ _)))),l (l (l (l (l (o _ _))))),l (l (l (l (l (l (o _ _)))))),l (l (l (l (l (l (l (Nat.dvd_refl _)))))))⟩
def Umq(k:Nat):∃ B,(Qac B).length<=k+1/\∀ n,(Qac n).length<=k->n<=B :=
 ⟨4294967296^k,Qal (Nat.pow_lt_pow_right (by decide) (by omega)),fun n h=>Nat.le_of_lt (axc (Qbr n) (axg (by decide) h))⟩
def q1:Q4:=(⟨1,0⟩,⟨0,0⟩,⟨0,0⟩,⟨1,0⟩)
def Uzk(x y:Q4):Q4:=stp false x.1 x.2.1 x.2.2.1 x.2.2.2 y
def Uzz(b:Q4):Q4:=(b.2.2.2,⟨0,0⟩-b.2.1,⟨0,0⟩-b.2.2.1,b.1)
def Vck{u x y:QC}(hu:u≠⟨0,0⟩)(h:u*x=u*y):x=y:=by
 have k:u*(x-y)=⟨0,0⟩:=by
  have h1:=congrArg QC.re h;have h2:=congrArg QC.im h;simp only[qmr,qmi] at h1 h2;apply Qcj<;>simp only[qmr,qmi,qsr,qsi]<;>grind
 exact Qta.1 ((Uim.1 k).elim (fun k=>absurd k hu) id)
def Vcj(x y z:QC):x*y*z=x*(y*z):=by apply Qcj<;>simp only[qmr,qmi]<;>grind
def Ksg{u x y:QC}(hu:u≠⟨0,0⟩)(hy:y≠⟨0,0⟩):(u*x)/(u*y)=x/y:=by
 have huy:u*y≠⟨0,0⟩:=Khs hu hy;refine Vck huy ?_;rw[qdm huy,Vcj,qdm hy]
def W1(b m:Q4):Q4:=Uzk m (Uzz b)
def W2(b m:Q4):Q4:=Uzk b (W1 b m)
section
variable{b m:Q4}(hb:dq b≠⟨0,0⟩)(hm:dq m≠⟨0,0⟩)
end
def Umm{a b c d:QC}{k:Nat}(ha:ZL a k)(hb:ZL b k)(hc:ZL c k)(hd:ZL d k):∃ L W,L≠0/\(Qac L).length<=8*k/\(Qac W).length<=9*k+1/\W4 L W (a,b,c,d):=by
 obtain⟨L,hL⟩:∃ L,L=a.re.den*(a.im.den*(b.re.den*(b.im.den*(c.re.den*(c.im.den*(d.re.den*d.im.den)))))):=⟨_,rfl⟩
 obtain⟨d1,d2,d3,d4,d5,d6,d7,d8⟩:=Vao a.re.den a.im.den b.re.den b.im.den c.re.den c.im.den d.re.den d.im.den;rw[<-hL] at d1 d2 d3 d4 d5 d6 d7 d8;have hl:(Qac L).length<=8*k:=by
  rw[hL];exact axw (Uee ha.1.2 (Uee ha.2.2 (Uee hb.1.2 (Uee hb.2.2 (Uee hc.1.2 (Uee hc.2.2 (Uee hd.1.2 hd.2.2))))))) (by omega)
 have h0:L≠0:=by
  have:=a.re.den_nz;have:=a.im.den_nz;have:=b.re.den_nz;have:=b.im.den_nz;have:=c.re.den_nz;have:=c.im.den_nz;have:=d.re.den_nz;have:=d.im.den_nz;rw[hL];simp only[Nat.mul_ne_zero_iff];exact⟨by assumption,by assumption,by assumption,by assumption,by assumption,by assumption,by assumption,by assumption⟩
 obtain⟨B,hB1,hB2⟩:=Umq k;have hB:∀{q:Rat},RL q k->q.num.natAbs<=B:=fun h=>hB2 _ h.1
 refine⟨L,B*L,h0,hl,axw (Uee hB1 hl) (by omega),?_⟩;exact⟨Kgj d1 d2 lr (hB ha.1) (hB ha.2),Kgj d3 d4 lr (hB hb.1) (hB hb.2),Kgj d5 d6 lr (hB hc.1) (hB hc.2),Kgj d7 d8 lr (hB hd.1) (hB hd.2)⟩
def IsW.sub{L W W':Nat}{z w:QC}(h:IsW L W z)(k:IsW L W' w):IsW L (W+W') (z-w):=by
 obtain⟨x,y,h1,h2,h3,h4⟩:=h;obtain⟨u,v,k1,k2,k3,k4⟩:=k;refine⟨x-u,y-v,?_,?_,?_,?_⟩
 .rw[Rat.intCast_sub,←h1,←k1,qsr];grind
 .rw[Rat.intCast_sub,←h2,←k2,qsi];grind
 .have:=Int.natAbs_sub_le x u;omega
 .have:=Int.natAbs_sub_le y v;omega
def IsW.mono{L W W':Nat}{z:QC}(h:IsW L W z)(k:W<=W'):IsW L W' z:=by
 obtain⟨x,y,h1,h2,h3,h4⟩:=h;exact⟨x,y,h1,h2,by omega,by omega⟩
end Go.Proofs.YtmimficdpfmfgaaGreat
namespace Go.Proofs.YtmimficdpfmfgaaGreat
open Go.RowKit Tr
def ZL4.w{p:Q4}{k:Nat}(h:ZL4 p k):∃ L W,L≠0/\(Qac L).length<=8*k/\(Qac W).length<=9*k+1/\W4 L W p:=by
 obtain⟨a,b,c,d⟩:=p;exact Umm h.1 h.2.1 h.2.2.1 h.2.2.2
open Classical
def Vco(a b c d:QC)(t:Bool)(b_a:ZL a 1000000)(b_b:ZL b 1000000)(b_c:ZL c 1000000)(b_d:ZL d 1000000)(hc:¬(c=(⟨0,0⟩:QC))):SCt 83 [.row (rG a),.row (rG b),.row (rG c),.row (rG d),.c (gx (.bool t))] (.r (.row (rG (a/c)++rG (b/c)++rG (c/c)++rG (d/c)++[gx (.bool t)]))) :=
  Qco (L := [cG a,cG b,cG c,cG d,[gx (.bool t)],cG (a/c),cG (b/c),cG (c/c),cG (d/c)].flatten) Qae Qai
     [gs (Uiq c false (fI hc)) [.row (gR 12)] vFf,gs (Qyf a c b_a.mn b_c.mn hc) [.row (gR 0),.row (gR 12)] (.r (.row (gR 25))),gs (Qyf b c b_b.mn b_c.mn hc) [.row (gR 6),.row (gR 12)] (.r (.row (gR 31))),gs (Qyf c c b_c.mn b_c.mn hc) [.row (gR 12),.row (gR 12)] (.r (.row (gR 37))),gs (Qyf d c b_d.mn b_c.mn hc) [.row (gR 18),.row (gR 12)] (.r (.row (gR 43)))]
     [] [] Tryz.func83 eo83 2000 [.row (gR 0),.row (gR 6),.row (gR 12),.row (gR 18),cS 24] (.r (.row (flA [gL [25,31,37,43],[.sym 24]])))
def Vcn(a b c d:QC)(t:Bool)(b_a:ZL a 1000000)(b_b:ZL b 1000000)(b_c:ZL c 1000000)(b_d:ZL d 1000000)(hc:c=(⟨0,0⟩:QC))(hd:¬(d=(⟨0,0⟩:QC))):SCt 83 [.row (rG a),.row (rG b),.row (rG c),.row (rG d),.c (gx (.bool t))] (.r (.row (rG (a/d)++rG (b/d)++rG (c/d)++rG (d/d)++[gx (.bool t)]))) :=
  Qco (L := [cG a,cG b,cG c,cG d,[gx (.bool t)],cG (a/d),cG (b/d),cG (c/d),cG (d/d)].flatten) Qae Qai
     [gs (Uiq c true (tI hc)) [.row (gR 12)] vTt,gs (Qyf a d b_a.mn b_d.mn hd) [.row (gR 0),.row (gR 18)] (.r (.row (gR 25))),gs (Qyf b d b_b.mn b_d.mn hd) [.row (gR 6),.row (gR 18)] (.r (.row (gR 31))),gs (Qyf c d b_c.mn b_d.mn hd) [.row (gR 12),.row (gR 18)] (.r (.row (gR 37))),gs (Qyf d d b_d.mn b_d.mn hd) [.row (gR 18),.row (gR 18)] (.r (.row (gR 43)))]
     [] [] Tryz.func83 eo83 2000 [.row (gR 0),.row (gR 6),.row (gR 12),.row (gR 18),cS 24] (.r (.row (flA [gL [25,31,37,43],[.sym 24]])))
def mGt(p:Q4)(t:Bool):List GF:=rG p.1++rG p.2.1++rG p.2.2.1++rG p.2.2.2++[gx (.bool t)]
def Uqb(p:Q4)(t:Bool)(hp:ZL4 p 1000000)(hd:dq p≠⟨0,0⟩):SCt 83 [G1 p.1,G1 p.2.1,G1 p.2.2.1,G1 p.2.2.2,.c (gx (.bool t))] (.r (.row (mGt (nm4 p) t))):=by
 obtain⟨m1,m2,m3,m4⟩:=hp;obtain⟨a,b,c,d⟩:=p
 by_cases hc:c=⟨0,0⟩
 .have e:by4 (a,b,c,d)=d:=if_pos hc;have k:=Une hd hc;unfold nm4;rw[e];exact Vcn a b c d t m1 m2 m3 m4 hc k
 .have e:by4 (a,b,c,d)=c:=if_neg hc;unfold nm4;rw[e];exact Vco a b c d t m1 m2 m3 m4 hc
def hm4(z:QC):Q4:=((⟨1,0⟩:QC),(⟨0,0⟩:QC)-z,(⟨0,0⟩:QC)-cj z,(⟨1,0⟩:QC))
def hmn(z:QC):hm4 z=((⟨1,0⟩:QC),ng z,ng (cj z),(⟨1,0⟩:QC)):=by unfold hm4;rw[<-Kzj,<-Kzj]
end Go.Proofs.YtmimficdpfmfgaaGreat
namespace Go.Proofs.YtmimficdpfmfgaaGreat
open Go.RowKit Tr
def Khv(x y:QC):nm (x*y)=nm x*nm y:=by unfold nm;simp only[qmr,qmi];grind
def Kbb{x:QC}(h:x≠⟨0,0⟩):nm x≠0:=Kmb h
def Uhn(x:QC):0<=nm x:=by
 have a1:=rsq x.re;have a2:=rsq x.im;unfold nm;grind
def Upl(x:QC):nm (cj x)=nm x:=by unfold nm cj;grind
def Udf{x y:QC}(h:y≠⟨0,0⟩):nm (x/y)=nm x/nm y:=by
 have e:nm y*nm (x/y)=nm x:=by rw[<-Khv,qdm h]
 have k:=Kbb h;grind
def Ugf{a b c d:QC}(hb:b≠⟨0,0⟩)(hd:d≠⟨0,0⟩):a/b-c/d=(a*d-c*b)/(b*d):=by
 have h1:b*(a/b)=a:=qdm hb;have h2:d*(c/d)=c:=qdm hd;have h3:(b*d)*((a*d-c*b)/(b*d))=a*d-c*b:=qdm (Khs hb hd);generalize a/b=x at h1 ⊢;generalize c/d=y at h2 ⊢;have h4:(b*d)*(x-y)=a*d-c*b:=by
  rw[←h1,←h2];apply Qcj<;>simp only[qmr,qmi,qsr,qsi]<;>grind
 generalize (a*d-c*b)/(b*d)=u at h3 ⊢;have h5:(b*d)*((x-y)-u)=⟨0,0⟩:=by
  have:(b*d)*((x-y)-u)=(b*d)*(x-y)-(b*d)*u:=by apply Qcj<;>simp only[qmr,qmi,qsr,qsi]<;>grind
  rw[this,h4,h3];apply Qcj<;>simp only[qsr,qsi]<;>grind
 exact Qta.1 ((Uim.1 h5).elim (fun k=>absurd k (Khs hb hd)) id)
def imq(x y:QC):Rat:=x.im*y.re-x.re*y.im
def Kqq{x y:QC}(h:y≠⟨0,0⟩):(x/y).im=imq x y/nm y:=by
 have e:(x/y).im=(x.re*(-y.im)+x.im*y.re)*(nm y)⁻¹:=rfl;rw[e,Rat.div_def];unfold imq;congr 1;grind
def Kqo{x y:QC}(h:y≠⟨0,0⟩):1-nm (x/y)=(nm y-nm x)/nm y:=by
 rw[Udf h];have k:=Kbb h;grind
def Qvz{N1 D1 N2 D2:QC}(h1:D1≠⟨0,0⟩)(h2:D2≠⟨0,0⟩):nm (N1/D1-N2/D2)=nm (N1*D2-N2*D1)/(nm D1*nm D2):=by
 rw[Ugf h1 h2,Udf (Khs h1 h2),Khv D1 D2]
def Unj{N1 D1 N2 D2:QC}(h1:D1≠⟨0,0⟩)(h2:D2≠⟨0,0⟩)(k1:nm D1-nm N1≠0)(k2:nm D2-nm N2≠0):Uni (N1/D1) (N2/D2)=1+(nm (N1*D2-N2*D1)+nm (N1*D2-N2*D1))/((nm D1-nm N1)*(nm D2-nm N2)):=by
 unfold Uni;rw[Qvz h1 h2,Kqo h1,Kqo h2];have a:=Kbb h1;have b:=Kbb h2;generalize nm (N1*D2-N2*D1)=n;generalize nm D1-nm N1=x at *
 generalize nm D2-nm N2=y at *
 grind
def Unh{N1 D1 N2 D2:QC}(h1:D1≠⟨0,0⟩)(h2:D2≠⟨0,0⟩)(k1:imq N1 D1≠0)(k2:imq N2 D2≠0):Kwy (N1/D1) (N2/D2)=1+nm (N1*D2-N2*D1)/(imq N1 D1*imq N2 D2+imq N1 D1*imq N2 D2):=by
 unfold Kwy;rw[Qvz h1 h2,Kqq h1,Kqq h2];have a:=Kbb h1;have b:=Kbb h2;generalize nm (N1*D2-N2*D1)=n;generalize imq N1 D1=x at *
 generalize imq N2 D2=y at *
 grind
section
variable(a b z w:QC)
end
def Qqz{x y:QC}(h:0<nm y-nm x):y≠⟨0,0⟩:=fun e=>by
 rw[e] at h;have e0:nm (⟨0,0⟩:QC)=0:=by unfold nm;grind
 rw[e0] at h;have:=Uhn x;grind
def Und{x y:QC}(h:0<nm y-nm x):0<1-nm (x/y):=by
 have k:=Qqz h;rw[Kqo k,Rat.div_def];have k2:0<nm y:=by have:=Uhn y;have:=Kbb k;grind
 exact Qqy h (Rat.inv_pos.2 k2)
section
variable{z w:QC}
end
def rfN(a b e d:Rat)(z:QC):QC:=((⟨0,0⟩:QC)-cj ⟨b,e⟩)*cj z-⟨d,0⟩
def rfD(a b e d:Rat)(z:QC):QC:=⟨a*z.re,-(a*z.im)⟩+⟨b,e⟩
def Kiv(a b e d:Rat)(z w:QC):rfN a b e d z*rfD a b e d w-rfN a b e d w*rfD a b e d z=(⟨a*d-(b*b+e*e),0⟩:QC)*cj (z-w):=by
 unfold rfN rfD cj;apply Qcj<;>simp only[qmr,qmi,qar,qai,qsr,qsi]<;>grind
def Qwf(a b d:Rat)(z:QC):imq (rfN a b 0 d z) (rfD a b 0 d z)=(b*b-a*d)*z.im:=by
 unfold imq rfN rfD cj;simp only[qmr,qmi,qar,qai,qsr,qsi];grind
def Kiw(a b e:Rat)(z:QC):nm (rfD a b e a z)-nm (rfN a b e a z)=(b*b+e*e-a*a)*(1-nm z):=by
 unfold rfN rfD nm cj;simp only[qmr,qmi,qar,qai,qsr,qsi];grind
def Kej{a b d:Rat}{z w:QC}(hp:0<b*b-a*d)(hz:0<z.im)(hw:0<w.im):Kwy (rfN a b 0 d z/rfD a b 0 d z) (rfN a b 0 d w/rfD a b 0 d w)=Kwy z w/\rfD a b 0 d z≠⟨0,0⟩/\0<(rfN a b 0 d z/rfD a b 0 d z).im:=by
 have dn:∀ z:QC,0<z.im->rfD a b 0 d z≠⟨0,0⟩:=fun z hz h=>by
  have k:imq (rfN a b 0 d z) (rfD a b 0 d z)=0:=by rw[h];unfold imq;grind
  rw[Qwf] at k;exact pne (Qqy hp hz) k
 refine⟨?_,dn z hz,?_⟩
 .rw[Unh (dn z hz) (dn w hw) (by rw[Qwf];exact pne (Qqy hp hz)) (by rw[Qwf];exact pne (Qqy hp hw)),Kiv,Khv,Upl,Qwf,Qwf];have e:nm (⟨a*d-(b*b+0*0),0⟩:QC)=(b*b-a*d)*(b*b-a*d):=by simp only[nm];grind
  rw[e];unfold Kwy;have n1:=pne hp;have n2:=pne hz;have n3:=pne hw;generalize b*b-a*d=k at *
  generalize nm (z-w)=n;grind
 .rw[Kqq (dn z hz),Qwf,Rat.div_def];have k2:0<nm (rfD a b 0 d z):=by have:=Uhn (rfD a b 0 d z);have:=Kbb (dn z hz);grind
  exact Qqy (Qqy hp hz) (Rat.inv_pos.2 k2)
def Kek{a b e:Rat}{z w:QC}(hp:0<b*b+e*e-a*a)(hz:0<1-nm z)(hw:0<1-nm w):Uni (rfN a b e a z/rfD a b e a z) (rfN a b e a w/rfD a b e a w)=Uni z w/\rfD a b e a z≠⟨0,0⟩/\0<1-nm (rfN a b e a z/rfD a b e a z):=by
 have k1:0<nm (rfD a b e a z)-nm (rfN a b e a z):=by rw[Kiw];exact Qqy hp hz
 have k2:0<nm (rfD a b e a w)-nm (rfN a b e a w):=by rw[Kiw];exact Qqy hp hw
 refine⟨?_,Qqz k1,Und k1⟩;rw[Unj (Qqz k1) (Qqz k2) (pne k1) (pne k2),Kiv,Khv,Upl,Kiw,Kiw];have e2:nm (⟨a*a-(b*b+e*e),0⟩:QC)=(b*b+e*e-a*a)*(b*b+e*e-a*a):=by simp only[nm];grind
 rw[e2];unfold Uni;have n1:=pne hp;have n2:=pne hz;have n3:=pne hw;generalize b*b+e*e-a*a=k at *
 generalize 1-nm z=x at *
 generalize 1-nm w=y at *
 generalize nm (z-w)=n;grind
end Go.Proofs.YtmimficdpfmfgaaGreat
namespace Go.Proofs.YtmimficdpfmfgaaGreat
open Go.RowKit Tr
def BQ(x:Rat)(n m:Nat):Prop:=∃(a:Int) (d:Nat),0<d/\d<2^m/\a.natAbs<2^n/\x*(d:Rat)=(a:Rat)
def p2m{a b:Nat}(h:a<=b):2^a<=2^b:=axg (by decide) h
def Qgd{a b n m:Nat}(ha:a<2^n)(hb:b<2^m):a*b<2^(n+m):=by
 rw[Nat.pow_add];exact Nat.mul_lt_mul'' ha hb
def Kah{d:Nat}(h:0<d):(d:Rat)≠0:=by
 intro e;have:(d:Rat)=((0:Nat):Rat):=e;have:=Rat.natCast_inj.1 this;omega
def BQ.mono{x:Rat}{n m n' m':Nat}(h:BQ x n m)(hn:n<=n')(hm:m<=m'):BQ x n' m':=by
 obtain⟨a,d,h1,h2,h3,h4⟩:=h;exact⟨a,d,h1,axc h2 (p2m hm),axc h3 (p2m hn),h4⟩
def BQ.int(z:Int)(n:Nat)(h:z.natAbs<2^n):BQ (z:Rat) n 1:=⟨z,1,by decide,by decide,h,by grind⟩
def BQ.mul{x y:Rat}{n m k l:Nat}(h:BQ x n m)(g:BQ y k l):BQ (x*y) (n+k) (m+l):=by
 obtain⟨a,d,h1,h2,h3,h4⟩:=h;obtain⟨b,e,g1,g2,g3,g4⟩:=g;refine⟨a*b,d*e,Nat.mul_pos h1 g1,Qgd h2 g2,by rw[axm];exact Qgd h3 g3,?_⟩;rw[axk,Rat.natCast_mul,←h4,←g4];grind
def BQ.neg{x:Rat}{n m:Nat}(h:BQ x n m):BQ (-x) n m:=by
 obtain⟨a,d,h1,h2,h3,h4⟩:=h;exact⟨-a,d,h1,h2,by rw[Int.natAbs_neg];exact h3,by rw[Rat.intCast_neg,←h4];grind⟩
def BQ.add{x y:Rat}{n m k l r:Nat}(h:BQ x n m)(g:BQ y k l)(h5:n+l<r)(h6:k+m<r):BQ (x+y) r (m+l):=by
 obtain⟨a,d,h1,h2,h3,h4⟩:=h;obtain⟨b,e,g1,g2,g3,g4⟩:=g;refine⟨a*e+b*d,d*e,Nat.mul_pos h1 g1,Qgd h2 g2,?_,?_⟩
 .have k1:(a*(e:Int)).natAbs<2^(r-1):=by
   rw[axm];exact axc (Qgd h3 (by simpa using g2)) (p2m (by omega))
  have k2:(b*(d:Int)).natAbs<2^(r-1):=by
   rw[axm];exact axc (Qgd g3 (by simpa using h2)) (p2m (by omega))
  have k3:2^r=2^(r-1)+2^(r-1):=by
   obtain⟨s,rfl⟩:∃ s,r=s+1:=⟨r-1,by omega⟩
   rw[Nat.pow_succ];simp;omega
  have:=Int.natAbs_add_le (a*(e:Int)) (b*(d:Int));omega
 .rw[Rat.intCast_add,axk,axk,Rat.natCast_mul,←h4,←g4];have i1:((e:Int):Rat)=(e:Rat):=rfl;have i2:((d:Int):Rat)=(d:Rat):=rfl;rw[i1,i2];grind
def BQ.sub{x y:Rat}{n m k l r:Nat}(h:BQ x n m)(g:BQ y k l)(h5:n+l<r)(h6:k+m<r):BQ (x-y) r (m+l):=by
 have:=h.add g.neg h5 h6;rwa[show x+-y=x-y from by grind] at this
def BQ.div{x y:Rat}{n m k l:Nat}(h:BQ x n m)(g:BQ y k l)(hy:y≠0):BQ (x/y) (n+l) (m+k):=by
 obtain⟨a,d,h1,h2,h3,h4⟩:=h;obtain⟨b,e,g1,g2,g3,g4⟩:=g;have hb:b≠0:=fun z=>by
  rw[z] at g4;have:y*(e:Rat)=0:=g4;rcases axt.1 this with k|k
  .exact hy k
  .exact Kah g1 k
 have hd:=Kah h1;have he:=Kah g1;refine⟨a*e*b.sign,d*b.natAbs,Nat.mul_pos h1 (by omega),Qgd h2 g3,?_,?_⟩
 .rw[axm,axm,Int.natAbs_sign_of_ne_zero hb,Nat.mul_one];exact Qgd h3 (by simpa using g2)
 .have s:((b.natAbs:Nat):Rat)=(b:Rat)*(b.sign:Rat):=by
   have:(b.natAbs:Int)=b*b.sign:=by rw[Int.mul_sign_self]
   have h0:((b.natAbs:Int):Rat)=((b*b.sign:Int):Rat):=by rw[this]
   rw[axk] at h0;exact h0
  rw[Rat.natCast_mul,s,axk,axk,←h4,←g4];have i1:((e:Int):Rat)=(e:Rat):=rfl;rw[i1];grind
def CZ(z:QC)(n m:Nat):Prop:=∃(a b:Int) (d:Nat),0<d/\d<2^m/\a.natAbs<2^n/\b.natAbs<2^n/\z.re*(d:Rat)=(a:Rat)/\z.im*(d:Rat)=(b:Rat)
def Qiy{a b:Int}{n m r:Nat}(ha:a.natAbs<2^n)(hb:b.natAbs<2^m)(h1:n<r)(h2:m<r):(a+b).natAbs<2^r:=by
 have k1:a.natAbs<2^(r-1):=axc ha (p2m (by omega));have k2:b.natAbs<2^(r-1):=axc hb (p2m (by omega));have k3:2^r=2^(r-1)+2^(r-1):=by
  obtain⟨s,rfl⟩:∃ s,r=s+1:=⟨r-1,by omega⟩
  rw[Nat.pow_succ];simp;omega
 have:=Int.natAbs_add_le a b;omega
def Qdf{a b:Int}{n m:Nat}(ha:a.natAbs<2^n)(hb:b.natAbs<2^m):(a*b).natAbs<2^(n+m):=by rw[axm];exact Qgd ha hb
section
variable{z w:QC}{n m k l r s:Nat}
def CZ.mono{n' m':Nat}(h:CZ z n m)(hn:n<=n')(hm:m<=m'):CZ z n' m':=by
 obtain⟨a,b,d,h1,h2,h3,h4,h5⟩:=h;exact⟨a,b,d,h1,axc h2 (p2m hm),axc h3 (p2m hn),axc h4 (p2m hn),h5⟩
def CZ.bq(h:CZ z n m):BQ z.re n m/\BQ z.im n m:=by
 obtain⟨a,b,d,h1,h2,h3,h4,h5,h6⟩:=h;exact⟨⟨a,d,h1,h2,h3,h5⟩,b,d,h1,h2,h4,h6⟩
def CZ.of{x y:Rat}(h:BQ x n m)(g:BQ y k l)(h1:n+l<=r)(h2:k+m<=r):CZ (⟨x,y⟩:QC) r (m+l):=by
 obtain⟨a,d,a1,a2,a3,a4⟩:=h;obtain⟨b,e,b1,b2,b3,b4⟩:=g;refine⟨a*e,b*d,d*e,Nat.mul_pos a1 b1,Qgd a2 b2,axc (Qdf a3 (by simpa using b2)) (p2m h1),axc (Qdf b3 (by simpa using a2)) (p2m h2),?_,?_⟩
 .rw[axk,Rat.natCast_mul,←a4];have i1:((e:Int):Rat)=(e:Rat):=rfl;rw[i1];grind
 .rw[axk,Rat.natCast_mul,←b4];have i1:((d:Int):Rat)=(d:Rat):=rfl;rw[i1];grind
def CZ.cj(h:CZ z n m):CZ (cj z) n m:=by
 obtain⟨a,b,d,h1,h2,h3,h4,h5,h6⟩:=h;exact⟨a,-b,d,h1,h2,h3,by rw[Int.natAbs_neg];exact h4,h5,by
  rw[Rat.intCast_neg,←h6];show -z.im*(d:Rat)=_;grind⟩
def CZ.neg0(h:CZ z n m):CZ ((⟨0,0⟩:QC)-z) n m:=by
 obtain⟨a,b,d,h1,h2,h3,h4,h5,h6⟩:=h;exact⟨-a,-b,d,h1,h2,by rw[Int.natAbs_neg];exact h3,by rw[Int.natAbs_neg];exact h4,by rw[Rat.intCast_neg,←h5];simp only[qsr];grind,by rw[Rat.intCast_neg,←h6];simp only[qsi];grind⟩
def CZ.add(h:CZ z n m)(g:CZ w k l)(h5:n+l<r)(h6:k+m<r):CZ (z+w) r (m+l):=by
 obtain⟨a,b,d,a1,a2,a3,a4,a5,a6⟩:=h;obtain⟨p,q,e,b1,b2,b3,b4,b5,b6⟩:=g;have i1:((e:Int):Rat)=(e:Rat):=rfl;have i2:((d:Int):Rat)=(d:Rat):=rfl;refine⟨a*e+p*d,b*e+q*d,d*e,Nat.mul_pos a1 b1,Qgd a2 b2,Qiy (Qdf a3 (by simpa using b2)) (Qdf b3 (by simpa using a2)) h5 h6,Qiy (Qdf a4 (by simpa using b2)) (Qdf b4 (by simpa using a2)) h5 h6,?_,?_⟩
 .rw[Rat.intCast_add,axk,axk,Rat.natCast_mul,←a5,←b5,i1,i2,qar];grind
 .rw[Rat.intCast_add,axk,axk,Rat.natCast_mul,←a6,←b6,i1,i2,qai];grind
def CZ.sub(h:CZ z n m)(g:CZ w k l)(h5:n+l<r)(h6:k+m<r):CZ (z-w) r (m+l):=by
 have:=h.add g.neg0 h5 h6;rwa[show z+((⟨0,0⟩:QC)-w)=z-w from by apply Qcj<;>simp only[qar,qai,qsr,qsi]<;>grind] at this
def CZ.mul(h:CZ z n m)(g:CZ w k l):CZ (z*w) (n+k+1) (m+l):=by
 obtain⟨a,b,d,a1,a2,a3,a4,a5,a6⟩:=h;obtain⟨p,q,e,b1,b2,b3,b4,b5,b6⟩:=g;refine⟨a*p+-(b*q),a*q+b*p,d*e,Nat.mul_pos a1 b1,Qgd a2 b2,Qiy (Qdf a3 b3) (by rw[Int.natAbs_neg];exact Qdf a4 b4) (by omega) (by omega),Qiy (Qdf a3 b4) (Qdf a4 b3) (by omega) (by omega),?_,?_⟩
 .rw[Rat.intCast_add,Rat.intCast_neg,axk,axk,Rat.natCast_mul,←a5,←b5,←a6,←b6,qmr];grind
 .rw[Rat.intCast_add,axk,axk,Rat.natCast_mul,←a5,←b5,←a6,←b6,qmi];grind
def BQ.nm(h:CZ z n m):BQ (nm z) (n+n+1) (m+m):=by
 obtain⟨a,b,d,a1,a2,a3,a4,a5,a6⟩:=h;refine⟨a*a+b*b,d*d,Nat.mul_pos a1 a1,Qgd a2 a2,Qiy (Qdf a3 a3) (Qdf a4 a4) (by omega) (by omega),?_⟩;unfold Go.Proofs.YtmimficdpfmfgaaGreat.nm;rw[Rat.intCast_add,axk,axk,Rat.natCast_mul,←a5,←a6];grind
def Vcm(x y:QC):(x/y).re=(x.re*y.re-x.im*(-y.im))*(y.re*y.re+y.im*y.im)⁻¹:=rfl
def Vcl(x y:QC):(x/y).im=(x.re*(-y.im)+x.im*y.re)*(y.re*y.re+y.im*y.im)⁻¹:=rfl
def CZ.div(h:CZ z n m)(g:CZ w k l)(hw:w≠⟨0,0⟩):CZ (z/w) (n+k+1+l) (m+(k+k+1)):=by
 obtain⟨a,b,d,a1,a2,a3,a4,a5,a6⟩:=h;obtain⟨p,q,e,b1,b2,b3,b4,b5,b6⟩:=g;have hd:=Kah a1;have he:=Kah b1;have nw:=Kmb hw;have hpq:p*p+q*q≠0:=fun z=>by
  have:((p*p+q*q:Int):Rat)=0:=by rw[z];rfl
  rw[Rat.intCast_add,axk,axk,←b5,←b6] at this;exact nw (by grind)
 have hp0:0<=p*p+q*q:=by
  have sq:∀ z:Int,0<=z*z:=fun z=>by
   rcases Int.le_total 0 z with h|h
   .exact Int.mul_nonneg h h
   .exact Int.mul_nonneg_of_nonpos_of_nonpos h h
  have:=sq p;have:=sq q;omega
 obtain⟨N,hN⟩:∃ N:Nat,(N:Int)=p*p+q*q:=⟨(p*p+q*q).natAbs,by omega⟩
 have hN2:(N:Rat)=(p:Rat)*p+(q:Rat)*q:=by
  have:((N:Int):Rat)=((p*p+q*q:Int):Rat):=by rw[hN]
  rw[Rat.intCast_add,axk,axk] at this;exact this
 have i1:((e:Int):Rat)=(e:Rat):=rfl;have hv:(N:Rat)=(w.re*w.re+w.im*w.im)*((e:Rat)*e):=by rw[hN2,←b5,←b6];grind
 refine⟨(a*p+b*q)*e,(b*p+-(a*q))*e,d*N,Nat.mul_pos a1 (by omega),Qgd a2 ?_,?_,?_,?_,?_⟩
 .have:(p*p+q*q).natAbs<2^(k+k+1):=Qiy (Qdf b3 b3) (Qdf b4 b4) (by omega) (by omega);omega
 .exact Qdf (Qiy (Qdf a3 b3) (Qdf a4 b4) (by omega) (by omega)) (by simpa using b2)
 .exact Qdf (Qiy (Qdf a4 b3) (by rw[Int.natAbs_neg];exact Qdf a3 b4) (by omega) (by omega)) (by simpa using b2)
 .rw[axk,Rat.intCast_add,axk,axk,Rat.natCast_mul,hv,i1,←a5,←a6,←b5,←b6,Vcm];grind
 .rw[axk,Rat.intCast_add,Rat.intCast_neg,axk,axk,Rat.natCast_mul,hv,i1,←a5,←a6,←b5,←b6,Vcl];grind
end
def BQ.mn{x:Rat}{n m n' m':Nat}(h:BQ x n m)(hm:m<=m')(hn:n<=n':=by omega):BQ x n' m':=h.mono hn hm
def CZ.mn{z:QC}{n m n' m':Nat}(h:CZ z n m)(hm:m<=m')(hn:n<=n':=by omega):CZ z n' m':=h.mono hn hm
end Go.Proofs.YtmimficdpfmfgaaGreat
namespace Go.Proofs.YtmimficdpfmfgaaGreat
open Go.RowKit Tr
open Classical
def IZ(x:Rat)(n:Nat):Prop:=∃ a:Int,a.natAbs<2^n/\x=(a:Rat)
section
variable{x y:Rat}{n m r:Nat}
def IZ.mono(h:IZ x n)(k:n<=m):IZ x m:=by
 obtain⟨a,h1,h2⟩:=h;exact⟨a,axc h1 (p2m k),h2⟩
def IZ.mul(h:IZ x n)(g:IZ y m):IZ (x*y) (n+m):=by
 obtain⟨a,h1,h2⟩:=h;obtain⟨b,g1,g2⟩:=g;exact⟨a*b,Qdf h1 g1,by rw[h2,g2,axk]⟩
def IZ.add(h:IZ x n)(g:IZ y m)(k1:n<r)(k2:m<r):IZ (x+y) r:=by
 obtain⟨a,h1,h2⟩:=h;obtain⟨b,g1,g2⟩:=g;exact⟨a+b,Qiy h1 g1 k1 k2,by rw[h2,g2,Rat.intCast_add]⟩
def IZ.neg(h:IZ x n):IZ (-x) n:=by
 obtain⟨a,h1,h2⟩:=h;exact⟨-a,by rw[Int.natAbs_neg];exact h1,by rw[h2,Rat.intCast_neg]⟩
def IZ.sub(h:IZ x n)(g:IZ y m)(k1:n<r)(k2:m<r):IZ (x-y) r:=by
 have:=h.add g.neg k1 k2;rwa[show x+-y=x-y from by grind] at this
def IZ.int(z:Int)(k:Nat)(h:z.natAbs<2^k):IZ (z:Rat) k:=⟨z,h,rfl⟩
def IZ.bq(h:IZ x n):BQ x n 1:=by
 obtain⟨a,h1,h2⟩:=h;rw[h2];exact BQ.int a n h1
def IZ.det3{a b c d e f g h i:Rat}{n m k:Nat}(ha:IZ a n)(hb:IZ b n)(hc:IZ c n)(hd:IZ d m)(he:IZ e m)(hf:IZ f m)(hg:IZ g k)(hh:IZ h k)(hi:IZ i k):IZ (det3 a b c d e f g h i) (n+m+k+3):=by
 have k1:IZ (e*i-f*h) (m+k+1):=(he.mul hi).sub (hf.mul hh) (by omega) (by omega);have k2:IZ (d*i-f*g) (m+k+1):=(hd.mul hi).sub (hf.mul hg) (by omega) (by omega);have k3:IZ (d*h-e*g) (m+k+1):=(hd.mul hh).sub (he.mul hg) (by omega) (by omega);unfold Go.Proofs.YtmimficdpfmfgaaGreat.det3;exact(((ha.mul k1).sub (hb.mul k2) (r:=n+m+k+2) (by omega) (by omega)).add (hc.mul k3) (by omega) (by omega))
end
def IF(a b e d:Rat)(n:Nat):Prop:=∃ k:Rat,k≠0/\IZ (k*a) n/\IZ (k*b) n/\IZ (k*e) n/\IZ (k*d) n
def IF.mono{a b e d:Rat}{n m:Nat}(h:IF a b e d n)(k:n<=m):IF a b e d m:=by
 obtain⟨q,h0,h1,h2,h3,h4⟩:=h;exact⟨q,h0,h1.mono k,h2.mono k,h3.mono k,h4.mono k⟩
def IF.div{a b e d c:Rat}{n:Nat}(h:IF a b e d n)(hc:c≠0):IF (a/c) (b/c) (e/c) (d/c) n:=by
 obtain⟨q,h0,h1,h2,h3,h4⟩:=h;have k:∀ x:Rat,q*c*(x/c)=q*x:=fun x=>by grind
 exact⟨q*c,fun e=>by rcases axt.1 e with e|e;exact h0 e;exact hc e,by rw[k];exact h1,by rw[k];exact h2,by rw[k];exact h3,by rw[k];exact h4⟩
def IF.up{b0 b1 b2 b3 f0 f1 f2 f3 g0 g1 g2 g3:Rat}{n m:Nat}(hb:IZ b0 1/\IZ b1 1/\IZ b2 1/\IZ b3 1)(hf:IF f0 f1 f2 f3 n)(hg:IF g0 g1 g2 g3 m) :
  IF (up0 b0 b1 b2 f0 f1 f2 g0 g1 g2) (up1 b0 b2 b3 f0 f2 f3 g0 g2 g3) (up2 b0 b1 b3 f0 f1 f3 g0 g1 g3) (up3 b1 b2 b3 f1 f2 f3 g1 g2 g3) (n+m+6):=by
 obtain⟨c0,c1,c2,c3⟩:=hb;obtain⟨p,p0,p1,p2,p3,p4⟩:=hf;obtain⟨q,q0,q1,q2,q3,q4⟩:=hg;refine⟨4*p*q,fun e=>?_,?_,?_,?_,?_⟩
 .rcases axt.1 e with e|e
  .rcases axt.1 e with e|e
   .exact absurd e (by decide)
   .exact p0 e
  .exact q0 e
 .have e:4*p*q*up0 b0 b1 b2 f0 f1 f2 g0 g1 g2=((-2:Int):Rat)*det3 b1 b2 b0 (p*f1) (p*f2) (p*f0) (q*g1) (q*g2) (q*g0):=by
   rw[show((-2:Int):Rat)=-2 from rfl];unfold up0 det3;grind
  rw[e];exact((IZ.int (-2) 2 (by decide)).mul (IZ.det3 c1 c2 c0 p2 p3 p1 q2 q3 q1)).mono (by omega)
 .have e:4*p*q*up1 b0 b2 b3 f0 f2 f3 g0 g2 g3=-det3 b3 b2 b0 (p*f3) (p*f2) (p*f0) (q*g3) (q*g2) (q*g0):=by unfold up1 det3;grind
  rw[e];exact(IZ.det3 c3 c2 c0 p4 p3 p1 q4 q3 q1).neg.mono (by omega)
 .have e:4*p*q*up2 b0 b1 b3 f0 f1 f3 g0 g1 g3=det3 b3 b1 b0 (p*f3) (p*f1) (p*f0) (q*g3) (q*g1) (q*g0):=by unfold up2 det3;grind
  rw[e];exact(IZ.det3 c3 c1 c0 p4 p2 p1 q4 q2 q1).mono (by omega)
 .have e:4*p*q*up3 b1 b2 b3 f1 f2 f3 g1 g2 g3=((2:Int):Rat)*det3 b3 b1 b2 (p*f3) (p*f1) (p*f2) (q*g3) (q*g1) (q*g2):=by
   rw[show((2:Int):Rat)=2 from rfl];unfold up3 det3;grind
  rw[e];exact((IZ.int 2 2 (by decide)).mul (IZ.det3 c3 c1 c2 p4 p2 p3 q4 q2 q3)).mono (by omega)
def Bt(z:QC):Prop:=BQ z.re 40 40/\BQ z.im 40 40
def Bt.cz{z:QC}(h:Bt z):CZ z 80 80:=CZ.of h.1 h.2 (by omega) (by omega)
def Bt.spot{z:QC}(h:Bt z):IF 1 (-z.re) z.im (nm z) 162:=by
 obtain⟨a,b,d,h1,h2,h3,h4,h5,h6⟩:=h.cz;have hd:=Kah h1;have id:IZ (d:Rat) 80:=⟨(d:Int),by simpa using h2,rfl⟩
 have ia:IZ (z.re*(d:Rat)) 80:=⟨a,h3,h5⟩
 have ib:IZ (z.im*(d:Rat)) 80:=⟨b,h4,h6⟩
 refine⟨(d:Rat)*(d:Rat),Krb hd,?_,?_,?_,?_⟩
 .rw[show(d:Rat)*(d:Rat)*1=(d:Rat)*(d:Rat) from by grind];exact(id.mul id).mono (by omega)
 .rw[show(d:Rat)*(d:Rat)*-z.re=-(z.re*(d:Rat)*(d:Rat)) from by grind];exact(ia.mul id).neg.mono (by omega)
 .rw[show(d:Rat)*(d:Rat)*z.im=z.im*(d:Rat)*(d:Rat) from by grind];exact(ib.mul id).mono (by omega)
 .rw[show(d:Rat)*(d:Rat)*nm z=z.re*(d:Rat)*(z.re*(d:Rat))+z.im*(d:Rat)*(z.im*(d:Rat)) from by unfold nm;grind];exact((ia.mul ia).add (ib.mul ib) (r:=161) (by omega) (by omega)).mono (by omega)
def IZ0:IZ 0 1:=IZ.int 0 1 (by decide)
def IZ1:IZ 1 1:=IZ.int 1 1 (by decide)
def IZm:IZ (-1) 1:=IZ.int (-1) 1 (by decide)
def Bt.hi1{z:QC}(h:Bt z):∃ k:Rat,k≠0/\IZ (k*1) 163/\IZ (k*-z.re) 163/\IZ (k*z.im) 163/\IZ (k*nm z) 163/\IZ (k*z.im) 163:=by
 obtain⟨p,p0,p1,p2,p3,p4⟩:=h.spot.mono (m:=163) (by omega);exact⟨p,p0,p1,p2,p3,p4,p3⟩
def Bt.hi2{z:QC}(h:Bt z):∃ k:Rat,k≠0/\IZ (k*1) 163/\IZ (k*-z.re) 163/\IZ (k*z.im) 163/\IZ (k*nm z) 163/\IZ (k*(1-nm z)) 163:=by
 obtain⟨p,p0,p1,p2,p3,p4⟩:=h.spot;exact⟨p,p0,p1.mono (by omega),p2.mono (by omega),p3.mono (by omega),p4.mono (by omega),by
  rw[show p*(1-nm z)=p*1-p*nm z from by grind];exact p1.sub p4 (by omega) (by omega)⟩
def Bt.upr{p:Nat}{a b e d:Rat}{z:QC}{n:Nat}(hz:Bt z)(h:IF a b e d n):IF (upr p a b e d z).1 (upr p a b e d z).2.1 (upr p a b e d z).2.2.1 (upr p a b e d z).2.2.2 (n+168):=by
 unfold Go.Proofs.YtmimficdpfmfgaaGreat.upr
 split
 .exact IF.up ⟨IZ0,IZ0,IZ1,IZ0⟩ h hz.spot
 .exact IF.up ⟨IZ1,IZ0,IZ0,IZm⟩ h hz.spot
def BQ.low{q:Rat}{n m:Nat}(h:BQ q n m):q.num.natAbs<2^n/\q.den<2^m:=by
 obtain⟨a,d,h1,h2,h3,h4⟩:=h;have k:q.num*(d:Int)=a*(q.den:Int):=by
  have e:=Rat.num_divInt_den q;rw[Rat.divInt_eq_div] at e;have hd:=Kah q.den_pos;have e2:q*(q.den:Rat)=(q.num:Rat):=by
   have:q*(q.den:Rat)=(q.num:Rat)/((q.den:Int):Rat)*(q.den:Rat):=by rw[e]
   rw[this,show((q.den:Int):Rat)=(q.den:Rat) from rfl];grind
  have e3:(q.num:Rat)*(d:Rat)=(a:Rat)*(q.den:Rat):=by rw[←e2,←h4];grind
  have e4:((q.num*(d:Int):Int):Rat)=((a*(q.den:Int):Int):Rat):=by rw[axk,axk];exact e3
  exact Rat.intCast_inj.1 e4
 have k2:q.num.natAbs*d=a.natAbs*q.den:=by
  have:=congrArg Int.natAbs k;simpa[axm] using this
 have dv:q.den ∣ d:=Nat.Coprime.dvd_of_dvd_mul_left (q.reduced.symm) ⟨a.natAbs,by rw[k2,Nat.mul_comm]⟩;have le:q.den<=d:=Nat.le_of_dvd h1 dv;refine⟨?_,axd le h2⟩;have:q.num.natAbs*d<=a.natAbs*d:=by rw[k2];exact axl _ le
 exact axd (Nat.le_of_mul_le_mul_right this h1) h3
def BQ.self(q:Rat){n m:Nat}(h1:q.num.natAbs<2^n)(h2:q.den<2^m):BQ q n m:=by
 refine⟨q.num,q.den,q.den_pos,h2,h1,?_⟩;have e:=Rat.num_divInt_den q;rw[Rat.divInt_eq_div] at e;have hd:=Kah q.den_pos;have:q*(q.den:Rat)=(q.num:Rat)/((q.den:Int):Rat)*(q.den:Rat):=by rw[e]
 rw[this,show((q.den:Int):Rat)=(q.den:Rat) from rfl];grind
def fN(l1 l2:Rat):Rat:=l1*l1+l2*l2
def fV(l1 l2 l3 g0 g1 g2:Rat):Rat:=(-g1/g0*l1-g2/g0*l2)*2+l3
def fQ(l1 l2 l3 g0 g1 g2 g3:Rat):Rat:=(Qam g0 g1 g2 g3 g0 g1 g2 g3/(g0*g0)-fV l1 l2 l3 g0 g1 g2*fV l1 l2 l3 g0 g1 g2/(fN l1 l2*4))/fN l1 l2
def fX(l1 l2 l3 g0 g1 g2 t:Rat):QC:=ctX l1 l2 (-g1/g0) (g2/g0) (fV l1 l2 l3 g0 g1 g2) (fN l1 l2) t
def Ukq(x:Rat):(0:Rat)/x=0:=by rw[Rat.div_def,Rat.zero_mul]
def Ura(a b e d c:Rat)(z:QC):vl (a/c) (b/c) (e/c) (d/c) z=vl a b e d z/c:=by
 unfold vl;grind
def Udm(a b e d c f0 f1 f2 f3:Rat):Qam (a/c) (b/c) (e/c) (d/c) f0 f1 f2 f3=Qam a b e d f0 f1 f2 f3/c:=by
 unfold Qam;grind
def Upz(a b e d c:Rat):Qam (a/c) (b/c) (e/c) (d/c) (a/c) (b/c) (e/c) (d/c)=Qam a b e d a b e d/(c*c):=by
 have h:∀ x:Rat,x/(c*c)=x*(c⁻¹*c⁻¹):=fun x=>by rw[Rat.div_def,Rat.inv_mul_rev]
 rw[h,show a/c=a*c⁻¹ from Rat.div_def _ _,show b/c=b*c⁻¹ from Rat.div_def _ _,show e/c=e*c⁻¹ from Rat.div_def _ _,show d/c=d*c⁻¹ from Rat.div_def _ _];unfold Qam;grind
end Go.Proofs.YtmimficdpfmfgaaGreat
namespace Go.Proofs.YtmimficdpfmfgaaGreat
open Go.RowKit Tr
def Uef{n k:Nat}(h:(Qcg n).size<=4*k):(Qac n).length<=k:=by
 refine Qal ?_;have h1:=Kef (Qcg n);rw[Qdy] at h1;refine axc h1 ?_;rw[show(4294967296:Nat)=256^4 from by decide,<-Nat.pow_mul];exact axg (by decide) h
def Qao{q:Rat}(h:Qag q):RL q 256:=⟨Uef h.1,Uef h.2⟩
def Qmm{z:QC}(h:Qaj z):ZL z 256:=⟨Qao h.1,Qao h.2⟩
def Qos(q:Rat)(hq:RL q 134217728)(h:¬Qer q):SCt 192 [.c (gr q)] (.tup [.c ga,gFf]) :=
 Qnm eo192 fun w A u hR hA hu=>by
  by_cases h0:q<0
  .refine(Kix q h0 u A w hu).mono ?_;rintro e w' ⟨rfl,hb⟩;exact⟨_,rfl,⟨[.pointer none,.bool false],rfl,⟨rfl,fun _ _ e=>by cases e⟩,rfl,trivial⟩,hb⟩
  .replace h0:=Rat.not_lt.1 h0;obtain⟨r1,r2⟩:=(Qov q.num.natAbs).choose_spec;obtain⟨d1,d2⟩:=(Qov q.den).choose_spec;obtain⟨e1,e2,e3⟩:=Qtf h0 r1 r2 d1 d2;refine(Kiz q h0 _ _ r1 r2 d1 d2 e2 false (Iff.intro (fun k=>Bool.noConfusion k) (fun k=>(h ⟨_,Rat.divInt_nonneg (Int.natCast_nonneg _) (Int.natCast_nonneg _),k⟩).elim)) u A w hu (hR rfl) 134217728 hq lr).mono ?_;rintro e w' ⟨m,rfl,hb,h1⟩;exact⟨_,rfl,⟨[_,.bool false],rfl,⟨rfl,fun _ _ e=>by cases e⟩,rfl,trivial⟩,hb⟩
