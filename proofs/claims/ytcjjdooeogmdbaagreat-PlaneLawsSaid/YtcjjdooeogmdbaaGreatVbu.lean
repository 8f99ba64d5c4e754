/- Laws. -/
import Derived.Test.YtcjjdooeogmdbaaGreatVbt
set_option linter.all false
set_option maxHeartbeats 4000000
set_option maxRecDepth 100000
namespace Go.Proofs.YtcjjdooeogmdbaaGreat
open Go.RowKit Tr Proofs.Tryz
open Classical
def IF.comb{a b e d u0 u1 u2 u3:Rat}{n m:Nat}(hU:IF u0 u1 u2 u3 n)(hC:IF a b e d m):∃ k:Rat,k≠0/\IZ (k*(u1*a-b*u0)) (n+m+1)/\IZ (k*(u2*a-e*u0)) (n+m+1)/\IZ (k*(u3*a-d*u0)) (n+m+1):=by
 obtain⟨p,p0,p1,p2,p3,p4⟩:=hU;obtain⟨q,q0,q1,q2,q3,q4⟩:=hC;have g:∀ x y:Rat,p*q*(x*a-y*u0)=p*x*(q*a)-q*y*(p*u0):=fun x y=>by grind
 refine⟨p*q,fun e=>by rcases Rat.mul_eq_zero.1 e with e|e;exact p0 e;exact q0 e,?_,?_,?_⟩
 .rw[g];exact(p2.mul q1).sub (q2.mul p1) (by omega) (by omega)
 .rw[g];exact(p3.mul q1).sub (q3.mul p1) (by omega) (by omega)
 .rw[g];exact(p4.mul q1).sub (q4.mul p1) (by omega) (by omega)
def IF.tail{a b e d:Rat}{n:Nat}(h:IF a b e d n):∃ k:Rat,k≠0/\IZ (k*b) n/\IZ (k*e) n/\IZ (k*d) n:=by
 obtain⟨p,p0,p1,p2,p3,p4⟩:=h;exact⟨p,p0,p2,p3,p4⟩
def d11(x:Rat):x/(1*1)=x:=by grind
def d1(x:Rat):x/1=x:=by grind
def Ulf(v:V5)(ha:v.a=1)(he:v.e=0)(C:CO v.a v.b v.e v.d)(hI:IF v.a v.b v.e v.d 330)(bz:Bt v.z)(hz:0<v.z.im)(hu:(Qbp v)=0):hFn 1 (Qea v.a) (Qah ⟨v.b,v.e⟩) (Qea v.d) v.z\/∃ x,Qac x/\Qhm 1 v.a v.b v.e v.d v.z x/\hFy 1 (Qea v.a) (Qah ⟨v.b,v.e⟩) (Qea v.d) v.z x:=by
 have iU:IF (Qbp v) (Qcw v) (Qcx v) (Qdz v) 498:=bz.upr (p:=1) hI;have hPU:0<Qao (Qbp v) (Qcw v) (Qcx v) (Qdz v) (Qbp v) (Qcw v) (Qcx v) (Qdz v):=Klk he hz C.hp;have hq:Qao v.a v.b v.e v.d 0 0 1 0=0:=by rw[ha,he];unfold Qao;grind
 have hp:=C.hp;have eU:upr 1 v.a v.b v.e v.d v.z=((Qbp v),(Qcw v),(Qcx v),(Qdz v)):=rfl;have eP:=Uxc v;have eM:=Uxb v;have eQ:=Url v;have en:=Ups v;have mk:=fun(hN:¬(nm (Qla v)=0)) (y0:Qac (Kav v)) (y1:Qac (Ucc v))=>(⟨C.bd bz.sh,Qgz hz,sg0 hq,(by rw[ha];decide +kernel),(sg0 hu),hN,y0,y1,C.wh⟩:Kcu v)
 simp only[ha,he] at hI hp eU eP eM eQ;rw[show Qhm 1 v.a v.b v.e v.d v.z=Qhm 1 1 v.b 0 v.d v.z from by rw[ha,he]];have hN:fN (Qcw v) (Qcx v)≠0:=by
  have k:=hPU;rw[hu] at k;have e:Qao 0 (Qcw v) (Qcx v) (Qdz v) 0 (Qcw v) (Qcx v) (Qdz v)=fN (Qcw v) (Qcx v):=by unfold Qao fN;grind
  rw[e] at k;exact pne k
 have y0:Qac (Kav v):=by rw[eP];exact Qra (G:=330) iU.tail hI (by decide) hN (Qrc _).1 (by decide) (by decide)
 have y1:Qac (Ucc v):=by rw[eM];exact Qra (G:=330) iU.tail hI (by decide) hN (Qrc _).2 (by decide) (by decide)
 have H:=mk (by rw[en];exact hN) y0 y1
 by_cases hr:Qjx (Kwp v)
 .have ht:sqr (fQ (Qcw v) (Qcx v) (Qdz v) 1 v.b 0 v.d)*sqr (fQ (Qcw v) (Qcx v) (Qdz v) 1 v.b 0 v.d)=fQ (Qcw v) (Qcx v) (Qdz v) 1 v.b 0 v.d:=by rw[<-eQ];exact(Qlq hr).2
  have F:(0<(fX (Qcw v) (Qcx v) (Qdz v) 1 v.b 0 (sqr (fQ (Qcw v) (Qcx v) (Qdz v) 1 v.b 0 v.d))).im->Qhm 1 1 v.b 0 v.d v.z (fX (Qcw v) (Qcx v) (Qdz v) 1 v.b 0 (sqr (fQ (Qcw v) (Qcx v) (Qdz v) 1 v.b 0 v.d))))/\(¬0<(fX (Qcw v) (Qcx v) (Qdz v) 1 v.b 0 (sqr (fQ (Qcw v) (Qcx v) (Qdz v) 1 v.b 0 v.d))).im->Qhm 1 1 v.b 0 v.d v.z (fX (Qcw v) (Qcx v) (Qdz v) 1 v.b 0 (-sqr (fQ (Qcw v) (Qcx v) (Qdz v) 1 v.b 0 v.d)))):=Uto hz hp (u1:=(Qcw v)) (u2:=(Qcx v)) (u3:=(Qdz v)) (by rw[eU,hu]) (N:=fN (Qcw v) (Qcx v)) rfl (r:=-v.b/1) (d1 _) (s:=0/1) (d1 _) (v:=fV (Qcw v) (Qcx v) (Qdz v) 1 v.b 0) rfl (R:=Qao 1 v.b 0 v.d 1 v.b 0 v.d/(1*1)) (d11 _) ht;rw[<-eP,<-eM] at F
  by_cases h1:0<(Kav v).im
  .exact .inr ⟨_,y0,F.1 h1,Uac v H hr (Qfp.2 h1)⟩
  .exact .inr ⟨_,y1,F.2 h1,Uad v H hr (fun k=>h1 (Qfp.1 k))⟩
 .exact .inl (Uae v H hr)
def Ulh(v:V5)(ha:v.a=1)(he:v.e=0)(C:CO v.a v.b v.e v.d)(hI:IF v.a v.b v.e v.d 330)(bz:Bt v.z)(hz:0<v.z.im)(hu:(Qbp v)≠0):hFn 1 (Qea v.a) (Qah ⟨v.b,v.e⟩) (Qea v.d) v.z\/∃ x,Qac x/\Qhm 1 v.a v.b v.e v.d v.z x/\hFy 1 (Qea v.a) (Qah ⟨v.b,v.e⟩) (Qea v.d) v.z x:=by
 have iU:IF (Qbp v) (Qcw v) (Qcx v) (Qdz v) 498:=bz.upr (p:=1) hI;have hPU:0<Qao (Qbp v) (Qcw v) (Qcx v) (Qdz v) (Qbp v) (Qcw v) (Qcx v) (Qdz v):=Klk he hz C.hp;have hq:Qao v.a v.b v.e v.d 0 0 1 0=0:=by rw[ha,he];unfold Qao;grind
 have hp:=C.hp;have eU:upr 1 v.a v.b v.e v.d v.z=((Qbp v),(Qcw v),(Qcx v),(Qdz v)):=rfl;have eP:=Uxg v;have eM:=Uxf v;have eQ:=Urp v;have en:=Upu v;have mk:=fun(hN:¬(nm (Qnn v)=0)) (y0:Qac (Kax v)) (y1:Qac (Ucd v))=>(⟨C.bd bz.sh,Qgz hz,sg0 hq,(by rw[ha];decide +kernel),(fun k=>hu (sgz k)),hN,y0,y1,C.wh⟩:Kcw v)
 simp only[ha,he] at hI hp eU eP eM eQ en;rw[show Qhm 1 v.a v.b v.e v.d v.z=Qhm 1 1 v.b 0 v.d v.z from by rw[ha,he]];have hN:fN ((Qcw v)*1-v.b*(Qbp v)) ((Qcx v)*1-0*(Qbp v))≠0:=pne (Ucz hPU (by have k:=Qoq 1 1 v.b 0 v.d v.z (by simp);rw[eU] at k;exact k) hp);have y0:Qac (Kax v):=by rw[eP];exact Qra (G:=330) (iU.comb hI) hI (by decide) hN (Qrc _).1 (by decide) (by decide)
 have y1:Qac (Ucd v):=by rw[eM];exact Qra (G:=330) (iU.comb hI) hI (by decide) hN (Qrc _).2 (by decide) (by decide)
 have H:=mk (by rw[en];exact hN) y0 y1
 by_cases hr:Qjx (Kxb v)
 .have ht:sqr (fQ ((Qcw v)*1-v.b*(Qbp v)) ((Qcx v)*1-0*(Qbp v)) ((Qdz v)*1-v.d*(Qbp v)) 1 v.b 0 v.d)*sqr (fQ ((Qcw v)*1-v.b*(Qbp v)) ((Qcx v)*1-0*(Qbp v)) ((Qdz v)*1-v.d*(Qbp v)) 1 v.b 0 v.d)=fQ ((Qcw v)*1-v.b*(Qbp v)) ((Qcx v)*1-0*(Qbp v)) ((Qdz v)*1-v.d*(Qbp v)) 1 v.b 0 v.d:=by rw[<-eQ];exact(Qlq hr).2
  have F:(0<(fX ((Qcw v)*1-v.b*(Qbp v)) ((Qcx v)*1-0*(Qbp v)) ((Qdz v)*1-v.d*(Qbp v)) 1 v.b 0 (sqr (fQ ((Qcw v)*1-v.b*(Qbp v)) ((Qcx v)*1-0*(Qbp v)) ((Qdz v)*1-v.d*(Qbp v)) 1 v.b 0 v.d))).im->Qhm 1 1 v.b 0 v.d v.z (fX ((Qcw v)*1-v.b*(Qbp v)) ((Qcx v)*1-0*(Qbp v)) ((Qdz v)*1-v.d*(Qbp v)) 1 v.b 0 (sqr (fQ ((Qcw v)*1-v.b*(Qbp v)) ((Qcx v)*1-0*(Qbp v)) ((Qdz v)*1-v.d*(Qbp v)) 1 v.b 0 v.d))))/\(¬0<(fX ((Qcw v)*1-v.b*(Qbp v)) ((Qcx v)*1-0*(Qbp v)) ((Qdz v)*1-v.d*(Qbp v)) 1 v.b 0 (sqr (fQ ((Qcw v)*1-v.b*(Qbp v)) ((Qcx v)*1-0*(Qbp v)) ((Qdz v)*1-v.d*(Qbp v)) 1 v.b 0 v.d))).im->Qhm 1 1 v.b 0 v.d v.z (fX ((Qcw v)*1-v.b*(Qbp v)) ((Qcx v)*1-0*(Qbp v)) ((Qdz v)*1-v.d*(Qbp v)) 1 v.b 0 (-sqr (fQ ((Qcw v)*1-v.b*(Qbp v)) ((Qcx v)*1-0*(Qbp v)) ((Qdz v)*1-v.d*(Qbp v)) 1 v.b 0 v.d)))):=by
   have F:=Utp hz hp (u0:=(Qbp v)) (u1:=(Qcw v)) (u2:=(Qcx v)) (u3:=(Qdz v)) eU (N:=fN ((Qcw v)-v.b*(Qbp v)) ((Qcx v)-0*(Qbp v))) rfl (r:=-v.b/1) (d1 _) (s:=0/1) (d1 _) (v:=fV ((Qcw v)-v.b*(Qbp v)) ((Qcx v)-0*(Qbp v)) ((Qdz v)-v.d*(Qbp v)) 1 v.b 0) rfl (R:=Qao 1 v.b 0 v.d 1 v.b 0 v.d/(1*1)) (d11 _) (t:=sqr (fQ ((Qcw v)-v.b*(Qbp v)) ((Qcx v)-0*(Qbp v)) ((Qdz v)-v.d*(Qbp v)) 1 v.b 0 v.d)) (by simp only[Rat.mul_one] at ht;exact ht);simp only[Rat.mul_one];exact F
  rw[<-eP,<-eM] at F
  by_cases h1:0<(Kax v).im
  .exact .inr ⟨_,y0,F.1 h1,Uah v H hr (Qfp.2 h1)⟩
  .exact .inr ⟨_,y1,F.2 h1,Uai v H hr (fun k=>h1 (Qfp.1 k))⟩
 .exact .inl (Uaj v H hr)
def Ulg(v:V5)(ha:v.a=0)(hb:v.b=1)(he:v.e=0)(C:CO v.a v.b v.e v.d)(hI:IF v.a v.b v.e v.d 330)(bz:Bt v.z)(hz:0<v.z.im)(hu:(Qbp v)≠0):hFn 1 (Qea v.a) (Qah ⟨v.b,v.e⟩) (Qea v.d) v.z\/∃ x,Qac x/\Qhm 1 v.a v.b v.e v.d v.z x/\hFy 1 (Qea v.a) (Qah ⟨v.b,v.e⟩) (Qea v.d) v.z x:=by
 have iU:IF (Qbp v) (Qcw v) (Qcx v) (Qdz v) 498:=bz.upr (p:=1) hI;have hPU:0<Qao (Qbp v) (Qcw v) (Qcx v) (Qdz v) (Qbp v) (Qcw v) (Qcx v) (Qdz v):=Klk he hz C.hp;have hq:Qao v.a v.b v.e v.d 0 0 1 0=0:=by rw[ha,hb,he];unfold Qao;grind
 have hp:=C.hp;have eU:upr 1 v.a v.b v.e v.d v.z=((Qbp v),(Qcw v),(Qcx v),(Qdz v)):=rfl;have eP:=Uxe v;have eM:=Uxd v;have eQ:=Urn v;have en:=Upt v;have mk:=fun(hN:¬(nm (Qdt v)=0)) (y0:Qac (Qvj v)) (y1:Qac (Kwh v))=>(⟨C.bd bz.sh,Qgz hz,sg0 hq,(sg0 ha),(fun k=>hu (sgz k)),hN,y0,y1,C.wh⟩:Kcv v)
 simp only[ha,hb,he] at hI hp eU eP eM eQ en;rw[show Qhm 1 v.a v.b v.e v.d v.z=Qhm 1 0 1 0 v.d v.z from by rw[ha,hb,he]];have hN:fN 1 0≠0:=by decide +kernel
 have y0:Qac (Qvj v):=by rw[eP];exact Qra (G:=498) hI.tail iU hu hN (Qrc _).1 (by decide) (by decide)
 have y1:Qac (Kwh v):=by rw[eM];exact Qra (G:=498) hI.tail iU hu hN (Qrc _).2 (by decide) (by decide)
 have H:=mk (by rw[en];exact hN) y0 y1
 by_cases hr:Qjx (Kpj v)
 .have ht:sqr (fQ 1 0 v.d (Qbp v) (Qcw v) (Qcx v) (Qdz v))*sqr (fQ 1 0 v.d (Qbp v) (Qcw v) (Qcx v) (Qdz v))=fQ 1 0 v.d (Qbp v) (Qcw v) (Qcx v) (Qdz v):=by rw[<-eQ];exact(Qlq hr).2
  have F:(0<(fX 1 0 v.d (Qbp v) (Qcw v) (Qcx v) (sqr (fQ 1 0 v.d (Qbp v) (Qcw v) (Qcx v) (Qdz v)))).im->Qhm 1 0 1 0 v.d v.z (fX 1 0 v.d (Qbp v) (Qcw v) (Qcx v) (sqr (fQ 1 0 v.d (Qbp v) (Qcw v) (Qcx v) (Qdz v)))))/\(¬0<(fX 1 0 v.d (Qbp v) (Qcw v) (Qcx v) (sqr (fQ 1 0 v.d (Qbp v) (Qcw v) (Qcx v) (Qdz v)))).im->Qhm 1 0 1 0 v.d v.z (fX 1 0 v.d (Qbp v) (Qcw v) (Qcx v) (-sqr (fQ 1 0 v.d (Qbp v) (Qcw v) (Qcx v) (Qdz v))))):=Utq hz (u0:=(Qbp v)) (u1:=(Qcw v)) (u2:=(Qcx v)) (u3:=(Qdz v)) eU hu (N:=fN 1 0) rfl (r:=-(Qcw v)/(Qbp v)) rfl (s:=(Qcx v)/(Qbp v)) rfl (v:=fV 1 0 v.d (Qbp v) (Qcw v) (Qcx v)) rfl (R:=Qao (Qbp v) (Qcw v) (Qcx v) (Qdz v) (Qbp v) (Qcw v) (Qcx v) (Qdz v)/((Qbp v)*(Qbp v))) rfl ht;rw[<-eP,<-eM] at F
  by_cases h1:0<(Qvj v).im
  .exact .inr ⟨_,y0,F.1 h1,Kjr v H hr (Qfp.2 h1)⟩
  .exact .inr ⟨_,y1,F.2 h1,Uaf v H hr (fun k=>h1 (Qfp.1 k))⟩
 .exact .inl (Uag v H hr)
def Uli(v:V5)(ha:v.a=1)(hd:v.d=1)(C:CO v.a v.b v.e v.d)(hI:IF v.a v.b v.e v.d 330)(bz:Bt v.z)(hz:0<1-nm v.z)(hu:(Qbm v)=0):hFn 2 (Qea v.a) (Qah ⟨v.b,v.e⟩) (Qea v.d) v.z\/∃ x,Qac x/\Qhm 2 v.a v.b v.e v.d v.z x/\hFy 2 (Qea v.a) (Qah ⟨v.b,v.e⟩) (Qea v.d) v.z x:=by
 have iU:IF (Qbm v) (Qcu v) (Qcv v) (Qdx v) 498:=bz.upr (p:=2) hI;have hPU:0<Qao (Qbm v) (Qcu v) (Qcv v) (Qdx v) (Qbm v) (Qcu v) (Qcv v) (Qdx v):=Kll (by rw[ha,hd]) hz C.hp;have hq:Qao v.a v.b v.e v.d 1 0 0 (-1)=0:=by rw[ha,hd];unfold Qao;grind
 have hp:=C.hp;have eU:upr 2 v.a v.b v.e v.d v.z=((Qbm v),(Qcu v),(Qcv v),(Qdx v)):=rfl;have eP:=Uxi v;have eM:=Uxh v;have eQ:=Urr v;have en:=Upv v;have mk:=fun(hN:¬(nm (Qlb v)=0)) (y0:Qac (Qrh v)) (y1:Qac (Kao v))=>(⟨C.bd bz.sh,Qgz hz,sg0 hq,(by rw[ha];decide +kernel),(sg0 hu),hN,y0,y1,C.wh⟩:Kcx v)
 simp only[ha,hd] at hI hp eU eP eM eQ;rw[show Qhm 2 v.a v.b v.e v.d v.z=Qhm 2 1 v.b v.e 1 v.z from by rw[ha,hd]];have hN:fN (Qcu v) (Qcv v)≠0:=by
  have k:=hPU;rw[hu] at k;have e:Qao 0 (Qcu v) (Qcv v) (Qdx v) 0 (Qcu v) (Qcv v) (Qdx v)=fN (Qcu v) (Qcv v):=by unfold Qao fN;grind
  rw[e] at k;exact pne k
 have y0:Qac (Qrh v):=by rw[eP];exact Qra (G:=330) iU.tail hI (by decide) hN (Qrc _).1 (by decide) (by decide)
 have y1:Qac (Kao v):=by rw[eM];exact Qra (G:=330) iU.tail hI (by decide) hN (Qrc _).2 (by decide) (by decide)
 have H:=mk (by rw[en];exact hN) y0 y1
 by_cases hr:Qjx (Qun v)
 .have ht:sqr (fQ (Qcu v) (Qcv v) (Qdx v) 1 v.b v.e 1)*sqr (fQ (Qcu v) (Qcv v) (Qdx v) 1 v.b v.e 1)=fQ (Qcu v) (Qcv v) (Qdx v) 1 v.b v.e 1:=by rw[<-eQ];exact(Qlq hr).2
  have F:(0<1-nm (fX (Qcu v) (Qcv v) (Qdx v) 1 v.b v.e (sqr (fQ (Qcu v) (Qcv v) (Qdx v) 1 v.b v.e 1)))->Qhm 2 1 v.b v.e 1 v.z (fX (Qcu v) (Qcv v) (Qdx v) 1 v.b v.e (sqr (fQ (Qcu v) (Qcv v) (Qdx v) 1 v.b v.e 1))))/\(¬0<1-nm (fX (Qcu v) (Qcv v) (Qdx v) 1 v.b v.e (sqr (fQ (Qcu v) (Qcv v) (Qdx v) 1 v.b v.e 1)))->Qhm 2 1 v.b v.e 1 v.z (fX (Qcu v) (Qcv v) (Qdx v) 1 v.b v.e (-sqr (fQ (Qcu v) (Qcv v) (Qdx v) 1 v.b v.e 1)))):=Ulq hz hp (u1:=(Qcu v)) (u2:=(Qcv v)) (u3:=(Qdx v)) (by rw[eU,hu]) (N:=fN (Qcu v) (Qcv v)) rfl (r:=-v.b/1) (d1 _) (s:=v.e/1) (d1 _) (v:=fV (Qcu v) (Qcv v) (Qdx v) 1 v.b v.e) rfl (R:=Qao 1 v.b v.e 1 1 v.b v.e 1/(1*1)) (d11 _) ht;rw[<-eP,<-eM] at F
  by_cases h1:0<1-nm (Qrh v)
  .exact .inr ⟨_,y0,F.1 h1,Uak v H hr (Qfp.2 h1)⟩
  .exact .inr ⟨_,y1,F.2 h1,Ual v H hr (fun k=>h1 (Qfp.1 k))⟩
 .exact .inl (Uam v H hr)
def Ulk(v:V5)(ha:v.a=1)(hd:v.d=1)(C:CO v.a v.b v.e v.d)(hI:IF v.a v.b v.e v.d 330)(bz:Bt v.z)(hz:0<1-nm v.z)(hu:(Qbm v)≠0):hFn 2 (Qea v.a) (Qah ⟨v.b,v.e⟩) (Qea v.d) v.z\/∃ x,Qac x/\Qhm 2 v.a v.b v.e v.d v.z x/\hFy 2 (Qea v.a) (Qah ⟨v.b,v.e⟩) (Qea v.d) v.z x:=by
 have iU:IF (Qbm v) (Qcu v) (Qcv v) (Qdx v) 498:=bz.upr (p:=2) hI;have hPU:0<Qao (Qbm v) (Qcu v) (Qcv v) (Qdx v) (Qbm v) (Qcu v) (Qcv v) (Qdx v):=Kll (by rw[ha,hd]) hz C.hp;have hq:Qao v.a v.b v.e v.d 1 0 0 (-1)=0:=by rw[ha,hd];unfold Qao;grind
 have hp:=C.hp;have eU:upr 2 v.a v.b v.e v.d v.z=((Qbm v),(Qcu v),(Qcv v),(Qdx v)):=rfl;have eP:=Uxm v;have eM:=Uxl v;have eQ:=Urv v;have en:=Upx v;have mk:=fun(hN:¬(nm (Qgu v)=0)) (y0:Qac (Qrk v)) (y1:Qac (Kar v))=>(⟨C.bd bz.sh,Qgz hz,sg0 hq,(by rw[ha];decide +kernel),(fun k=>hu (sgz k)),hN,y0,y1,C.wh⟩:Kcz v)
 simp only[ha,hd] at hI hp eU eP eM eQ en;rw[show Qhm 2 v.a v.b v.e v.d v.z=Qhm 2 1 v.b v.e 1 v.z from by rw[ha,hd]];have hN:fN ((Qcu v)*1-v.b*(Qbm v)) ((Qcv v)*1-v.e*(Qbm v))≠0:=pne (Ucz hPU (by have k:=Qoq 2 1 v.b v.e 1 v.z (by simp);rw[eU] at k;exact k) hp);have y0:Qac (Qrk v):=by rw[eP];exact Qra (G:=330) (iU.comb hI) hI (by decide) hN (Qrc _).1 (by decide) (by decide)
 have y1:Qac (Kar v):=by rw[eM];exact Qra (G:=330) (iU.comb hI) hI (by decide) hN (Qrc _).2 (by decide) (by decide)
 have H:=mk (by rw[en];exact hN) y0 y1
 by_cases hr:Qjx (Qup v)
 .have ht:sqr (fQ ((Qcu v)*1-v.b*(Qbm v)) ((Qcv v)*1-v.e*(Qbm v)) ((Qdx v)*1-1*(Qbm v)) 1 v.b v.e 1)*sqr (fQ ((Qcu v)*1-v.b*(Qbm v)) ((Qcv v)*1-v.e*(Qbm v)) ((Qdx v)*1-1*(Qbm v)) 1 v.b v.e 1)=fQ ((Qcu v)*1-v.b*(Qbm v)) ((Qcv v)*1-v.e*(Qbm v)) ((Qdx v)*1-1*(Qbm v)) 1 v.b v.e 1:=by rw[<-eQ];exact(Qlq hr).2
  have F:(0<1-nm (fX ((Qcu v)*1-v.b*(Qbm v)) ((Qcv v)*1-v.e*(Qbm v)) ((Qdx v)*1-1*(Qbm v)) 1 v.b v.e (sqr (fQ ((Qcu v)*1-v.b*(Qbm v)) ((Qcv v)*1-v.e*(Qbm v)) ((Qdx v)*1-1*(Qbm v)) 1 v.b v.e 1)))->Qhm 2 1 v.b v.e 1 v.z (fX ((Qcu v)*1-v.b*(Qbm v)) ((Qcv v)*1-v.e*(Qbm v)) ((Qdx v)*1-1*(Qbm v)) 1 v.b v.e (sqr (fQ ((Qcu v)*1-v.b*(Qbm v)) ((Qcv v)*1-v.e*(Qbm v)) ((Qdx v)*1-1*(Qbm v)) 1 v.b v.e 1))))/\(¬0<1-nm (fX ((Qcu v)*1-v.b*(Qbm v)) ((Qcv v)*1-v.e*(Qbm v)) ((Qdx v)*1-1*(Qbm v)) 1 v.b v.e (sqr (fQ ((Qcu v)*1-v.b*(Qbm v)) ((Qcv v)*1-v.e*(Qbm v)) ((Qdx v)*1-1*(Qbm v)) 1 v.b v.e 1)))->Qhm 2 1 v.b v.e 1 v.z (fX ((Qcu v)*1-v.b*(Qbm v)) ((Qcv v)*1-v.e*(Qbm v)) ((Qdx v)*1-1*(Qbm v)) 1 v.b v.e (-sqr (fQ ((Qcu v)*1-v.b*(Qbm v)) ((Qcv v)*1-v.e*(Qbm v)) ((Qdx v)*1-1*(Qbm v)) 1 v.b v.e 1)))):=by
   have F:=Ulr hz hp (u0:=(Qbm v)) (u1:=(Qcu v)) (u2:=(Qcv v)) (u3:=(Qdx v)) eU (N:=fN ((Qcu v)-v.b*(Qbm v)) ((Qcv v)-v.e*(Qbm v))) rfl (r:=-v.b/1) (d1 _) (s:=v.e/1) (d1 _) (v:=fV ((Qcu v)-v.b*(Qbm v)) ((Qcv v)-v.e*(Qbm v)) ((Qdx v)-1*(Qbm v)) 1 v.b v.e) rfl (R:=Qao 1 v.b v.e 1 1 v.b v.e 1/(1*1)) (d11 _) (t:=sqr (fQ ((Qcu v)-v.b*(Qbm v)) ((Qcv v)-v.e*(Qbm v)) ((Qdx v)-1*(Qbm v)) 1 v.b v.e 1)) (by simp only[Rat.mul_one] at ht;exact ht);simp only[Rat.mul_one];exact F
  rw[<-eP,<-eM] at F
  by_cases h1:0<1-nm (Qrk v)
  .exact .inr ⟨_,y0,F.1 h1,Uaq v H hr (Qfp.2 h1)⟩
  .exact .inr ⟨_,y1,F.2 h1,Uar v H hr (fun k=>h1 (Qfp.1 k))⟩
 .exact .inl (Uas v H hr)
def Ulj(v:V5)(ha:v.a=0)(hd:v.d=0)(C:CO v.a v.b v.e v.d)(hI:IF v.a v.b v.e v.d 330)(bz:Bt v.z)(hz:0<1-nm v.z)(hu:(Qbm v)≠0):hFn 2 (Qea v.a) (Qah ⟨v.b,v.e⟩) (Qea v.d) v.z\/∃ x,Qac x/\Qhm 2 v.a v.b v.e v.d v.z x/\hFy 2 (Qea v.a) (Qah ⟨v.b,v.e⟩) (Qea v.d) v.z x:=by
 have iU:IF (Qbm v) (Qcu v) (Qcv v) (Qdx v) 498:=bz.upr (p:=2) hI;have hPU:0<Qao (Qbm v) (Qcu v) (Qcv v) (Qdx v) (Qbm v) (Qcu v) (Qcv v) (Qdx v):=Kll (by rw[ha,hd]) hz C.hp;have hq:Qao v.a v.b v.e v.d 1 0 0 (-1)=0:=by rw[ha,hd];unfold Qao;grind
 have hp:=C.hp;have eU:upr 2 v.a v.b v.e v.d v.z=((Qbm v),(Qcu v),(Qcv v),(Qdx v)):=rfl;have eP:=Uxk v;have eM:=Uxj v;have eQ:=Urt v;have en:=Upw v;have mk:=fun(hN:¬(nm (Qdt v)=0)) (y0:Qac (Qre v)) (y1:Qac (Kal v))=>(⟨C.bd bz.sh,Qgz hz,sg0 hq,(sg0 ha),(fun k=>hu (sgz k)),hN,y0,y1,C.wh⟩:Kcy v)
 simp only[ha,hd] at hI hp eU eP eM eQ en;rw[show Qhm 2 v.a v.b v.e v.d v.z=Qhm 2 0 v.b v.e 0 v.z from by rw[ha,hd]];have hN:fN v.b v.e≠0:=by
  have e:Qao 0 v.b v.e 0 0 v.b v.e 0=fN v.b v.e:=by unfold Qao fN;grind
  rw[e] at hp;exact pne hp
 have y0:Qac (Qre v):=by rw[eP];exact Qra (G:=498) hI.tail iU hu hN (Qrc _).1 (by decide) (by decide)
 have y1:Qac (Kal v):=by rw[eM];exact Qra (G:=498) hI.tail iU hu hN (Qrc _).2 (by decide) (by decide)
 have H:=mk (by rw[en];exact hN) y0 y1
 by_cases hr:Qjx (Qum v)
 .have ht:sqr (fQ v.b v.e 0 (Qbm v) (Qcu v) (Qcv v) (Qdx v))*sqr (fQ v.b v.e 0 (Qbm v) (Qcu v) (Qcv v) (Qdx v))=fQ v.b v.e 0 (Qbm v) (Qcu v) (Qcv v) (Qdx v):=by rw[<-eQ];exact(Qlq hr).2
  have F:(0<1-nm (fX v.b v.e 0 (Qbm v) (Qcu v) (Qcv v) (sqr (fQ v.b v.e 0 (Qbm v) (Qcu v) (Qcv v) (Qdx v))))->Qhm 2 0 v.b v.e 0 v.z (fX v.b v.e 0 (Qbm v) (Qcu v) (Qcv v) (sqr (fQ v.b v.e 0 (Qbm v) (Qcu v) (Qcv v) (Qdx v)))))/\(¬0<1-nm (fX v.b v.e 0 (Qbm v) (Qcu v) (Qcv v) (sqr (fQ v.b v.e 0 (Qbm v) (Qcu v) (Qcv v) (Qdx v))))->Qhm 2 0 v.b v.e 0 v.z (fX v.b v.e 0 (Qbm v) (Qcu v) (Qcv v) (-sqr (fQ v.b v.e 0 (Qbm v) (Qcu v) (Qcv v) (Qdx v))))):=Utn hz hp (u0:=(Qbm v)) (u1:=(Qcu v)) (u2:=(Qcv v)) (u3:=(Qdx v)) eU hu (N:=fN v.b v.e) rfl (r:=-(Qcu v)/(Qbm v)) rfl (s:=(Qcv v)/(Qbm v)) rfl (v:=fV v.b v.e 0 (Qbm v) (Qcu v) (Qcv v)) rfl (R:=Qao (Qbm v) (Qcu v) (Qcv v) (Qdx v) (Qbm v) (Qcu v) (Qcv v) (Qdx v)/((Qbm v)*(Qbm v))) rfl ht;rw[<-eP,<-eM] at F
  by_cases h1:0<1-nm (Qre v)
  .exact .inr ⟨_,y0,F.1 h1,Uan v H hr (Qfp.2 h1)⟩
  .exact .inr ⟨_,y1,F.2 h1,Uao v H hr (fun k=>h1 (Qfp.1 k))⟩
 .exact .inl (Uap v H hr)
def Ush{a b e d:Rat}{z:QC}(C:CO a b e d)(hI:IF a b e d 330)(he:e=0)(bz:Bt z)(hz:0<z.im):hFn 1 (Qea a) (Qah ⟨b,e⟩) (Qea d) z\/∃ v,Qac v/\Qhm 1 a b e d z v/\hFy 1 (Qea a) (Qah ⟨b,e⟩) (Qea d) z v:=by
 rcases C.nf with h|⟨h,h2⟩|⟨h,h2,h3⟩
 .by_cases hu:(Qbp ⟨a,b,e,d,z⟩)=0
  .exact Ulf ⟨a,b,e,d,z⟩ h he C hI bz hz hu
  .exact Ulh ⟨a,b,e,d,z⟩ h he C hI bz hz hu
 .refine Ulg ⟨a,b,e,d,z⟩ h h2 he C hI bz hz (fun hu=>?_);subst h;subst h2;subst he;have k:=Keb (a:=0) (b:=1) (d:=d) (z:=z) hz C.hp;have k2:=Qoq 1 0 1 0 d z (by simp);have k3:=Klh 0 1 d z;have k0:(upr 1 0 1 0 d z).1=0:=hu;rw[k0,k3] at k k2;generalize (upr 1 0 1 0 d z).2.1=x at *
  generalize (upr 1 0 1 0 d z).2.2.2=y at *
  unfold Qao at k k2;have:x=0:=by grind
  subst this;grind
 .rw[he] at h3;exact absurd h3 (by decide)
def Ull(b e:Rat)(z:QC)(C:CO 0 b e 0)(bz:Bt z)(hz:0<1-nm z)(hu:(Qbm ⟨0,b,e,0,z⟩)=0):∃ v,Qac v/\Qhm 2 0 b e 0 z v/\hFy 2 (Qea (0:Rat)) (Qah ⟨b,e⟩) (Qea 0) z v:=by
 refine⟨⟨0,0⟩,Qcq (by decide +kernel),⟨?_,?_,?_⟩,Uat ⟨0,b,e,0,z⟩ ⟨CO.bd (v:=⟨0,b,e,0,z⟩) C bz.sh,Qgz hz,sg0 (by show Qao 0 b e 0 1 0 0 (-1)=0;unfold Qao;grind),rfl,sg0 hu,C.wh⟩⟩
 .show 0<1-nm (⟨0,0⟩:QC);unfold nm;decide +kernel
 .unfold vl nm;grind
 .have k0:(upr 2 0 b e 0 z).1=0:=hu;have k3:=Kli 0 b e z;rw[k0] at k3;rw[k0,k3];unfold vl nm;grind
def Usi{a b e d:Rat}{z:QC}(C:CO a b e d)(hI:IF a b e d 330)(he:a=d)(bz:Bt z)(hz:0<1-nm z):hFn 2 (Qea a) (Qah ⟨b,e⟩) (Qea d) z\/∃ v,Qac v/\Qhm 2 a b e d z v/\hFy 2 (Qea a) (Qah ⟨b,e⟩) (Qea d) z v:=by
 by_cases hu:(Qbm ⟨a,b,e,d,z⟩)=0
 .rcases C.nf with h|h
  .exact Uli ⟨a,b,e,d,z⟩ h (he▸h) C hI bz hz hu
  .have h:a=0:=h.elim (fun k=>k.1) (fun k=>k.1);subst h;subst he;exact .inr (Ull b e z C bz hz hu)
 .rcases C.nf with h|h
  .exact Ulk ⟨a,b,e,d,z⟩ h (he▸h) C hI bz hz hu
  .have h:a=0:=h.elim (fun k=>k.1) (fun k=>k.1);exact Ulj ⟨a,b,e,d,z⟩ h (he▸h) C hI bz hz hu
def bFn{L:List GF}(x y:AR)(p q:Rat)(r:Bool)(hr:r=true↔p=q)(hx:x.gv L=some (Qgf p):=by kernel_rfl)(hy:y.gv L=some (Qgf q):=by kernel_rfl):GB prog L :=
 gb .neq 26 x y (.lit (.bool !r)) (Kqu (by kernel_rfl) (fun w=>Qwx w p q r hr)) hx hy rfl
def hFa(p:Int)(z x:QC)(a:Rat):Prop:=SCt 31 [.c (gxi p),.row (Qah z).cells,.row (Qah x).cells] (.tup [.row (rF a),gIi 0])
def hFb(p:Int)(x w:QC)(b:Rat):Prop:=SCt 31 [.c (gxi p),.row (Qah x).cells,.row (Qah w).cells] (.tup [.row (rF b),gIi 0])
def hFc(p:Int)(z w:QC)(c:Rat):Prop:=SCt 31 [.c (gxi p),.row (Qah z).cells,.row (Qah w).cells] (.tup [.row (rF c),gIi 0])
def hBt(p:Int)(x z w:QC):Prop:=SCt 79 [.c (gxi p),.row (Qah z).cells,.row (Qah x).cells,.row (Qah w).cells] (.tup [gTt,gIi 0])
def hBf(p:Int)(x z w:QC):Prop:=SCt 79 [.c (gxi p),.row (Qah z).cells,.row (Qah x).cells,.row (Qah w).cells] (.tup [gFf,gIi 0])
def hA(p:Int)(x:QC)(a:Rat)(oa:Qgq)(ob:Qeb)(oc:Qgq):Prop:=SCt 83 [.c (gxi p),.row (Qah x).cells,.row (rF a)] (.tup [.row (oa.cells++ob.cells++oc.cells),gIi 0])
def hOz(oa:Qgq)(ob:Qeb)(oc:Qgq)(z:QC):Prop:=SMt 27 [([gl (.bool false)]++(Qah z).cells,59)] [.f (.row (oa.cells++ob.cells++oc.cells)),.sl 0 0 1 1] (.tup [gTt,gIi 0])
def hG(p:Int)(x z w:QC)(q:Rat)(s:Int):Prop:=SCt 39 [.c (gxi p),.row (Qah x).cells,.row (Qah z).cells,.row (Qah w).cells] (.tup [.row (rF q),.c (gxi s),gIi 0])
def wx1(a b:Rat):Rat:=((a*a)-(1:Rat))*((b*b)-(1:Rat))
def Qqy(a b:Rat)(sa:Qar a)(sb:Qar b):RL (wx1 a b) 4102:=(Qam (Qdc (Qam (Qaf sa) (Qaf sa)) (rj 1)) (Qdc (Qam (Qaf sb) (Qaf sb)) (rj 1))).mn
def Uwt(p:Int)(x z w:QC)(b_x:Qac x)(b_z:Qac z)(b_w:Qac w)(e1:x=z)(a b c:Rat)(sa:Qar a)(sb:Qar b)(sc:Qar c)  (ha:a=(1:Rat)) (c0:¬((Qff ((c-(a*b))*(c-(a*b))) (wx1 a b))>0)) (c1:(Qff ((c-(a*b))*(c-(a*b))) (wx1 a b))=0) (c2:((c-(a*b)).num.sign)>=0) (Fa:hFa p z x a) (Fb:hFb p x w b) (Fc:hFc p z w c) (Bt:hBt p x z w):SCt 30 [.c (gxi p),.row ((Qah x).cells),.row ((Qah z).cells),.row ((Qah w).cells)] (.r gTt) :=
  Qbn (L := [[gxi p],(Qah x).cells,(Qah z).cells,(Qah w).cells,cF a,cF b,cF c,cF (1 : Rat),cF (a * b),cF (c-(a * b)),cF (a * a),cF ((a * a)-(1 : Rat)),cF (b * b),cF ((b * b)-(1 : Rat)),cF (wx1 a b),cF ((c-(a * b)) * (c-(a * b))),[gxi (Qff ((c-(a * b)) * (c-(a * b))) (wx1 a b)),gxi ((c-(a * b)).num.sign)]].flatten) Qai Qap
     [gs (Fa) [cS 0,yR 9 8,yR 1 8] (.tup [yQ 25,lc 0]),gs (Fb) [cS 0,yR 1 8,yR 17 8] (.tup [yQ 28,lc 0]),gs (Fc) [cS 0,yR 9 8,yR 17 8] (.tup [yQ 31,lc 0]),gs (Bt) [cS 0,yR 9 8,yR 1 8,yR 17 8] (.tup [cTt,lc 0]),gs (Qkk 1 (by decide) (by decide)) [lc 1] (rQ 34),gs (Qav a b ((Qaf sa).mn) ((Qaf sb).mn)) [yQ 25,yQ 28] (rQ 37),gs (Qby c (a*b) ((Qaf sc).mn) ((Qam (Qaf sa) (Qaf sb)).mn)) [yQ 31,yQ 37] (rQ 40),gs (Qav a a ((Qaf sa).mn) ((Qaf sa).mn)) [yQ 25,yQ 25] (rQ 43),gs (Qby (a*a) (1:Rat) ((Qam (Qaf sa) (Qaf sa)).mn) (ri 1)) [yQ 43,yQ 34] (rQ 46),gs (Qav b b ((Qaf sb).mn) ((Qaf sb).mn)) [yQ 28,yQ 28] (rQ 49),gs (Qby (b*b) (1:Rat) ((Qam (Qaf sb) (Qaf sb)).mn) (ri 1)) [yQ 49,yQ 34] (rQ 52),gs (Qav ((a*a)-(1:Rat)) ((b*b)-(1:Rat)) ((Qdc (Qam (Qaf sa) (Qaf sa)) (rj 1)).mn) ((Qdc (Qam (Qaf sb) (Qaf sb)) (rj 1)).mn)) [yQ 46,yQ 52] (rQ 55),gs (Qav (c-(a*b)) (c-(a*b)) ((Qdc (Qaf sc) (Qam (Qaf sa) (Qaf sb))).mn) ((Qdc (Qaf sc) (Qam (Qaf sa) (Qaf sb))).mn)) [yQ 40,yQ 40] (rQ 58),gs (Kts ((c-(a*b))*(c-(a*b))) (wx1 a b) ((Qam (Qdc (Qaf sc) (Qam (Qaf sa) (Qaf sb))) (Qdc (Qaf sc) (Qam (Qaf sa) (Qaf sb)))).mn) ((Qqy a b sa sb).mn)) [yQ 58,yQ 55] (rS 61),gs (Qco (c-(a*b))) [yQ 40] (rS 62)]
     [gtN 3 (.sym 61) (li 0) (Qff ((c-(a*b))*(c-(a*b))) (wx1 a b)) 0 c0,bI .eql 3 (.sym 61) (li 0) (Qff ((c-(a*b))*(c-(a*b))) (wx1 a b)) 0 true (by simp[Qch,c1]),bI .geq 3 (.sym 62) (li 0) ((c-(a*b)).num.sign) 0 true (cbT c2),Kfs 4 Tryz.underlying4 true true,bFn (yQ 25) (yQ 34) a (1:Rat) true (tI ha),bG (yR 1 8) (yR 9 8) (Qah x) (Qah z) true ((tI e1).trans Qdk.symm)] [] ((Kiy .nil):Tr.FnsOk prog _) 1 1 func30 eo30 2000 [cS 0,yR 1 8,yR 9 8,yR 17 8] vTt
def Uws(p:Int)(x z w:QC)(b_x:Qac x)(b_z:Qac z)(b_w:Qac w)(e1:¬(x=z))(e2:x=w)(a b c:Rat)(sa:Qar a)(sb:Qar b)(sc:Qar c)(oa:Qgq)(ob:Qeb)(oc:Qgq)(ha:¬(a=(1:Rat)))(c0:¬((Qff ((c-(a*b))*(c-(a*b))) (wx1 a b))>0))(c1:(Qff ((c-(a*b))*(c-(a*b))) (wx1 a b))=0)(c2:((c-(a*b)).num.sign)>=0)(Fa:hFa p z x a)(Fb:hFb p x w b)(Fc:hFc p z w c)(Bt:hBt p x z w)(A:hA p x a oa ob oc)(Oz:hOz oa ob oc z):SCt 30 [.c (gxi p),.row ((Qah x).cells),.row ((Qah z).cells),.row ((Qah w).cells)] (.r gTt) :=
  Qbn (L := [[gxi p],(Qah x).cells,(Qah z).cells,(Qah w).cells,cF a,cF b,cF c,cF (1 : Rat),cF (a * b),cF (c-(a * b)),cF (a * a),cF ((a * a)-(1 : Rat)),cF (b * b),cF ((b * b)-(1 : Rat)),cF (wx1 a b),cF ((c-(a * b)) * (c-(a * b))),[gxi (Qff ((c-(a * b)) * (c-(a * b))) (wx1 a b)),gxi ((c-(a * b)).num.sign)],oa.cells,ob.cells,oc.cells].flatten) Qai Qap
     [gs (Fa) [cS 0,yR 9 8,yR 1 8] (.tup [yQ 25,lc 0]),gs (Fb) [cS 0,yR 1 8,yR 17 8] (.tup [yQ 28,lc 0]),gs (Fc) [cS 0,yR 9 8,yR 17 8] (.tup [yQ 31,lc 0]),gs (Bt) [cS 0,yR 9 8,yR 1 8,yR 17 8] (.tup [cTt,lc 0]),gs (Qkk 1 (by decide) (by decide)) [lc 1] (rQ 34),gs (Qav a b ((Qaf sa).mn) ((Qaf sb).mn)) [yQ 25,yQ 28] (rQ 37),gs (Qby c (a*b) ((Qaf sc).mn) ((Qam (Qaf sa) (Qaf sb)).mn)) [yQ 31,yQ 37] (rQ 40),gs (Qav a a ((Qaf sa).mn) ((Qaf sa).mn)) [yQ 25,yQ 25] (rQ 43),gs (Qby (a*a) (1:Rat) ((Qam (Qaf sa) (Qaf sa)).mn) (ri 1)) [yQ 43,yQ 34] (rQ 46),gs (Qav b b ((Qaf sb).mn) ((Qaf sb).mn)) [yQ 28,yQ 28] (rQ 49),gs (Qby (b*b) (1:Rat) ((Qam (Qaf sb) (Qaf sb)).mn) (ri 1)) [yQ 49,yQ 34] (rQ 52),gs (Qav ((a*a)-(1:Rat)) ((b*b)-(1:Rat)) ((Qdc (Qam (Qaf sa) (Qaf sa)) (rj 1)).mn) ((Qdc (Qam (Qaf sb) (Qaf sb)) (rj 1)).mn)) [yQ 46,yQ 52] (rQ 55),gs (Qav (c-(a*b)) (c-(a*b)) ((Qdc (Qaf sc) (Qam (Qaf sa) (Qaf sb))).mn) ((Qdc (Qaf sc) (Qam (Qaf sa) (Qaf sb))).mn)) [yQ 40,yQ 40] (rQ 58),gs (Kts ((c-(a*b))*(c-(a*b))) (wx1 a b) ((Qam (Qdc (Qaf sc) (Qam (Qaf sa) (Qaf sb))) (Qdc (Qaf sc) (Qam (Qaf sa) (Qaf sb)))).mn) ((Qqy a b sa sb).mn)) [yQ 58,yQ 55] (rS 61),gs (Qco (c-(a*b))) [yQ 40] (rS 62),gs (A) [cS 0,yR 1 8,yQ 25] (.tup [yR 63 16,lc 0]),
      gsm (Oz) [114] [⟨flA [[.lit (.bool false)],Qba 9 8],59,none⟩] [yR 63 16,.c (.sl 0 0 1 1)] (.tup [cTt,lc 0])]
     [gtN 3 (.sym 61) (li 0) (Qff ((c-(a*b))*(c-(a*b))) (wx1 a b)) 0 c0,bI .eql 3 (.sym 61) (li 0) (Qff ((c-(a*b))*(c-(a*b))) (wx1 a b)) 0 true (by simp[Qch,c1]),bI .geq 3 (.sym 62) (li 0) ((c-(a*b)).num.sign) 0 true (cbT c2),Kfs 4 Tryz.underlying4 true true,bFn (yQ 25) (yQ 34) a (1:Rat) false (fI ha),bG (yR 1 8) (yR 9 8) (Qah x) (Qah z) false ((fI e1).trans Qdk.symm),bG (yR 1 8) (yR 17 8) (Qah x) (Qah w) true ((tI e2).trans Qdk.symm)] [] ((Kiy .nil):Tr.FnsOk prog _) 1 1 func30 eo30 2000 [cS 0,yR 1 8,yR 9 8,yR 17 8] vTt
def Uoh(p:Int)(x z w:QC)(a b c:Rat)(oa:Qgq)(ob:Qeb)(oc:Qgq)(q:Rat)(s:Int):List GF:=[[gxi p],(Qah x).cells,(Qah z).cells,(Qah w).cells,cF a,cF b,cF c,cF (1:Rat),cF (a*b),cF (c-(a*b)),cF (a*a),cF ((a*a)-(1:Rat)),cF (b*b),cF ((b*b)-(1:Rat)),cF (wx1 a b),cF ((c-(a*b))*(c-(a*b))),[gxi (Qff ((c-(a*b))*(c-(a*b))) (wx1 a b)),gxi ((c-(a*b)).num.sign)],oa.cells,ob.cells,oc.cells,cF q,[gxi s],cF (q*(wx1 a b)),[gxi (-(((c-(a*b)).num.sign)))]].flatten
def Uwr(p:Int)(x z w:QC)(b_x:Qac x)(b_z:Qac z)(b_w:Qac w)(e1:¬(x=z))(e2:¬(x=w))(a b c:Rat)(sa:Qar a)(sb:Qar b)(sc:Qar c)(oa:Qgq)(ob:Qeb)(oc:Qgq)(q:Rat)(s:Int)(sq:Qar q)(ha:¬(a=(1:Rat)))(c0:¬((Qff ((c-(a*b))*(c-(a*b))) (wx1 a b))>0))(c1:(Qff ((c-(a*b))*(c-(a*b))) (wx1 a b))=0)(c2:((c-(a*b)).num.sign)>=0)(c3:(q*(wx1 a b))=((c-(a*b))*(c-(a*b))))(c4:s=(-(((c-(a*b)).num.sign))))(Fa:hFa p z x a)(Fb:hFb p x w b)(Fc:hFc p z w c)(Bt:hBt p x z w)(A:hA p x a oa ob oc)(Oz:hOz oa ob oc z)(G:hG p x z w q s):SCt 30 [.c (gxi p),.row ((Qah x).cells),.row ((Qah z).cells),.row ((Qah w).cells)] (.r gTt) :=
  Qbn (L := Uoh p x z w a b c oa ob oc q s) Qai Qap
     [gs (Fa) [cS 0,yR 9 8,yR 1 8] (.tup [yQ 25,lc 0]),gs (Fb) [cS 0,yR 1 8,yR 17 8] (.tup [yQ 28,lc 0]),gs (Fc) [cS 0,yR 9 8,yR 17 8] (.tup [yQ 31,lc 0]),gs (Bt) [cS 0,yR 9 8,yR 1 8,yR 17 8] (.tup [cTt,lc 0]),gs (Qkk 1 (by decide) (by decide)) [lc 1] (rQ 34),gs (Qav a b ((Qaf sa).mn) ((Qaf sb).mn)) [yQ 25,yQ 28] (rQ 37),gs (Qby c (a*b) ((Qaf sc).mn) ((Qam (Qaf sa) (Qaf sb)).mn)) [yQ 31,yQ 37] (rQ 40),gs (Qav a a ((Qaf sa).mn) ((Qaf sa).mn)) [yQ 25,yQ 25] (rQ 43),gs (Qby (a*a) (1:Rat) ((Qam (Qaf sa) (Qaf sa)).mn) (ri 1)) [yQ 43,yQ 34] (rQ 46),gs (Qav b b ((Qaf sb).mn) ((Qaf sb).mn)) [yQ 28,yQ 28] (rQ 49),gs (Qby (b*b) (1:Rat) ((Qam (Qaf sb) (Qaf sb)).mn) (ri 1)) [yQ 49,yQ 34] (rQ 52),gs (Qav ((a*a)-(1:Rat)) ((b*b)-(1:Rat)) ((Qdc (Qam (Qaf sa) (Qaf sa)) (rj 1)).mn) ((Qdc (Qam (Qaf sb) (Qaf sb)) (rj 1)).mn)) [yQ 46,yQ 52] (rQ 55),gs (Qav (c-(a*b)) (c-(a*b)) ((Qdc (Qaf sc) (Qam (Qaf sa) (Qaf sb))).mn) ((Qdc (Qaf sc) (Qam (Qaf sa) (Qaf sb))).mn)) [yQ 40,yQ 40] (rQ 58),gs (Kts ((c-(a*b))*(c-(a*b))) (wx1 a b) ((Qam (Qdc (Qaf sc) (Qam (Qaf sa) (Qaf sb))) (Qdc (Qaf sc) (Qam (Qaf sa) (Qaf sb)))).mn) ((Qqy a b sa sb).mn)) [yQ 58,yQ 55] (rS 61),gs (Qco (c-(a*b))) [yQ 40] (rS 62),gs (A) [cS 0,yR 1 8,yQ 25] (.tup [yR 63 16,lc 0]),
      gsm (Oz) [114] [⟨flA [[.lit (.bool false)],Qba 9 8],59,none⟩] [yR 63 16,.c (.sl 0 0 1 1)] (.tup [cTt,lc 0]),gs (G) [cS 0,yR 1 8,yR 9 8,yR 17 8] (.tup [yQ 79,cS 82,lc 0]),gs (Qav q (wx1 a b) ((Qaf sq).mn) ((Qqy a b sa sb).mn)) [yQ 79,yQ 55] (rQ 83)]
     [gtN 3 (.sym 61) (li 0) (Qff ((c-(a*b))*(c-(a*b))) (wx1 a b)) 0 c0,bI .eql 3 (.sym 61) (li 0) (Qff ((c-(a*b))*(c-(a*b))) (wx1 a b)) 0 true (by simp[Qch,c1]),bI .geq 3 (.sym 62) (li 0) ((c-(a*b)).num.sign) 0 true (cbT c2),Kfs 4 Tryz.underlying4 true true,bFn (yQ 25) (yQ 34) a (1:Rat) false (fI ha),bG (yR 1 8) (yR 9 8) (Qah x) (Qah z) false ((fI e1).trans Qdk.symm),bG (yR 1 8) (yR 17 8) (Qah x) (Qah w) false ((fI e2).trans Qdk.symm),bF (yQ 83) (yQ 58) (q*(wx1 a b)) ((c-(a*b))*(c-(a*b))) true (tI c3),bI .eql 3 (.sym 82) (.sym 86) s (-(((c-(a*b)).num.sign))) true (by simp[Qch,c4])] [Kng (.c (.sym 62)) (.sym 86) (vx:=.int .i64 ((c-(a*b)).num.sign)) (v:=.int .i64 (-(((c-(a*b)).num.sign)))) (fun w=>Qjr _ w) (by kernel_rfl) (by kernel_rfl)] ((Kiy .nil):Tr.FnsOk prog _) 1 1 func30 eo30 2000 [cS 0,yR 1 8,yR 9 8,yR 17 8] vTt
def Uof(p:Int)(x z w:QC)(a b c:Rat)(oa:Qgq)(ob:Qeb)(oc:Qgq)(q:Rat)(s:Int):List GF:=[[gxi p],(Qah x).cells,(Qah z).cells,(Qah w).cells,cF a,cF b,cF c,cF (1:Rat),cF (a*b),cF (c-(a*b)),cF (a*a),cF ((a*a)-(1:Rat)),cF (b*b),cF ((b*b)-(1:Rat)),cF (wx1 a b),cF ((c-(a*b))*(c-(a*b))),[gxi (Qff ((c-(a*b))*(c-(a*b))) (wx1 a b)),gxi ((c-(a*b)).num.sign)],oa.cells,ob.cells,oc.cells,cF q,[gxi s],cF (q*(wx1 a b)),[gxi (-(((c-(a*b)).num.sign)))]].flatten
def Uwp(p:Int)(x z w:QC)(b_x:Qac x)(b_z:Qac z)(b_w:Qac w)(e1:¬(x=z))(e2:¬(x=w))(a b c:Rat)(sa:Qar a)(sb:Qar b)(sc:Qar c)(oa:Qgq)(ob:Qeb)(oc:Qgq)(q:Rat)(s:Int)(sq:Qar q)(ha:¬(a=(1:Rat)))(c0:¬((Qff ((c-(a*b))*(c-(a*b))) (wx1 a b))>0))(c1:(Qff ((c-(a*b))*(c-(a*b))) (wx1 a b))=0)(c2:¬(((c-(a*b)).num.sign)>=0))(c3:(q*(wx1 a b))=((c-(a*b))*(c-(a*b))))(c4:s=(-(((c-(a*b)).num.sign))))(Fa:hFa p z x a)(Fb:hFb p x w b)(Fc:hFc p z w c)(Bf:hBf p x z w)(A:hA p x a oa ob oc)(Oz:hOz oa ob oc z)(G:hG p x z w q s):SCt 30 [.c (gxi p),.row ((Qah x).cells),.row ((Qah z).cells),.row ((Qah w).cells)] (.r gTt) :=
  Qbn (L := Uof p x z w a b c oa ob oc q s) Qai Qap
     [gs (Fa) [cS 0,yR 9 8,yR 1 8] (.tup [yQ 25,lc 0]),gs (Fb) [cS 0,yR 1 8,yR 17 8] (.tup [yQ 28,lc 0]),gs (Fc) [cS 0,yR 9 8,yR 17 8] (.tup [yQ 31,lc 0]),gs (Bf) [cS 0,yR 9 8,yR 1 8,yR 17 8] (.tup [cFf,lc 0]),gs (Qkk 1 (by decide) (by decide)) [lc 1] (rQ 34),gs (Qav a b ((Qaf sa).mn) ((Qaf sb).mn)) [yQ 25,yQ 28] (rQ 37),gs (Qby c (a*b) ((Qaf sc).mn) ((Qam (Qaf sa) (Qaf sb)).mn)) [yQ 31,yQ 37] (rQ 40),gs (Qav a a ((Qaf sa).mn) ((Qaf sa).mn)) [yQ 25,yQ 25] (rQ 43),gs (Qby (a*a) (1:Rat) ((Qam (Qaf sa) (Qaf sa)).mn) (ri 1)) [yQ 43,yQ 34] (rQ 46),gs (Qav b b ((Qaf sb).mn) ((Qaf sb).mn)) [yQ 28,yQ 28] (rQ 49),gs (Qby (b*b) (1:Rat) ((Qam (Qaf sb) (Qaf sb)).mn) (ri 1)) [yQ 49,yQ 34] (rQ 52),gs (Qav ((a*a)-(1:Rat)) ((b*b)-(1:Rat)) ((Qdc (Qam (Qaf sa) (Qaf sa)) (rj 1)).mn) ((Qdc (Qam (Qaf sb) (Qaf sb)) (rj 1)).mn)) [yQ 46,yQ 52] (rQ 55),gs (Qav (c-(a*b)) (c-(a*b)) ((Qdc (Qaf sc) (Qam (Qaf sa) (Qaf sb))).mn) ((Qdc (Qaf sc) (Qam (Qaf sa) (Qaf sb))).mn)) [yQ 40,yQ 40] (rQ 58),gs (Kts ((c-(a*b))*(c-(a*b))) (wx1 a b) ((Qam (Qdc (Qaf sc) (Qam (Qaf sa) (Qaf sb))) (Qdc (Qaf sc) (Qam (Qaf sa) (Qaf sb)))).mn) ((Qqy a b sa sb).mn)) [yQ 58,yQ 55] (rS 61),gs (Qco (c-(a*b))) [yQ 40] (rS 62),gs (A) [cS 0,yR 1 8,yQ 25] (.tup [yR 63 16,lc 0]),
      gsm (Oz) [114] [⟨flA [[.lit (.bool false)],Qba 9 8],59,none⟩] [yR 63 16,.c (.sl 0 0 1 1)] (.tup [cTt,lc 0]),gs (G) [cS 0,yR 1 8,yR 9 8,yR 17 8] (.tup [yQ 79,cS 82,lc 0]),gs (Qav q (wx1 a b) ((Qaf sq).mn) ((Qqy a b sa sb).mn)) [yQ 79,yQ 55] (rQ 83)]
     [gtN 3 (.sym 61) (li 0) (Qff ((c-(a*b))*(c-(a*b))) (wx1 a b)) 0 c0,bI .eql 3 (.sym 61) (li 0) (Qff ((c-(a*b))*(c-(a*b))) (wx1 a b)) 0 true (by simp[Qch,c1]),bI .geq 3 (.sym 62) (li 0) ((c-(a*b)).num.sign) 0 false (cbF c2),Kfs 4 Tryz.underlying4 false false,bFn (yQ 25) (yQ 34) a (1:Rat) false (fI ha),bG (yR 1 8) (yR 9 8) (Qah x) (Qah z) false ((fI e1).trans Qdk.symm),bG (yR 1 8) (yR 17 8) (Qah x) (Qah w) false ((fI e2).trans Qdk.symm),bF (yQ 83) (yQ 58) (q*(wx1 a b)) ((c-(a*b))*(c-(a*b))) true (tI c3),bI .eql 3 (.sym 82) (.sym 86) s (-(((c-(a*b)).num.sign))) true (by simp[Qch,c4])] [Kng (.c (.sym 62)) (.sym 86) (vx:=.int .i64 ((c-(a*b)).num.sign)) (v:=.int .i64 (-(((c-(a*b)).num.sign)))) (fun w=>Qjr _ w) (by kernel_rfl) (by kernel_rfl)] ((Kiy .nil):Tr.FnsOk prog _) 1 1 func30 eo30 2000 [cS 0,yR 1 8,yR 9 8,yR 17 8] vTt
def Uog(p:Int)(x z w:QC)(a b c:Rat)(oa:Qgq)(ob:Qeb)(oc:Qgq)(q:Rat)(s:Int):List GF:=[[gxi p],(Qah x).cells,(Qah z).cells,(Qah w).cells,cF a,cF b,cF c,cF (1:Rat),cF (a*b),cF (c-(a*b)),cF (a*a),cF ((a*a)-(1:Rat)),cF (b*b),cF ((b*b)-(1:Rat)),cF (wx1 a b),cF ((c-(a*b))*(c-(a*b))),[gxi (Qff ((c-(a*b))*(c-(a*b))) (wx1 a b))],oa.cells,ob.cells,oc.cells,cF q,[gxi s],cF (q*(wx1 a b)),[gxi ((c-(a*b)).num.sign),gxi (-(((c-(a*b)).num.sign)))]].flatten
def Uwq(p:Int)(x z w:QC)(b_x:Qac x)(b_z:Qac z)(b_w:Qac w)(e1:¬(x=z))(e2:¬(x=w))(a b c:Rat)(sa:Qar a)(sb:Qar b)(sc:Qar c)(oa:Qgq)(ob:Qeb)(oc:Qgq)(q:Rat)(s:Int)(sq:Qar q)(ha:¬(a=(1:Rat)))(c0:¬((Qff ((c-(a*b))*(c-(a*b))) (wx1 a b))>0))(c1:¬((Qff ((c-(a*b))*(c-(a*b))) (wx1 a b))=0))(c3:(q*(wx1 a b))=((c-(a*b))*(c-(a*b))))(c4:s=(-(((c-(a*b)).num.sign))))(Fa:hFa p z x a)(Fb:hFb p x w b)(Fc:hFc p z w c)(Bf:hBf p x z w)(A:hA p x a oa ob oc)(Oz:hOz oa ob oc z)(G:hG p x z w q s):SCt 30 [.c (gxi p),.row ((Qah x).cells),.row ((Qah z).cells),.row ((Qah w).cells)] (.r gTt) :=
  Qbn (L := Uog p x z w a b c oa ob oc q s) Qai Qap
     [gs (Fa) [cS 0,yR 9 8,yR 1 8] (.tup [yQ 25,lc 0]),gs (Fb) [cS 0,yR 1 8,yR 17 8] (.tup [yQ 28,lc 0]),gs (Fc) [cS 0,yR 9 8,yR 17 8] (.tup [yQ 31,lc 0]),gs (Bf) [cS 0,yR 9 8,yR 1 8,yR 17 8] (.tup [cFf,lc 0]),gs (Qkk 1 (by decide) (by decide)) [lc 1] (rQ 34),gs (Qav a b ((Qaf sa).mn) ((Qaf sb).mn)) [yQ 25,yQ 28] (rQ 37),gs (Qby c (a*b) ((Qaf sc).mn) ((Qam (Qaf sa) (Qaf sb)).mn)) [yQ 31,yQ 37] (rQ 40),gs (Qav a a ((Qaf sa).mn) ((Qaf sa).mn)) [yQ 25,yQ 25] (rQ 43),gs (Qby (a*a) (1:Rat) ((Qam (Qaf sa) (Qaf sa)).mn) (ri 1)) [yQ 43,yQ 34] (rQ 46),gs (Qav b b ((Qaf sb).mn) ((Qaf sb).mn)) [yQ 28,yQ 28] (rQ 49),gs (Qby (b*b) (1:Rat) ((Qam (Qaf sb) (Qaf sb)).mn) (ri 1)) [yQ 49,yQ 34] (rQ 52),gs (Qav ((a*a)-(1:Rat)) ((b*b)-(1:Rat)) ((Qdc (Qam (Qaf sa) (Qaf sa)) (rj 1)).mn) ((Qdc (Qam (Qaf sb) (Qaf sb)) (rj 1)).mn)) [yQ 46,yQ 52] (rQ 55),gs (Qav (c-(a*b)) (c-(a*b)) ((Qdc (Qaf sc) (Qam (Qaf sa) (Qaf sb))).mn) ((Qdc (Qaf sc) (Qam (Qaf sa) (Qaf sb))).mn)) [yQ 40,yQ 40] (rQ 58),gs (Kts ((c-(a*b))*(c-(a*b))) (wx1 a b) ((Qam (Qdc (Qaf sc) (Qam (Qaf sa) (Qaf sb))) (Qdc (Qaf sc) (Qam (Qaf sa) (Qaf sb)))).mn) ((Qqy a b sa sb).mn)) [yQ 58,yQ 55] (rS 61),gs (A) [cS 0,yR 1 8,yQ 25] (.tup [yR 62 16,lc 0]),
      gsm (Oz) [114] [⟨flA [[.lit (.bool false)],Qba 9 8],59,none⟩] [yR 62 16,.c (.sl 0 0 1 1)] (.tup [cTt,lc 0]),gs (G) [cS 0,yR 1 8,yR 9 8,yR 17 8] (.tup [yQ 78,cS 81,lc 0]),gs (Qav q (wx1 a b) ((Qaf sq).mn) ((Qqy a b sa sb).mn)) [yQ 78,yQ 55] (rQ 82),gs (Qco (c-(a*b))) [yQ 40] (rS 85)]
     [gtN 3 (.sym 61) (li 0) (Qff ((c-(a*b))*(c-(a*b))) (wx1 a b)) 0 c0,bI .eql 3 (.sym 61) (li 0) (Qff ((c-(a*b))*(c-(a*b))) (wx1 a b)) 0 false (by simp[Qch,c1]),Kfs 4 Tryz.underlying4 false false,bFn (yQ 25) (yQ 34) a (1:Rat) false (fI ha),bG (yR 1 8) (yR 9 8) (Qah x) (Qah z) false ((fI e1).trans Qdk.symm),bG (yR 1 8) (yR 17 8) (Qah x) (Qah w) false ((fI e2).trans Qdk.symm),bF (yQ 82) (yQ 58) (q*(wx1 a b)) ((c-(a*b))*(c-(a*b))) true (tI c3),bI .eql 3 (.sym 81) (.sym 86) s (-(((c-(a*b)).num.sign))) true (by simp[Qch,c4])] [Kng (.c (.sym 85)) (.sym 86) (vx:=.int .i64 ((c-(a*b)).num.sign)) (v:=.int .i64 (-(((c-(a*b)).num.sign)))) (fun w=>Qjr _ w) (by kernel_rfl) (by kernel_rfl)] ((Kiy .nil):Tr.FnsOk prog _) 1 1 func30 eo30 2000 [cS 0,yR 1 8,yR 9 8,yR 17 8] vTt
end Go.Proofs.YtcjjdooeogmdbaaGreat
namespace Go.Proofs.YtcjjdooeogmdbaaGreat
open Go.RowKit Tr
def Qgq.val(f:Qgq):Value:=.agg #[.bool f.n1,.string f.s1,.bool f.n2,.string f.s2]
def Qgq.Sz(f:Qgq):Prop:=f.s1.size<=1000000000/\f.s2.size<=1000000000
def Ugz{q:Rat}(h:Qar q):(Qea q).Sz:=⟨Nat.le_trans h.1 (by decide),Nat.le_trans h.2 (by decide)⟩
def Uuw(f:Qgq)(hs:f.Sz)(r:Bool)(hr:r=true↔Qgp f.val):SCt 166 [.row f.cells] (B1 r) :=
 Qqe eo166 fun w A u _ _ hu=>by
  have h1:=hs.1;have h2:=hs.2;rw[(FR.val_ok (u:=f.val) (x:=.row f.cells) (by kernel_rfl)).1 hu];exact(Kfb f.n1 f.n2 f.s1 f.s2 (by omega) (by omega) r hr w).mono fun r' w' h=>⟨_,h.1,rfl,h.2⟩
def Udd(q:Rat)(h:Qar q):SCt 166 [F1 q] (.r gTt) :=
 Uuw (Qea q) (Ugz h) true ⟨fun _=>⟨q,rfl,h.1,h.2⟩,fun _=>rfl⟩
