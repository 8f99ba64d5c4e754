/- Laws. -/
import Derived.Test.YtmimficdpfmfgaaGreatWbe
set_option linter.all false
set_option maxHeartbeats 4000000
set_option maxRecDepth 100000
namespace Go.Proofs.YtmimficdpfmfgaaGreat
open Go.RowKit Tr Proofs.Tryz
open Classical
def P0{m0 m1 m2 m3:Rat}(h:0<Qam m0 m1 m2 m3 m0 m1 m2 m3)(k:m0=0):¬(nm (⟨m1,m2⟩:QC)=0):=fun e=>by
 subst k;have:Qam 0 m1 m2 m3 0 m1 m2 m3=nm (⟨m1,m2⟩:QC):=by unfold Qam nm;grind
 rw[this,e] at h;exact absurd h (by decide)
def Kin{f0 f1 f2 f3 c:Rat}(hP:0<Qam f0 f1 f2 f3 f0 f1 f2 f3)(hc:c≠0):0<Qam (f0/c) (f1/c) (f2/c) (f3/c) (f0/c) (f1/c) (f2/c) (f3/c):=by
 rw[Upz,Rat.div_def];exact Qqy hP (Rat.inv_pos.2 (by have:=rsq c;have:=Krb hc;grind))
def zd{x y:Rat}(h:x=0):x/y=0:=by rw[h];exact Ukq y
abbrev DFc(p:Nat)(q:Int)(a b e d:Rat)(z:QC):Prop:=(∀ x0,Qld p a b e d z x0->dF q (Qbx a) (Qan ⟨b,e⟩) (Qbx d) z x0)/\((¬∃ x,Kxg p a b e d z x)->dN q (Qbx a) (Qan ⟨b,e⟩) (Qbx d) z)
structure Up(p:Nat)(a b e d:Rat)(z:QC)(u0 u1 u2 u3:Rat):Prop where
 b0:RL u0 30826
 b1:RL u1 30826
 b2:RL u2 30826
 b3:RL u3 30826
 pos:0<Qam u0 u1 u2 u3 u0 u1 u2 u3
 o:Qam a b e d u0 u1 u2 u3=0
 both:∀ x,(vl a b e d x=0/\vl u0 u1 u2 u3 x=0)↔Kxg p a b e d z x
 one:u0≠0->u0=1
 uz:p=2->u0=0->u3=0
 up:SCt 32 [.c (gxi p),.row (rF a++rF b++rF e++rF d),G1 z] (.r (.row (rF u0++rF u1++rF u2++rF u3)))
def Ufq{p:Nat}{q:Int}{a b e d:Rat}{z:QC}{u0 u1 u2 u3 m0 m1 m2 m3:Rat}(C:CO a b e d)(sz:Qaj z)(U:Up p a b e d z u0 u1 u2 u3)(h0:RL m0 65000)(h1:RL m1 65000)(h2:RL m2 65000)(h3:RL m3 65000) :
  (⟨a,b,e,d,u0,u1,u2,u3,m0,m1,m2,m3,z,q⟩:W13).O :=
 ⟨(Qao C.sa).mn,(Qao C.sb).mn,(Qao C.se).mn,(Qao C.sd).mn,U.b0.mn,U.b1.mn,U.b2.mn,U.b3.mn,h0,h1,h2,h3,(Qmm sz).mn⟩
def Uqy{a b e d:Rat}{z:QC}(C:CO a b e d)(he:e=0)(sz:Qaj z)(hz:0<z.im):∃ u0 u1 u2 u3,Up 1 a b e d z u0 u1 u2 u3/\(u0=0↔(upr 1 a b e d z).1=0):=by
 obtain⟨r0,r1,r2,r3⟩:=ub1 C.sa C.sb C.se C.sd sz;have hQ:=Qtm he hz C.hp;have hb:=Qun hQ;have rb:=Kgu r0 r1 r2;have ho:=Qid 1 a b e d z (by simp[he]);refine⟨_,_,_,_,⟨Kdb hb r0 rb (by omega),Kdb hb r1 rb (by omega),Kdb hb r2 rb (by omega),Kdb hb r3 rb (by omega),Kin hQ hb,?_,?_,?_,?_,Uzd C he sz hz⟩,?_⟩
 .rw[Kse,Udm,ho];exact Ukq _
 .intro x;rw[Qyt hb];exact Iff.rfl
 .intro h;exact Koy hQ (fun k=>h (zd k))
 .intro h;exact absurd h (by decide)
 .constructor
  .intro h;grind
  .intro h;exact zd h
def Vai{a b e d:Rat}{z:QC}{u0 u1 u2 u3:Rat}(C:CO a b e d)(he:e=0)(sz:Qaj z)(hz:0<z.im)(U:Up 1 a b e d z u0 u1 u2 u3)(ha:a=0)(hu:u0≠0):DFc 1 1 a b e d z:=by
 have B:=Ufq (q:=1) C sz U ((Qao C.sa).mn) ((Qao C.sb).mn) ((Qao C.se).mn) ((Qao C.sd).mn);have R:=Uyt ⟨a,b,e,d,u0,u1,u2,u3,a,b,e,d,z,1⟩ { B:=B,hp:=.inl rfl,f2:=Qii hu,hN:=P0 C.hp ha,hUp:=U.up,hL:=Kdp _ B C.hp U.pos U.o,hA:=Uyp _ B (sg0 ha) (Qii hu),f1:=sg0 ha } ha hu (fun x=>by
  show(vl a b e d x=0/\vl u0 u1 u2 u3 x=0)↔(vl u0 u1 u2 u3 x=0/\vl 0 b e d x=0);rw[ha];exact and_comm)
 refine⟨fun x0 ok=>R.1 x0 (hi1.2 ok.1) ((U.both x0).2 ok.2) (fun y iy hy=>uq1 C he hz ok.1 (hi1.1 iy) ok.2 ((U.both y).1 hy)),fun hn=>R.2 (fun h=>hn ?_)⟩;obtain⟨x,hx⟩:=h;exact⟨x,(U.both x).1 hx⟩
def Vah{a b e d:Rat}{z:QC}{u0 u1 u2 u3:Rat}(C:CO a b e d)(he:e=0)(sz:Qaj z)(hz:0<z.im)(U:Up 1 a b e d z u0 u1 u2 u3)(ha:a≠0)(hu:u0=0):DFc 1 1 a b e d z:=by
 have B:=Ufq (q:=1) C sz U (U.b0.mn) (U.b1.mn) (U.b2.mn) (U.b3.mn);have R:=Utp ⟨a,b,e,d,u0,u1,u2,u3,u0,u1,u2,u3,z,1⟩ { B:=B,hp:=.inl rfl,f1:=Qii ha,hN:=P0 U.pos hu,hUp:=U.up,hL:=Kdp _ B C.hp U.pos U.o,hA:=Uyo _ B (Qii ha) (sg0 hu) } hu ha (fun x=>by
  show(vl a b e d x=0/\vl u0 u1 u2 u3 x=0)↔(vl a b e d x=0/\vl 0 u1 u2 u3 x=0);rw[hu])
 refine⟨fun x0 ok=>R.1 x0 (hi1.2 ok.1) ((U.both x0).2 ok.2) (fun y iy hy=>uq1 C he hz ok.1 (hi1.1 iy) ok.2 ((U.both y).1 hy)),fun hn=>R.2 (fun h=>hn ?_)⟩;obtain⟨x,hx⟩:=h;exact⟨x,(U.both x).1 hx⟩
def Vaj{a b e d:Rat}{z:QC}{u0 u1 u2 u3:Rat}(C:CO a b e d)(he:e=0)(sz:Qaj z)(hz:0<z.im)(U:Up 1 a b e d z u0 u1 u2 u3)(ha:a=1)(hu:u0≠0):DFc 1 1 a b e d z:=by
 have h1:=U.one hu;obtain⟨k0,kP⟩:=Uyu ⟨a,b,e,d,u0,u1,u2,u3,0,0,0,0,z,1⟩ ha h1 C.hp U.pos U.o;have hb:=Qun kP;have c0:RL (1:Rat) 1:=Qeb (1:Rat) 1 dK;have c1:RL (-(1:Rat)) 1:=Qah c0;have q0:RL ((1:Rat)*a+-(1:Rat)*u0) 32000:=(Qaz (Qad c0 (Qao C.sa)) (Qad c1 U.b0)).mn;have q1:RL ((1:Rat)*b+-(1:Rat)*u1) 32000:=(Qaz (Qad c0 (Qao C.sb)) (Qad c1 U.b1)).mn;have q2:RL ((1:Rat)*e+-(1:Rat)*u2) 32000:=(Qaz (Qad c0 (Qao C.se)) (Qad c1 U.b2)).mn;have q3:RL ((1:Rat)*d+-(1:Rat)*u3) 32000:=(Qaz (Qad c0 (Qao C.sd)) (Qad c1 U.b3)).mn;have rb:=Kgu q0 q1 q2;have B:=Ufq (q:=1) C sz U (Kdb hb q0 rb (by omega)) (Kdb hb q1 rb (by omega)) (Kdb hb q2 rb (by omega)) (Kdb hb q3 rb (by omega));have ha':a≠0:=by rw[ha];decide
 have R:=Utp ⟨a,b,e,d,u0,u1,u2,u3,_,_,_,_,z,1⟩ { B:=B,hp:=.inl rfl,f1:=Qii ha',hN:=P0 (Kin kP hb) (zd k0),hUp:=U.up,hL:=Kdp _ B C.hp U.pos U.o,hA:=Uyq _ B (Qii ha') (Qii hu) kP } (zd k0) ha' (fun x=>by
  have hv:vl ((1:Rat)*a+-(1:Rat)*u0) ((1:Rat)*b+-(1:Rat)*u1) ((1:Rat)*e+-(1:Rat)*u2) ((1:Rat)*d+-(1:Rat)*u3) x=vl a b e d x-vl u0 u1 u2 u3 x:=by unfold vl;grind
  have hm:=Qyt (x:=x) hb (u0:=(1:Rat)*a+-(1:Rat)*u0) (u1:=(1:Rat)*b+-(1:Rat)*u1) (u2:=(1:Rat)*e+-(1:Rat)*u2) (u3:=(1:Rat)*d+-(1:Rat)*u3);rw[hv,show((1:Rat)*a+-(1:Rat)*u0)=0 from k0] at hm;rw[Ukq] at hm;constructor
  .intro h;exact⟨h.1,hm.2 (by rw[h.1,h.2];decide +kernel)⟩
  .intro h;have:=hm.1 h.2;rw[h.1] at this;exact⟨h.1,by grind⟩)
 refine⟨fun x0 ok=>R.1 x0 (hi1.2 ok.1) ((U.both x0).2 ok.2) (fun y iy hy=>uq1 C he hz ok.1 (hi1.1 iy) ok.2 ((U.both y).1 hy)),fun hn=>R.2 (fun h=>hn ?_)⟩;obtain⟨x,hx⟩:=h;exact⟨x,(U.both x).1 hx⟩
def Uqz{a b e d:Rat}{z:QC}(C:CO a b e d)(he:a=d)(sz:Qaj z)(hz:0<1-nm z):∃ u0 u1 u2 u3,Up 2 a b e d z u0 u1 u2 u3/\(u0=0↔(upr 2 a b e d z).1=0):=by
 obtain⟨r0,r1,r2,r3⟩:=ub2 C.sa C.sb C.se C.sd sz;have hQ:=Qtn he hz C.hp;have hb:=Qun hQ;have rb:=Kgu r0 r1 r2;have ho:=Qid 2 a b e d z (by simp[he]);refine⟨_,_,_,_,⟨Kdb hb r0 rb (by omega),Kdb hb r1 rb (by omega),Kdb hb r2 rb (by omega),Kdb hb r3 rb (by omega),Kin hQ hb,?_,?_,?_,?_,Uze C he sz hz⟩,?_⟩
 .rw[Kse,Udm,ho];exact Ukq _
 .intro x;rw[Qyt hb];exact Iff.rfl
 .intro h;exact Koy hQ (fun k=>h (zd k))
 .subst he;intro _ h;rw[Qwr];exact h
 .constructor
  .intro h;grind
  .intro h;exact zd h
def Val{a b e d:Rat}{z:QC}{u0 u1 u2 u3:Rat}(C:CO a b e d)(he:a=d)(sz:Qaj z)(hz:0<1-nm z)(U:Up 2 a b e d z u0 u1 u2 u3)(ha:a=0)(hu:u0≠0):DFc 2 2 a b e d z:=by
 have B:=Ufq (q:=2) C sz U ((Qao C.sa).mn) ((Qao C.sb).mn) ((Qao C.se).mn) ((Qao C.sd).mn);have R:=Uyt ⟨a,b,e,d,u0,u1,u2,u3,a,b,e,d,z,2⟩ { B:=B,hp:=.inr rfl,f2:=Qii hu,hN:=P0 C.hp ha,hUp:=U.up,hL:=Kdp _ B C.hp U.pos U.o,hA:=Uyp _ B (sg0 ha) (Qii hu),f1:=sg0 ha } ha hu (fun x=>by
  show(vl a b e d x=0/\vl u0 u1 u2 u3 x=0)↔(vl u0 u1 u2 u3 x=0/\vl 0 b e d x=0);rw[ha];exact and_comm)
 refine⟨fun x0 ok=>R.1 x0 (hi2.2 ok.1) ((U.both x0).2 ok.2) (fun y iy hy=>uq2 C he hz ok.1 (hi2.1 iy) ok.2 ((U.both y).1 hy)),fun hn=>R.2 (fun h=>hn ?_)⟩;obtain⟨x,hx⟩:=h;exact⟨x,(U.both x).1 hx⟩
def Vak{a b e d:Rat}{z:QC}{u0 u1 u2 u3:Rat}(C:CO a b e d)(he:a=d)(sz:Qaj z)(hz:0<1-nm z)(U:Up 2 a b e d z u0 u1 u2 u3)(ha:a≠0)(hu:u0=0):DFc 2 2 a b e d z:=by
 have B:=Ufq (q:=2) C sz U (U.b0.mn) (U.b1.mn) (U.b2.mn) (U.b3.mn);have R:=Utp ⟨a,b,e,d,u0,u1,u2,u3,u0,u1,u2,u3,z,2⟩ { B:=B,hp:=.inr rfl,f1:=Qii ha,hN:=P0 U.pos hu,hUp:=U.up,hL:=Kdp _ B C.hp U.pos U.o,hA:=Uyo _ B (Qii ha) (sg0 hu) } hu ha (fun x=>by
  show(vl a b e d x=0/\vl u0 u1 u2 u3 x=0)↔(vl a b e d x=0/\vl 0 u1 u2 u3 x=0);rw[hu])
 refine⟨fun x0 ok=>R.1 x0 (hi2.2 ok.1) ((U.both x0).2 ok.2) (fun y iy hy=>uq2 C he hz ok.1 (hi2.1 iy) ok.2 ((U.both y).1 hy)),fun hn=>R.2 (fun h=>hn ?_)⟩;obtain⟨x,hx⟩:=h;exact⟨x,(U.both x).1 hx⟩
def Vam{a b e d:Rat}{z:QC}{u0 u1 u2 u3:Rat}(C:CO a b e d)(he:a=d)(sz:Qaj z)(hz:0<1-nm z)(U:Up 2 a b e d z u0 u1 u2 u3)(ha:a=1)(hu:u0≠0):DFc 2 2 a b e d z:=by
 have h1:=U.one hu;obtain⟨k0,kP⟩:=Uyu ⟨a,b,e,d,u0,u1,u2,u3,0,0,0,0,z,2⟩ ha h1 C.hp U.pos U.o;have hb:=Qun kP;have c0:RL (1:Rat) 1:=Qeb (1:Rat) 1 dK;have c1:RL (-(1:Rat)) 1:=Qah c0;have q0:RL ((1:Rat)*a+-(1:Rat)*u0) 32000:=(Qaz (Qad c0 (Qao C.sa)) (Qad c1 U.b0)).mn;have q1:RL ((1:Rat)*b+-(1:Rat)*u1) 32000:=(Qaz (Qad c0 (Qao C.sb)) (Qad c1 U.b1)).mn;have q2:RL ((1:Rat)*e+-(1:Rat)*u2) 32000:=(Qaz (Qad c0 (Qao C.se)) (Qad c1 U.b2)).mn;have q3:RL ((1:Rat)*d+-(1:Rat)*u3) 32000:=(Qaz (Qad c0 (Qao C.sd)) (Qad c1 U.b3)).mn;have rb:=Kgu q0 q1 q2;have B:=Ufq (q:=2) C sz U (Kdb hb q0 rb (by omega)) (Kdb hb q1 rb (by omega)) (Kdb hb q2 rb (by omega)) (Kdb hb q3 rb (by omega));have ha':a≠0:=by rw[ha];decide
 have R:=Utp ⟨a,b,e,d,u0,u1,u2,u3,_,_,_,_,z,2⟩ { B:=B,hp:=.inr rfl,f1:=Qii ha',hN:=P0 (Kin kP hb) (zd k0),hUp:=U.up,hL:=Kdp _ B C.hp U.pos U.o,hA:=Uyq _ B (Qii ha') (Qii hu) kP } (zd k0) ha' (fun x=>by
  have hv:vl ((1:Rat)*a+-(1:Rat)*u0) ((1:Rat)*b+-(1:Rat)*u1) ((1:Rat)*e+-(1:Rat)*u2) ((1:Rat)*d+-(1:Rat)*u3) x=vl a b e d x-vl u0 u1 u2 u3 x:=by unfold vl;grind
  have hm:=Qyt (x:=x) hb (u0:=(1:Rat)*a+-(1:Rat)*u0) (u1:=(1:Rat)*b+-(1:Rat)*u1) (u2:=(1:Rat)*e+-(1:Rat)*u2) (u3:=(1:Rat)*d+-(1:Rat)*u3);rw[hv,show((1:Rat)*a+-(1:Rat)*u0)=0 from k0] at hm;rw[Ukq] at hm;constructor
  .intro h;exact⟨h.1,hm.2 (by rw[h.1,h.2];decide +kernel)⟩
  .intro h;have:=hm.1 h.2;rw[h.1] at this;exact⟨h.1,by grind⟩)
 refine⟨fun x0 ok=>R.1 x0 (hi2.2 ok.1) ((U.both x0).2 ok.2) (fun y iy hy=>uq2 C he hz ok.1 (hi2.1 iy) ok.2 ((U.both y).1 hy)),fun hn=>R.2 (fun h=>hn ?_)⟩;obtain⟨x,hx⟩:=h;exact⟨x,(U.both x).1 hx⟩
def df1{a b e d:Rat}{z:QC}(C:CO a b e d)(he:e=0)(sz:Qaj z)(hz:0<z.im):DFc 1 1 a b e d z:=by
 obtain⟨u0,u1,u2,u3,U,hu0⟩:=Uqy C he sz hz;rcases C.nf with h|⟨h,h2⟩|⟨h,h2,h3⟩
 .by_cases hu:u0=0
  .exact Vah C he sz hz U (by rw[h];decide) hu
  .exact Vaj C he sz hz U h hu
 .refine Vai C he sz hz U h (fun hu'=>?_);have hu:=hu0.1 hu';subst h;subst h2;subst he;have k:=Qws (a:=0) (b:=1) (d:=d) (z:=z) hz C.hp;have k2:=Qid 1 0 1 0 d z (by simp);have k3:=Qwq 0 1 d z;have k0:(upr 1 0 1 0 d z).1=0:=hu;rw[k0,k3] at k k2;generalize (upr 1 0 1 0 d z).2.1=x at *
  generalize (upr 1 0 1 0 d z).2.2.2=y at *
  unfold Qam at k k2;have:x=0:=by grind
  subst this;grind
 .rw[he] at h3;exact absurd h3 (by decide)
def Van{b e:Rat}{z:QC}{u0 u1 u2 u3:Rat}(C:CO 0 b e 0)(sz:Qaj z)(hz:0<1-nm z)(U:Up 2 0 b e 0 z u0 u1 u2 u3)(hu:u0=0)(h3:u3=0):DFc 2 2 0 b e 0 z:=by
 subst hu;subst h3;have hb:Kxg 2 0 b e 0 z ⟨0,0⟩:=(U.both ⟨0,0⟩).1 ⟨by unfold vl nm;grind,by unfold vl nm;grind⟩;refine⟨fun x0 ok=>?_,fun hn=>(hn ⟨_,hb⟩).elim⟩;have hi:0<1-nm (⟨0,0⟩:QC):=by unfold nm;decide +kernel
 have e0:(⟨0,0⟩:QC)=x0:=uq2 C rfl hz ok.1 hi ok.2 hb;have z0:RL (0:Rat) 65000:=(rl (0:Rat)).mn;have B:=Ufq (q:=2) C sz U z0 z0 z0 z0;have hD:¬(e*u1-b*u2=0):=fun k=>by
  have p1:=C.hp;have p2:=U.pos;have o:=U.o;unfold Qam at p1 p2 o;have c:(b*b+e*e)*(u1*u1+u2*u2)=0:=by
   have:(b*u1+e*u2)*(b*u1+e*u2)+(e*u1-b*u2)*(e*u1-b*u2)=0:=by rw[k];grind
   grind
  rcases axt.1 c with c|c<;>grind
 have e1:Ukl ⟨0,b,e,0,0,u1,u2,0,0,0,0,0,z,2⟩=0:=zd (show e*(-0*(1/2:Rat))-u2*(-0*(1/2:Rat))=0 by grind);have e2:Ukn ⟨0,b,e,0,0,u1,u2,0,0,0,0,0,z,2⟩=0:=zd (show b*(-0*(1/2:Rat))-u1*(-0*(1/2:Rat))=0 by grind);have k:=Kyj ⟨0,b,e,0,0,u1,u2,0,0,0,0,0,z,2⟩ { B:=B,hp:=.inr rfl,hD:=hD,hUp:=U.up,hL:=Kdp _ B C.hp U.pos U.o,f1:=rfl,f2:=rfl } (hi2.2 (show 0<1-nm (⟨Ukl _,Ukn _⟩:QC) by rw[e1,e2];unfold nm;decide +kernel));rw[e1,e2,e0] at k;exact⟨k,by rw[←e0];exact(Qkb (⟨0,0⟩:QC) 1 dK).mn⟩
def df2{a b e d:Rat}{z:QC}(C:CO a b e d)(he:a=d)(sz:Qaj z)(hz:0<1-nm z):DFc 2 2 a b e d z:=by
 obtain⟨u0,u1,u2,u3,U,hu0⟩:=Uqz C he sz hz
 by_cases hu:u0=0
 .rcases C.nf with h|h
  .exact Vak C he sz hz U (by rw[h];decide) hu
  .have h:a=0:=h.elim (fun k=>k.1) (fun k=>k.1);subst h;subst he;exact Van C sz hz U hu (U.uz rfl hu)
 .rcases C.nf with h|h
  .exact Vam C he sz hz U h hu
  .have h:a=0:=h.elim (fun k=>k.1) (fun k=>k.1);exact Val C he sz hz U h hu
def Vbs{a b e d:Rat}{z:QC}(C:CO a b e d)(he:e=0)(sz:Qaj z)(hz:0<z.im) :
  (lF 1 (Qbx a) (Qan ⟨b,e⟩) (Qbx d) z zRG 7/\dN 1 (Qbx a) (Qan ⟨b,e⟩) (Qbx d) z)\/∃ x,((Qaj x->lF 1 (Qbx a) (Qan ⟨b,e⟩) (Qbx d) z (Qan x) 0)/\(¬Qaj x->lF 1 (Qbx a) (Qan ⟨b,e⟩) (Qbx d) z zRG 4))/\dF 1 (Qbx a) (Qan ⟨b,e⟩) (Qbx d) z x:=by
 have D:=df1 C he sz hz;rcases ft1 C he sz hz with⟨h,hn⟩|⟨x,ok,h1,h2⟩
 .exact .inl ⟨h,D.2 hn⟩
 .exact .inr ⟨x,⟨h1,h2⟩,D.1 x ok⟩
def Vbt{a b e d:Rat}{z:QC}(C:CO a b e d)(he:a=d)(sz:Qaj z)(hz:0<1-nm z) :
  (lF 2 (Qbx a) (Qan ⟨b,e⟩) (Qbx d) z zRG 7/\dN 2 (Qbx a) (Qan ⟨b,e⟩) (Qbx d) z)\/∃ x,((Qaj x->lF 2 (Qbx a) (Qan ⟨b,e⟩) (Qbx d) z (Qan x) 0)/\(¬Qaj x->lF 2 (Qbx a) (Qan ⟨b,e⟩) (Qbx d) z zRG 4))/\dF 2 (Qbx a) (Qan ⟨b,e⟩) (Qbx d) z x:=by
 have D:=df2 C he sz hz;rcases ft2 C he sz hz with⟨h,hn⟩|⟨x,ok,h1,h2⟩
 .exact .inl ⟨h,D.2 hn⟩
 .exact .inr ⟨x,⟨h1,h2⟩,D.1 x ok⟩
def dJ(p:Int)(ca:Qbm)(cb:Qbg)(cc:Qbm)(r:Bool):Prop:=SCt 28 [.c (gxi p),.row (ca.cells++cb.cells++cc.cells)] (.r (.c (gl (.bool r))))
def dU(p:Int)(ca:Qbm)(cb:Qbg)(cc:Qbm)(z:QC)(a b c d:Rat):Prop:=SCt 32 [.c (gxi p),.row (ca.cells++cb.cells++cc.cells),.row (Qan z).cells] (.r (.row (rF a++rF b++rF c++rF d)))
def w13{a b e d:Rat}{z:QC}(C:CO a b e d)(sz:Qaj z):(⟨a,b,e,d,0,0,0,0,0,0,0,0,z,1⟩:W13).O:=by
 have z0:RL (0:Rat) 65000:=(rl (0:Rat)).mn;exact⟨(Qao C.sa).mn,(Qao C.sb).mn,(Qao C.se).mn,(Qao C.sd).mn,z0,z0,z0,z0,z0,z0,z0,z0,(Qmm sz).mn⟩
def zsh:Qaj (⟨0,0⟩:QC):=Qbf dK
def is1{a b e d:Rat}(C:CO a b e d):(e=0->lI 1 (Qbx a) (Qan ⟨b,e⟩) (Qbx d) true/\dJ 1 (Qbx a) (Qan ⟨b,e⟩) (Qbx d) true)/\(e≠0->lI 1 (Qbx a) (Qan ⟨b,e⟩) (Qbx d) false/\dJ 1 (Qbx a) (Qan ⟨b,e⟩) (Qbx d) false):=by
 have q:∀ x y:Rat,Qam a b e d 0 0 1 0=e:=fun _ _=>by unfold Qam;grind
 have B:(⟨a,b,e,d,⟨0,0⟩⟩:V5).O:=CO.bd (v:=⟨a,b,e,d,⟨0,0⟩⟩) C zsh;have k1:wx1 ⟨a,b,e,d,⟨0,0⟩⟩=e:=q 0 0;have k2:wy1 ⟨a,b,e,d,0,0,0,0,0,0,0,0,⟨0,0⟩,1⟩=e:=q 0 0;exact⟨fun h=>⟨Uhy ⟨a,b,e,d,⟨0,0⟩⟩ B C.wh (sg0 (k1.trans h)),Ugb ⟨a,b,e,d,0,0,0,0,0,0,0,0,⟨0,0⟩,1⟩ (w13 C zsh) (sg0 (k2.trans h))⟩,
  fun h=>⟨Uhz ⟨a,b,e,d,⟨0,0⟩⟩ B C.wh (Qii (by rw[k1];exact h)),Ugc ⟨a,b,e,d,0,0,0,0,0,0,0,0,⟨0,0⟩,1⟩ (w13 C zsh) (Qii (by rw[k2];exact h))⟩⟩
def is2{a b e d:Rat}(C:CO a b e d):(a=d->lI 2 (Qbx a) (Qan ⟨b,e⟩) (Qbx d) true/\dJ 2 (Qbx a) (Qan ⟨b,e⟩) (Qbx d) true)/\(a≠d->lI 2 (Qbx a) (Qan ⟨b,e⟩) (Qbx d) false/\dJ 2 (Qbx a) (Qan ⟨b,e⟩) (Qbx d) false):=by
 have q:Qam a b e d 1 0 0 (-1)=(a-d)/2:=by unfold Qam;grind
 have B:(⟨a,b,e,d,⟨0,0⟩⟩:V5).O:=CO.bd (v:=⟨a,b,e,d,⟨0,0⟩⟩) C zsh;have k1:wx2 ⟨a,b,e,d,⟨0,0⟩⟩=(a-d)/2:=q;have k2:wy2 ⟨a,b,e,d,0,0,0,0,0,0,0,0,⟨0,0⟩,1⟩=(a-d)/2:=q;exact⟨fun h=>⟨Uia ⟨a,b,e,d,⟨0,0⟩⟩ B C.wh (sg0 (k1.trans (by rw[h];grind))),Ugd ⟨a,b,e,d,0,0,0,0,0,0,0,0,⟨0,0⟩,1⟩ (w13 C zsh) (sg0 (k2.trans (by rw[h];grind)))⟩,
  fun h=>⟨Uib ⟨a,b,e,d,⟨0,0⟩⟩ B C.wh (Qii (by rw[k1];grind)),Uge ⟨a,b,e,d,0,0,0,0,0,0,0,0,⟨0,0⟩,1⟩ (w13 C zsh) (Qii (by rw[k2];grind))⟩⟩
def ur1{a b e d:Rat}{z:QC}(C:CO a b e d)(he:e=0)(sz:Qaj z)(hz:0<z.im):∃ u0 u1 u2 u3,dU 1 (Qbx a) (Qan ⟨b,e⟩) (Qbx d) z u0 u1 u2 u3 /\
  ((Qag u0/\Qag u1/\Qag u2/\Qag u3)->lU 1 (Qbx a) (Qan ⟨b,e⟩) (Qbx d) z (Qbx u0) (Qan ⟨u1,u2⟩) (Qbx u3) 0)/\(¬(Qag u0/\Qag u1/\Qag u2/\Qag u3)->lU 1 (Qbx a) (Qan ⟨b,e⟩) (Qbx d) z zRF zRG zRF 4):=by
 have B:(⟨a,b,e,d,z⟩:V5).O:=CO.bd (v:=⟨a,b,e,d,z⟩) C sz;have q:wx1 ⟨a,b,e,d,z⟩=0:=by show Qam a b e d 0 0 1 0=0;rw[he];unfold Qam;grind
 have hQ:=Qtm he hz C.hp;exact⟨_,_,_,_,Uzd C he sz hz,fun h=>Uig ⟨a,b,e,d,z⟩ B (Qpu hz) (sg0 q) C.wh hQ h,fun h=>Uih ⟨a,b,e,d,z⟩ B (Qpu hz) (sg0 q) C.wh hQ h⟩
def ur2{a b e d:Rat}{z:QC}(C:CO a b e d)(he:a=d)(sz:Qaj z)(hz:0<1-nm z):∃ u0 u1 u2 u3,dU 2 (Qbx a) (Qan ⟨b,e⟩) (Qbx d) z u0 u1 u2 u3 /\
  ((Qag u0/\Qag u1/\Qag u2/\Qag u3)->lU 2 (Qbx a) (Qan ⟨b,e⟩) (Qbx d) z (Qbx u0) (Qan ⟨u1,u2⟩) (Qbx u3) 0)/\(¬(Qag u0/\Qag u1/\Qag u2/\Qag u3)->lU 2 (Qbx a) (Qan ⟨b,e⟩) (Qbx d) z zRF zRG zRF 4):=by
 have B:(⟨a,b,e,d,z⟩:V5).O:=CO.bd (v:=⟨a,b,e,d,z⟩) C sz;have q:wx2 ⟨a,b,e,d,z⟩=0:=by show Qam a b e d 1 0 0 (-1)=0;rw[he];unfold Qam;grind
 have hQ:=Qtn he hz C.hp;exact⟨_,_,_,_,Uze C he sz hz,fun h=>Uii ⟨a,b,e,d,z⟩ B (Qpu hz) (sg0 q) C.wh hQ h,fun h=>Uij ⟨a,b,e,d,z⟩ B (Qpu hz) (sg0 q) C.wh hQ h⟩
def dV(ca:Qbm)(cb:Qbg)(cc:Qbm)(z x:QC):Prop:=SCt 35 [.row (ca.cells++cb.cells++cc.cells),.row (Qan z).cells] (.r (G1 x))
def Uvg{a b e d:Rat}(hp:0<Qam a b e d a b e d):¬(dq ((⟨-b,-(-e)⟩:QC),(⟨-d,(0:Rat)⟩:QC),(⟨a,(0:Rat)⟩:QC),(⟨b,e⟩:QC))=(⟨0,0⟩:QC)):=fun k=>by
 have h:=congrArg QC.re k;simp only[dq,qsr,qmr] at h;unfold Qam at hp;grind
def Udh{a b e d:Rat}{z:QC}(C:CO a b e d)(sz:Qaj z)(nd:rfD a b e d z≠⟨0,0⟩):dV (Qbx a) (Qan ⟨b,e⟩) (Qbx d) z (rfN a b e d z/rfD a b e d z):=by
 have hd:=Uvg C.hp;have hk:=Uco hd;have m:∀ x:QC,_:=fun x=>qdm (x:=x) hk
 have e1:by4 ((⟨-b,-(-e)⟩:QC),(⟨-d,(0:Rat)⟩:QC),(⟨a,(0:Rat)⟩:QC),(⟨b,e⟩:QC))*wy4 ⟨a,b,e,d,0,0,0,0,0,0,0,0,z,1⟩=rfD a b e d z:=by
  have h1:=m (⟨a,(0:Rat)⟩:QC);have h2:=m (⟨b,e⟩:QC);simp only[wy4,wy3,nm4];generalize by4 ((⟨-b,-(-e)⟩:QC),(⟨-d,(0:Rat)⟩:QC),(⟨a,(0:Rat)⟩:QC),(⟨b,e⟩:QC))=k at *
  generalize (⟨a,(0:Rat)⟩:QC)/k=x at *
  generalize (⟨b,e⟩:QC)/k=y at *
  have t1:=congrArg QC.re h1;have t2:=congrArg QC.im h1;have t3:=congrArg QC.re h2;have t4:=congrArg QC.im h2;simp only[qmr,qmi] at t1 t2 t3 t4;apply Qcj<;>simp only[rfD,qmr,qmi,qar,qai]<;>grind
 have e2:by4 ((⟨-b,-(-e)⟩:QC),(⟨-d,(0:Rat)⟩:QC),(⟨a,(0:Rat)⟩:QC),(⟨b,e⟩:QC))*wy6 ⟨a,b,e,d,0,0,0,0,0,0,0,0,z,1⟩=rfN a b e d z:=by
  have h1:=m (⟨-b,-(-e)⟩:QC);have h2:=m (⟨-d,(0:Rat)⟩:QC);simp only[wy6,wy5,nm4];generalize by4 ((⟨-b,-(-e)⟩:QC),(⟨-d,(0:Rat)⟩:QC),(⟨a,(0:Rat)⟩:QC),(⟨b,e⟩:QC))=k at *
  generalize (⟨-b,-(-e)⟩:QC)/k=x at *
  generalize (⟨-d,(0:Rat)⟩:QC)/k=y at *
  have t1:=congrArg QC.re h1;have t2:=congrArg QC.im h1;have t3:=congrArg QC.re h2;have t4:=congrArg QC.im h2;simp only[qmr,qmi] at t1 t2 t3 t4;apply Qcj<;>simp only[rfN,cj,qmr,qmi,qar,qai,qsr,qsi]<;>grind
 have n4:¬(wy4 ⟨a,b,e,d,0,0,0,0,0,0,0,0,z,1⟩=⟨0,0⟩):=fun k=>nd (by rw[←e1,k];exact Qcj (by simp only[qmr];grind) (by simp only[qmi];grind))
 have e3:wy7 ⟨a,b,e,d,0,0,0,0,0,0,0,0,z,1⟩=rfN a b e d z/rfD a b e d z:=by
  rw[<-e1,<-e2,Ksg hk n4];rfl
 have k:=Una ⟨a,b,e,d,0,0,0,0,0,0,0,0,z,1⟩ (w13 C sz) hd n4;rw[e3] at k;exact k
def ov1{a b e d:Rat}{z:QC}(C:CO a b e d)(he:e=0)(sz:Qaj z)(hz:0<z.im):∃ w,dV (Qbx a) (Qan ⟨b,e⟩) (Qbx d) z w /\
  (Qaj w->lV 1 (Qbx a) (Qan ⟨b,e⟩) (Qbx d) z (Qan w) 0)/\(¬Qaj w->lV 1 (Qbx a) (Qan ⟨b,e⟩) (Qbx d) z zRG 4):=by
 subst he;have nd:=(Kej (a:=a) (b:=b) (d:=d) (z:=z) (w:=z) (by have:=C.hp;unfold Qam at this;grind) hz hz).2.1;have B:=CO.bd (v:=⟨a,b,0,d,z⟩) C sz;have q:wx1 ⟨a,b,0,d,z⟩=0:=by show Qam a b 0 d 0 0 1 0=0;unfold Qam;grind
 have eD:wx5 ⟨a,b,0,d,z⟩+wx3 ⟨a,b,0,d,z⟩=rfD a b 0 d z:=by apply Qcj<;>simp only[wx5,wx3,rfD,cj,qmr,qmi,qar,qai]<;>grind
 have eN:wx4 ⟨a,b,0,d,z⟩-⟨d,0⟩=rfN a b 0 d z:=by apply Qcj<;>simp only[wx4,wx3,rfN,cj,qmr,qmi,qar,qai,qsr,qsi]<;>grind
 have eX:wx6 ⟨a,b,0,d,z⟩=rfN a b 0 d z/rfD a b 0 d z:=by rw[<-eD,<-eN];rfl
 refine⟨_,Udh C sz nd,fun h=>?_,fun h=>?_⟩
 .have k:=Uic ⟨a,b,0,d,z⟩ B (Qpu hz) (sg0 q) (by rw[eD];exact nd) C.wh (by rw[eX];exact h);rw[eX] at k;exact k
 .exact Uid ⟨a,b,0,d,z⟩ B (Qpu hz) (sg0 q) (by rw[eD];exact nd) C.wh (by rw[eX];exact h)
def ov2{a b e d:Rat}{z:QC}(C:CO a b e d)(he:a=d)(sz:Qaj z)(hz:0<1-nm z):∃ w,dV (Qbx a) (Qan ⟨b,e⟩) (Qbx d) z w /\
  (Qaj w->lV 2 (Qbx a) (Qan ⟨b,e⟩) (Qbx d) z (Qan w) 0)/\(¬Qaj w->lV 2 (Qbx a) (Qan ⟨b,e⟩) (Qbx d) z zRG 4):=by
 subst he;have nd:=(Kek (a:=a) (b:=b) (e:=e) (z:=z) (w:=z) (by have:=C.hp;unfold Qam at this;grind) hz hz).2.1;have B:=CO.bd (v:=⟨a,b,e,a,z⟩) C sz;have q:wx2 ⟨a,b,e,a,z⟩=0:=by show Qam a b e a 1 0 0 (-1)=0;unfold Qam;grind
 have eD:wx5 ⟨a,b,e,a,z⟩+wx3 ⟨a,b,e,a,z⟩=rfD a b e a z:=by apply Qcj<;>simp only[wx5,wx3,rfD,cj,qmr,qmi,qar,qai]<;>grind
 have eN:wx4 ⟨a,b,e,a,z⟩-⟨a,0⟩=rfN a b e a z:=by apply Qcj<;>simp only[wx4,wx3,rfN,cj,qmr,qmi,qar,qai,qsr,qsi]<;>grind
 have eX:wx6 ⟨a,b,e,a,z⟩=rfN a b e a z/rfD a b e a z:=by rw[<-eD,<-eN];rfl
 refine⟨_,Udh C sz nd,fun h=>?_,fun h=>?_⟩
 .have k:=Uie ⟨a,b,e,a,z⟩ B (Qpu hz) (sg0 q) (by rw[eD];exact nd) C.wh (by rw[eX];exact h);rw[eX] at k;exact k
 .exact Uif ⟨a,b,e,a,z⟩ B (Qpu hz) (sg0 q) (by rw[eD];exact nd) C.wh (by rw[eX];exact h)
def Uwz:SCt 36 [gIi 1,.row ((Qan (⟨0,1⟩:QC)).cells),.row ((Qan (⟨0,2⟩:QC)).cells)] (.tup [.row (rF (5/4:Rat)),gIi 0]):=by
 have e:Kwy ⟨0,1⟩ ⟨0,2⟩=5/4:=by decide +kernel
 have k:=Upv ⟨0,1⟩ ⟨0,2⟩ (Qbf dK) (Qbf dK) dK dK (by rw[e];decide +kernel);rw[e] at k;exact k
def Uoy  :SCt 11 [gIi 1,gIi 2] (.tup [.row ((Qan (⟨1,0⟩:QC)).cells++(Qan (⟨0,-1⟩:QC)).cells++(Qan (⟨1,0⟩:QC)).cells++(Qan (⟨0,1⟩:QC)).cells++[gl (.bool false)]),gIi 0]) :=
  Qas (L := [(Qan (⟨0,1⟩ : QC)).cells,(Qan (⟨0,0⟩ : QC)).cells,(Qan (⟨1,0⟩ : QC)).cells,(Qan (⟨0,-1⟩ : QC)).cells,cn (⟨1,0⟩ : QC),cn (⟨0,-1⟩ : QC),cn (⟨0,1⟩ : QC),cn (⟨0,2⟩ : QC),(Qan ((⟨1,0⟩ : QC)/(⟨1,0⟩ : QC))).cells,(Qan ((⟨0,-1⟩ : QC)/(⟨1,0⟩ : QC))).cells,(Qan ((⟨1,0⟩ : QC)/(⟨1,0⟩ : QC))).cells,(Qan ((⟨0,1⟩ : QC)/(⟨1,0⟩ : QC))).cells].flatten) Qae Qai
     [Qbw eo78,gpi 0 1 0,gpi 0 0 8,gpi 1 0 16,gpi 0 (-1) 24,gs (Qgl (⟨1,0⟩:QC) (Qbf dK)) [yR 16 8] (.tup [sy [32,33],cTt]),gs (Qgl (⟨0,-1⟩:QC) (Qbf dK)) [yR 24 8] (.tup [sy [34,35],cTt]),gs (Qgl (⟨0,1⟩:QC) (Qbf dK)) [yR 0 8] (.tup [sy [36,37],cTt]),gs (Uyv (⟨1,0⟩:QC) (⟨0,-1⟩:QC) (⟨1,0⟩:QC) (⟨0,1⟩:QC) false ((Qkb (⟨1,0⟩:QC) 1 dK).mn) ((Qkb (⟨0,-1⟩:QC) 1 dK).mn) ((Qkb (⟨1,0⟩:QC) 1 dK).mn) ((Qkb (⟨0,1⟩:QC) 1 dK).mn)) [.row (flA [Qbd 32 4,[.sym 32,.sym 33,.sym 36,.sym 37,.lit (.bool false)]])] (.r (sy [38,39])),gs (Qqb (⟨0,2⟩:QC) false (fI dK)) [sy [38,39]] vFf,gs ((Ugi (⟨1,0⟩:QC) (⟨0,-1⟩:QC) (⟨1,0⟩:QC) (⟨0,1⟩:QC) ((Qkb (⟨1,0⟩:QC) 1 dK).mn) ((Qkb (⟨0,-1⟩:QC) 1 dK).mn) ((Qkb (⟨1,0⟩:QC) 1 dK).mn) ((Qkb (⟨0,1⟩:QC) 1 dK).mn) dK).t ⟨Qbf dK,Qbf dK,Qbf dK,Qbf dK⟩) [.row (flA [Qbd 32 4,[.sym 32,.sym 33,.sym 36,.sym 37,.lit (.bool false)]])] (.tup [.row (flA [Qbd 40 32,[.lit (.bool false)]]),lc 0])]
     [] [] ((Qup (Kqh (Qsa (Qsb (Qsc (Knm (Qrz (Uwh (Vbi .nil))))))))):FnsOk prog _) 1 3 func11 eo11 2000 [lc 1,lc 2] (.tup [.row (flA [Qbd 40 32,[.lit (.bool false)]]),lc 0])
def Vbz:SCt 39 [gIi 1,.row ((Qan (⟨0,1⟩:QC)).cells),.row ((Qan (⟨0,4⟩:QC)).cells)] (.tup [.row ((Qan (⟨1,0⟩:QC)).cells++(Qan (⟨0,-4⟩:QC)).cells),gIi 0]):=by
 have e0:Qje ⟨0,1⟩ ⟨0,4⟩/byF (Qje ⟨0,1⟩ ⟨0,4⟩) (Qjf ⟨0,1⟩ ⟨0,4⟩) (Qjg ⟨0,1⟩ ⟨0,4⟩)=1:=by decide +kernel
 have e1:Qjf ⟨0,1⟩ ⟨0,4⟩/byF (Qje ⟨0,1⟩ ⟨0,4⟩) (Qjf ⟨0,1⟩ ⟨0,4⟩) (Qjg ⟨0,1⟩ ⟨0,4⟩)=0:=by decide +kernel
 have e2:Qjg ⟨0,1⟩ ⟨0,4⟩/byF (Qje ⟨0,1⟩ ⟨0,4⟩) (Qjf ⟨0,1⟩ ⟨0,4⟩) (Qjg ⟨0,1⟩ ⟨0,4⟩)=0:=by decide +kernel
 have e3:Qlr ⟨0,1⟩ ⟨0,4⟩/byF (Qje ⟨0,1⟩ ⟨0,4⟩) (Qjf ⟨0,1⟩ ⟨0,4⟩) (Qjg ⟨0,1⟩ ⟨0,4⟩)=-4:=by decide +kernel
 have k:=Upx ⟨0,1⟩ ⟨0,4⟩ (Qbf dK) (Qbf dK) dK dK (fun e=>absurd (congrArg QC.im e) dK) (by unfold Koh;rw[e0,e1,e2,e3];exact⟨by decide +kernel,by decide +kernel,by decide +kernel,by decide +kernel⟩);unfold Quo at k;rw[e0,e1,e2,e3] at k;exact k
def Vby  :SCt 56 [gIi 1,.row ((Qan (⟨0,1⟩:QC)).cells),.row ((Qan (⟨0,2⟩:QC)).cells),.row ((Qan (⟨1,1⟩:QC)).cells)] (.tup [.row (rF (1/5:Rat)),gIi 1,gIi 0]) :=
  have t1:=Qik (1:Rat) 1 dK;have t2:=Qax (1:Rat) (2:Rat) (rk 1) (rk 2);have t3:=Qcc (2:Rat) (4:Rat) (rk 2) (rk 4) dK;have t4:=Qkk (1:Rat) (1/2:Rat) (rk 1) (rk (1/2:Rat))
  Qas (L := [(Qan (⟨0,1⟩ : QC)).cells,(Qan (⟨0,2⟩ : QC)).cells,(Qan (⟨1,1⟩ : QC)).cells,(Qan (⟨0,1⟩ : QC)).cells,(Qan (⟨0,0⟩ : QC)).cells,cn (⟨0,1⟩ : QC),[gr (0 : Rat),gr (1 : Rat)],cn (⟨0,2⟩ : QC),[gr (0 : Rat),gr (2 : Rat)],cn (⟨1,1⟩ : QC),[gr (1 : Rat),gr (1 : Rat)],cn (⟨0,-1⟩ : QC),[gr (1 : Rat),gr (2 : Rat),gr (1/2 : Rat),gr (1 : Rat),gr (2 : Rat),gr (1 : Rat),gr (4 : Rat),gr (1/4 : Rat),gr (5/4 : Rat)],cn (⟨-1,0⟩ : QC),[gr (1 : Rat),gr (1 : Rat),gr (1 : Rat),gr (2 : Rat),gr (1/2 : Rat),gr (3/2 : Rat)],cn (⟨-1,1⟩ : QC),[gr (2 : Rat),gr (2 : Rat),gr (1 : Rat),gr (2 : Rat),gr (1/2 : Rat),gr (3/2 : Rat),gr (25/16 : Rat),gr (9/16 : Rat),gr (9/4 : Rat),gr (5/4 : Rat),gr (45/64 : Rat),gr (15/8 : Rat),gr (-3/8 : Rat),gr (9/64 : Rat),gr (1/5 : Rat)],cF (1/5 : Rat)].flatten) Qae Qai
     [Qbw eo78,gpi 0 1 24,gpi 0 0 32,gs (Qgl (⟨0,1⟩:QC) (Qbf dK)) [yR 0 8] (.tup [sy [40,41],cTt]),gs (Qcr (⟨0,1⟩:QC) ((Qkb (⟨0,1⟩:QC) 1 dK).mn)) [sy [40,41]] (.tup [cS 42,cS 43]),gs (t1) [cS 43] (.r (lc 1)),gs (Qgl (⟨0,2⟩:QC) (Qbf dK)) [yR 8 8] (.tup [sy [44,45],cTt]),gs (Qcr (⟨0,2⟩:QC) ((Qkb (⟨0,2⟩:QC) 1 dK).mn)) [sy [44,45]] (.tup [cS 46,cS 47]),gs (Qik (2:Rat) 1 dK) [cS 47] (.r (lc 1)),gs (Qgl (⟨1,1⟩:QC) (Qbf dK)) [yR 16 8] (.tup [sy [48,49],cTt]),gs (Qcr (⟨1,1⟩:QC) ((Qkb (⟨1,1⟩:QC) 1 dK).mn)) [sy [48,49]] (.tup [cS 50,cS 51]),gs (t1) [cS 51] (.r (lc 1)),gs (Qem (⟨0,1⟩:QC) (⟨0,2⟩:QC) (Qkb (⟨0,1⟩:QC) 1 dK) (Qkb (⟨0,2⟩:QC) 1 dK) (by decide)) [sy [40,41],sy [44,45]] (.r (sy [52,53])),gs (Qee (⟨0,-1⟩:QC) ((Qkb (⟨0,-1⟩:QC) 1 dK).mn)) [sy [52,53]] (rS 54),gs (t2) [cS 43,cS 47] (rS 55),gs (Qcc (1:Rat) (2:Rat) (rk 1) (rk 2) dK) [cS 54,cS 55] (rS 56),gs (pnr 1) [lc 1,lc 1] (rS 57),gs (pnr 2) [lc 2,lc 1] (rS 58),gs (Qax (1/2:Rat) (2:Rat) (rk (1/2:Rat)) (rk 2)) [cS 56,cS 58] (rS 59),gs (pnr 4) [lc 4,lc 1] (rS 60),gs (Qcc (1:Rat) (4:Rat) (rk 1) (rk 4) dK) [cS 59,cS 60] (rS 61),gs (Qkk (1:Rat) (1/4:Rat) (rk 1) (rk (1/4:Rat))) [cS 57,cS 61] (rS 62),gs (Qem (⟨0,1⟩:QC) (⟨1,1⟩:QC) (Qkb (⟨0,1⟩:QC) 1 dK) (Qkb (⟨1,1⟩:QC) 1 dK) (by decide)) [sy [40,41],sy [48,49]] (.r (sy [63,64])),gs (Qee (⟨-1,0⟩:QC) ((Qkb (⟨-1,0⟩:QC) 1 dK).mn)) [sy [63,64]] (rS 65),gs (Qax (1:Rat) (1:Rat) (rk 1) (rk 1)) [cS 43,cS 51] (rS 66),gs (Qcc (1:Rat) (1:Rat) (rk 1) (rk 1) dK) [cS 65,cS 66] (rS 67),gs (t2) [cS 67,cS 58] (rS 68),gs (t3) [cS 68,cS 60] (rS 69),gs (t4) [cS 57,cS 69] (rS 70),gs (Qem (⟨0,2⟩:QC) (⟨1,1⟩:QC) (Qkb (⟨0,2⟩:QC) 1 dK) (Qkb (⟨1,1⟩:QC) 1 dK) (by decide)) [sy [44,45],sy [48,49]] (.r (sy [71,72])),gs (Qee (⟨-1,1⟩:QC) ((Qkb (⟨-1,1⟩:QC) 1 dK).mn)) [sy [71,72]] (rS 73),gs (Qax (2:Rat) (1:Rat) (rk 2) (rk 1)) [cS 47,cS 51] (rS 74),gs (Qcc (2:Rat) (2:Rat) (rk 2) (rk 2) dK) [cS 73,cS 74] (rS 75),gs (t2) [cS 75,cS 58] (rS 76),gs (t3) [cS 76,cS 60] (rS 77),gs (t4) [cS 57,cS 77] (rS 78),gs (Qax (5/4:Rat) (5/4:Rat) (rk (5/4:Rat)) (rk (5/4:Rat))) [cS 62,cS 62] (rS 79),gs (Qcw (25/16:Rat) (1:Rat) (rk (25/16:Rat)) (rk 1)) [cS 79,cS 57] (rS 80),gs (Qax (3/2:Rat) (3/2:Rat) (rk (3/2:Rat)) (rk (3/2:Rat))) [cS 70,cS 70] (rS 81),gs (Qcw (9/4:Rat) (1:Rat) (rk (9/4:Rat)) (rk 1)) [cS 81,cS 57] (rS 82),gs (Qax (9/16:Rat) (5/4:Rat) (rk (9/16:Rat)) (rk (5/4:Rat))) [cS 80,cS 82] (rS 83),gs (Qax (5/4:Rat) (3/2:Rat) (rk (5/4:Rat)) (rk (3/2:Rat))) [cS 62,cS 70] (rS 84),gs (Qcw (3/2:Rat) (15/8:Rat) (rk (3/2:Rat)) (rk (15/8:Rat))) [cS 78,cS 84] (rS 85),gs (Qax (-3/8:Rat) (-3/8:Rat) (rk (-3/8:Rat)) (rk (-3/8:Rat))) [cS 85,cS 85] (rS 86),gs (Qcc (9/64:Rat) (45/64:Rat) (rk (9/64:Rat)) (rk (45/64:Rat)) dK) [cS 86,cS 83] (rS 87),gs (Qdo (1/5:Rat) (rk (1/5:Rat)) dK) [cS 87] (.tup [yQ 88,lc 0]),gs (Qik (-3/8:Rat) (-1) dK) [cS 85] (.r (lc (-1)))]
     [bG (yR 0 8) (yR 8 8) (Qan (⟨0,1⟩:QC)) (Qan (⟨0,2⟩:QC)) false ((fI dK).trans Qyg.symm),bG (yR 0 8) (yR 16 8) (Qan (⟨0,1⟩:QC)) (Qan (⟨1,1⟩:QC)) false ((fI dK).trans Qyg.symm)] [Uoo (lc (-1)) (li 1) (vx:=.int .i64 (-1)) (v:=.int .i64 1) (fun w=>by kernel_rfl) kR kR] ((Qup (Kqh (Qsa (Qsb (Qsc (Knm (Qrz (Uwh (Uwb .nil))))))))):FnsOk prog _) 1 5 func56 eo56 2000 [lc 1,yR 0 8,yR 8 8,yR 16 8] (.tup [yQ 88,lc 1,lc 0])
def Uxa  :SCt 36 [gIi 1,.row ((Qan (⟨0,0⟩:QC)).cells),.row ((Qan (⟨0,1⟩:QC)).cells)] (.tup [.row (zFG),gIi 350]) :=
  Qas (L := [(Qan (⟨0,0⟩ : QC)).cells,(Qan (⟨0,1⟩ : QC)).cells,(Qan (⟨0,1⟩ : QC)).cells,(Qan (⟨0,0⟩ : QC)).cells,cn (⟨0,0⟩ : QC),[gr (0 : Rat),gr (0 : Rat)],cn (⟨0,1⟩ : QC),[gr (0 : Rat),gr (1 : Rat)]].flatten) Qae Qai
     [Qbw eo78,gpi 0 1 16,gpi 0 0 24,gs (Qgl (⟨0,0⟩:QC) (Qbf dK)) [yR 0 8] (.tup [sy [32,33],cTt]),gs (Qcr (⟨0,0⟩:QC) ((Qkb (⟨0,0⟩:QC) 1 dK).mn)) [sy [32,33]] (.tup [cS 34,cS 35]),gs (Qik (0:Rat) 0 dK) [cS 35] (.r (lc 0)),gs (Qgl (⟨0,1⟩:QC) (Qbf dK)) [yR 8 8] (.tup [sy [36,37],cTt]),gs (Qcr (⟨0,1⟩:QC) ((Qkb (⟨0,1⟩:QC) 1 dK).mn)) [sy [36,37]] (.tup [cS 38,cS 39]),gs (Qik (1:Rat) 1 dK) [cS 39] (.r (lc 1))]
     [] [] ((Qup (Kqh (Qsa (Qsb (Qsc (Knm (Qrz (Uwh .nil)))))))):FnsOk prog _) 1 4 func36 eo36 2000 [lc 1,yR 0 8,yR 8 8] (.tup [.row (zFA),lc 350])
def Uxb:SCt 23 [gIi 1,.row ((Qan (⟨0,1⟩:QC)).cells++(Qan (⟨0,0⟩:QC)).cells),.row ((Qan (⟨3,4⟩:QC)).cells)] (.tup [.row ((Qan (⟨0,5⟩:QC)).cells),gIi 0]):=by
 have hs:Qer (Kde ⟨0,1,0,0,⟨3,4⟩⟩)/\sqr (Kde ⟨0,1,0,0,⟨3,4⟩⟩)=5:=Uqu (by decide) dK;have e0:Qoz ⟨0,1,0,0,⟨3,4⟩⟩=⟨0,5⟩:=by
  unfold Qoz Uka;rw[hs.2];exact Qcj dK dK
 have k:=Kic ⟨0,1,0,0,⟨3,4⟩⟩ { B:=⟨by decide +kernel,by decide +kernel,by decide +kernel,by decide +kernel,(Qbf dK)⟩,f2:=by decide +kernel,hN:=by decide +kernel,hW:=Uec 0 0 dK dK dK,hz:=by decide +kernel,f0:=by decide +kernel,f1:=by decide +kernel } hs.1 (by rw[e0];decide +kernel) (by rw[e0];exact Qbf dK);rw[e0] at k;exact k
def Vca  :SCt 116 [.row ((Qan (⟨0,0⟩:QC)).cells++(Qan (⟨1,0⟩:QC)).cells++(Qan (⟨1,0⟩:QC)).cells++(Qan (⟨1,1⟩:QC)).cells++(Qan (⟨1,0⟩:QC)).cells++(Qan (⟨2,4⟩:QC)).cells)] (.r (.row ((Qan (⟨0,-3/4⟩:QC)).cells++(Qan (⟨0,0⟩:QC)).cells))):=by
 have e0:up0 0 0 1 1 0 1 1 0 2=0:=by decide +kernel
 have e1:up1 0 1 0 1 1 1 1 2 4=-3/4:=by decide +kernel
 have e2:up2 0 0 0 1 0 1 1 0 4=0:=by decide +kernel
 have e3:up3 0 1 0 0 1 1 0 2 4=0:=by decide +kernel
 have k:=Uvf 0 0 1 0 1 0 1 1 1 0 2 4 ((Qeb (0:Rat) 2 dK).mn) ((Qeb (0:Rat) 2 dK).mn) ((Qeb (1:Rat) 2 dK).mn) ((Qeb (0:Rat) 2 dK).mn) ((Qeb (1:Rat) 2 dK).mn) ((Qeb (0:Rat) 2 dK).mn) ((Qeb (1:Rat) 2 dK).mn) ((Qeb (1:Rat) 2 dK).mn) ((Qeb (1:Rat) 2 dK).mn) ((Qeb (0:Rat) 2 dK).mn) ((Qeb (2:Rat) 2 dK).mn) ((Qeb (4:Rat) 2 dK).mn);rw[e0,e1,e2,e3] at k;exact k
def Uxc  :SCt 47 [gIi 1,.row ((Qan (⟨0,1⟩:QC)).cells),.row ((Qan (⟨0,2⟩:QC)).cells)] (.r (.row ((Qan (⟨0,1⟩:QC)).cells++(Qan (⟨0,0⟩:QC)).cells))) :=
  have t1:=Qhg (0:Rat);have t2:=Qat (0:Rat) (0:Rat) (rk 0) (rk 0);have t3:=Qcn (0:Rat) (-3/4:Rat) (rk 0) (rk (-3/4:Rat)) (Qak dK)
  Qas (L := [cG (⟨0,1⟩ : QC),cG (⟨0,2⟩ : QC),cF (0 : Rat),(Qan (⟨0,1⟩ : QC)).cells,cF (1 : Rat),cF (0 : Rat),cF (1 : Rat),cF (0 : Rat),cF (4 : Rat),(Qan (⟨0,-3/4⟩ : QC)).cells,(Qan (⟨0,0⟩ : QC)).cells,cF (9/16 : Rat),cF (0 : Rat),cF (9/16 : Rat),cF (0 : Rat),cF (0 : Rat),cF (0 : Rat),cF (1/2 : Rat),cF (0 : Rat),cF (9/16 : Rat),[gxi ((9/16 : Rat).num.sign),gxi ((0 : Rat).num.sign),gxi ((-3/4 : Rat).num.sign)],cF (0 : Rat),cF (1 : Rat),cF (0 : Rat),cF (0 : Rat)].flatten) Qae Qai
     [Qbw eo78,gs (Qfv 0 (by decide) (by decide)) [lc 0] (rQ 12),gs (Knn 0 1) [lc 0,lc 1] (.r (yR 15 8)),gs (Qfv 1 (by decide) (by decide)) [lc 1] (rQ 23),gs (t1) [yQ 0] (rQ 26),gs (Qlg (⟨0,1⟩:QC) ((Qkb (⟨0,1⟩:QC) 1 dK).mn)) [.row (gR 0)] (rQ 29),gs (t1) [yQ 6] (rQ 32),gs (Qlg (⟨0,2⟩:QC) ((Qkb (⟨0,2⟩:QC) 1 dK).mn)) [.row (gR 6)] (rQ 35),gs (Vca) [.row (flA [[.sym 12,.sym 13,.lit (.bool false)],Qbd 14 9,(qS 12),gR 23,[.sym 3,.sym 4,.lit (.bool false),.sym 5,.sym 29,.sym 30,.lit (.bool false),.sym 31,.sym 23,.sym 24,.lit (.bool false),.sym 25,.sym 32,.sym 33,.lit (.bool false),.sym 34,.sym 9,.sym 10,.lit (.bool false),.sym 11,.sym 35,.sym 36,.lit (.bool false),.sym 37]])] (.r (yR 38 16)),gs (Qat (-3/4:Rat) (-3/4:Rat) (rk (-3/4:Rat)) (rk (-3/4:Rat))) [yR 42 4,yR 42 4] (rQ 54),gs (t2) [yR 46 4,yR 46 4] (rQ 57),gs (Qek (9/16:Rat) (0:Rat) (rk (9/16:Rat)) (rk 0)) [yQ 54,yQ 57] (rQ 60),gs (t2) [yR 38 4,yR 50 4] (rQ 63),gs (t2) [yR 50 4,yR 38 4] (rQ 66),gs (Qek (0:Rat) (0:Rat) (rk 0) (rk 0)) [yQ 63,yQ 66] (rQ 69),gs (Qou 1 2 (1/2:Rat) (by decide) (by decide) (by decide) (by decide) (by decide) dK) [lc 1,lc 2] (rQ 72),gs (Qat (0:Rat) (1/2:Rat) (rk 0) (rk (1/2:Rat))) [yQ 69,yQ 72] (rQ 75),gs (Qcz (9/16:Rat) (0:Rat) (rk (9/16:Rat)) (rk 0)) [yQ 60,yQ 75] (rQ 78),gs (Qcp (9/16:Rat)) [yQ 78] (rS 81),gs (Qcp (0:Rat)) [yR 38 4] (rS 82),gs (Qcp (-3/4:Rat)) [yR 42 4] (rS 83),gs (t3) [yR 38 4,yR 42 4] (rQ 84),gs (Qcn (-3/4:Rat) (-3/4:Rat) (rk (-3/4:Rat)) (rk (-3/4:Rat)) (Qak dK)) [yR 42 4,yR 42 4] (rQ 87),gs (t3) [yR 46 4,yR 42 4] (rQ 90),gs (t3) [yR 50 4,yR 42 4] (rQ 93)]
     [bI .leq 3 (.sym 81) (li 0) ((9/16:Rat).num.sign) 0 false (by simp only[Qil];exact congrArg some (decide_eq_false dK)),bI .eql 3 (.sym 82) (li 0) ((0:Rat).num.sign) 0 true dK,bI .eql 3 (.sym 83) (li 0) ((-3/4:Rat).num.sign) 0 false dK] [] ((Uob (Kqg (Kdy (Qxr (Ugt (Ugs (Kea (Kdx (Kdz (Vbh (Ugx (Kyv (Kwz (Uwj (Uwi (Ugv (Uwl (Ugw (Uwk (Ukv .nil)))))))))))))))))))):FnsOk prog _) 1 5 func47 eo47 2000 [lc 1,.row (gR 0),.row (gR 6)] (.r (.row (gL [84,90])))
def Uoz  :SCt 68 [.row ((Qan (⟨0,0⟩:QC)).cells),.row (rF (4:Rat))] (.tup [.row ((Qan (⟨1,0⟩:QC)).cells++(Qan (⟨0,-4⟩:QC)).cells),gIi 0]) :=
  have t1:=Qlg (⟨0,0⟩:QC) ((Qkb (⟨0,0⟩:QC) 1 dK).mn);have t2:=Qcn (0:Rat) (1:Rat) (rk 0) (rk 1) (Qak dK)
  Qas (L := [cG (⟨0,0⟩ : QC),cF (4 : Rat),cF (1 : Rat),cG (⟨0,0⟩ : QC),cG (⟨0,0⟩ : QC),cF (0 : Rat),cF (-4 : Rat),cF (0 : Rat),cF (-4 : Rat),cF (4 : Rat),[gxi ((4 : Rat).num.sign),gxi ((1 : Rat).num.sign)],cF (1 : Rat),cF (0 : Rat),cF (0 : Rat),cF (-4 : Rat)].flatten) Qae Qai
     [Qbw eo78,gs (Qfv 1 (by decide) (by decide)) [lc 1] (rQ 9),gs (Uin (⟨0,0⟩:QC)) [.row (gR 0)] (.r (.row (gR 12))),gs (Uxq (⟨0,0⟩:QC)) [.row (gR 12)] (.r (.row (gR 18))),gs (t1) [.row (gR 0)] (rQ 24),gs (Qcz (0:Rat) (4:Rat) (rk 0) (rk 4)) [yQ 24,yQ 6] (rQ 27),gs (t1) [.row (gR 18)] (rQ 30),gs (Qat (1:Rat) (-4:Rat) (rk 1) (rk (-4))) [yQ 9,yQ 27] (rQ 33),gs (Qcz (0:Rat) (-4:Rat) (rk 0) (rk (-4))) [yQ 30,yQ 33] (rQ 36),gs (Qcp (4:Rat)) [yQ 36] (rS 39),gs (Qcp (1:Rat)) [yQ 9] (rS 40),gs (Qcn (1:Rat) (1:Rat) (rk 1) (rk 1) (Qak dK)) [yQ 9,yQ 9] (rQ 41),gs (t2) [yQ 18,yQ 9] (rQ 44),gs (t2) [yQ 21,yQ 9] (rQ 47),gs (Qcn (-4:Rat) (1:Rat) (rk (-4)) (rk 1) (Qak dK)) [yQ 27,yQ 9] (rQ 50)]
     [bI .leq 3 (.sym 39) (li 0) ((4:Rat).num.sign) 0 false (by simp only[Qil];exact congrArg some (decide_eq_false dK)),bI .eql 3 (.sym 40) (li 0) ((1:Rat).num.sign) 0 false dK] [] ((Vbg (Uob (Kqg (Kdy (Qxr (Ugt (Unp (Ugs (Kea (Unx (Kdx (Kdz (Ugx (Kyv (Kwz (Uwj (Uwi (Ugv (Uwl (Ugw (Uwk (Ukv .nil)))))))))))))))))))))):FnsOk prog _) 1 5 func68 eo68 2000 [.row (gR 0),yQ 6] (.tup [.row (gL [41,47]),lc 0])
def Qkj  :SCt 10 [] (.r gTt) :=
  have t1:=Qfi (⟨1,0⟩:QC) (⟨0,1⟩:QC) (Qkb (⟨1,0⟩:QC) 1 dK) (Qkb (⟨0,1⟩:QC) 1 dK) (by decide)
  Qas (L := [(Qan (⟨0,1⟩ : QC)).cells,(Qan (⟨0,2⟩ : QC)).cells,cF (5/4 : Rat),(Qan (⟨1,0⟩ : QC)).cells,(Qan (⟨0,-1⟩ : QC)).cells,(Qan (⟨1,0⟩ : QC)).cells,(Qan (⟨0,1⟩ : QC)).cells,cn (⟨1,0⟩ : QC),cn (⟨0,-1⟩ : QC),cn (⟨1,0⟩ : QC),cn (⟨0,1⟩ : QC),cn (⟨0,1⟩ : QC),cn (⟨0,1⟩ : QC),cn (⟨0,0⟩ : QC),cn (⟨0,1⟩ : QC),cn (⟨0,2⟩ : QC),cn (⟨0,0⟩ : QC),(Qan (⟨0,0⟩ : QC)).cells,(Qan (⟨0,1⟩ : QC)).cells,(Qan (⟨0,0⟩ : QC)).cells,(Qan (⟨3,4⟩ : QC)).cells,(Qan (⟨0,5⟩ : QC)).cells,(Qan (⟨0,4⟩ : QC)).cells,(Qan (⟨1,0⟩ : QC)).cells,(Qan (⟨0,-4⟩ : QC)).cells,(Qan (⟨0,0⟩ : QC)).cells,cF (4 : Rat),(Qan (⟨1,0⟩ : QC)).cells,(Qan (⟨0,-4⟩ : QC)).cells,(Qan (⟨1,1⟩ : QC)).cells,cF (1/5 : Rat),cF (5/4 : Rat),(Qan (⟨0,5⟩ : QC)).cells,cF (1/5 : Rat)].flatten) Qae Qai
     [Qbw eo78,gs (Knn 0 1) [lc 0,lc 1] (.r (yR 0 8)),gs (Knn 0 2) [lc 0,lc 2] (.r (yR 8 8)),gs (Uwz) [lc 1,yR 0 8,yR 8 8] (.tup [yQ 16,lc 0]),gs (Uoy) [lc 1,lc 2] (.tup [.row (flA [Qbd 19 32,[.lit (.bool false)]]),lc 0]),gs (((Uvi (⟨1,0⟩:QC) (⟨0,-1⟩:QC) (⟨1,0⟩:QC) (⟨0,1⟩:QC) false (Qbf dK) (Qbf dK) (Qbf dK) (Qbf dK)).f dK).t dK) [.row (flA [Qbd 19 32,[.lit (.bool false)]])] (.tup [.row (flA [Qbd 51 8,[.lit (.bool false)]]),cTt]),gs (Qgl (⟨0,1⟩:QC) (Qbf dK)) [yR 0 8] (.tup [sy [59,60],cTt]),gs (t1) [sy [51,52],sy [59,60]] (.r (sy [61,62])),gs (Qqh (⟨0,1⟩:QC) (⟨0,-1⟩:QC) (Qkb (⟨0,1⟩:QC) 1 dK) (Qkb (⟨0,-1⟩:QC) 1 dK) (by decide)) [sy [61,62],sy [53,54]] (.r (sy [63,64])),gs (t1) [sy [55,56],sy [59,60]] (.r (sy [65,66])),gs (Qqh (⟨0,1⟩:QC) (⟨0,1⟩:QC) (Qkb (⟨0,1⟩:QC) 1 dK) (Qkb (⟨0,1⟩:QC) 1 dK) (by decide)) [sy [65,66],sy [57,58]] (.r (sy [67,68])),gs (Qqb (⟨0,2⟩:QC) false (fI dK)) [sy [67,68]] vFf,gs (Kem (⟨0,0⟩:QC) (⟨0,2⟩:QC) dK (Qkb (⟨0,0⟩:QC) 1 dK) (Qkb (⟨0,2⟩:QC) 1 dK) (by decide)) [sy [63,64],sy [67,68]] (.r (sy [69,70])),gs (Qej (⟨0,0⟩:QC) ((Qkb (⟨0,0⟩:QC) 1 dK).mn) (Qbf dK)) [sy [69,70]] (.tup [yR 71 8,lc 0]),gs (Uxc) [lc 1,yR 0 8,yR 8 8] (.r (yR 79 16)),gs (Knn 3 4) [lc 3,lc 4] (.r (yR 95 8)),gs (Uxb) [lc 1,yR 79 16,yR 95 8] (.tup [yR 103 8,lc 0]),gs (Knn 0 4) [lc 0,lc 4] (.r (yR 111 8)),gs (Vbz) [lc 1,yR 0 8,yR 111 8] (.tup [yR 119 16,lc 0]),gs (Knn 0 0) [lc 0,lc 0] (.r (yR 135 8)),gs (Qfv 4 (by decide) (by decide)) [lc 4] (rQ 143),gs (Uoz) [yR 135 8,yQ 143] (.tup [yR 146 16,lc 0]),gs (Knn 1 1) [lc 1,lc 1] (.r (yR 162 8)),gs (Vby) [lc 1,yR 0 8,yR 8 8,yR 162 8] (.tup [yQ 170,lc 1,lc 0]),gs (Uxa) [lc 1,yR 135 8,yR 0 8] (.tup [.row (zFA),lc 350]),gs (Qou 5 4 (5/4:Rat) (by decide) (by decide) (by decide) (by decide) (by decide) dK) [lc 5,lc 4] (rQ 173),gs (Knn 0 5) [lc 0,lc 5] (.r (yR 176 8)),gs (Qou 1 5 (1/5:Rat) (by decide) (by decide) (by decide) (by decide) (by decide) dK) [lc 1,lc 5] (rQ 184)]
     [bF (yQ 16) (yQ 173) (5/4:Rat) (5/4:Rat) true (tI rfl),bP (.row (flA [[.lit (.bool false)],Qbd 71 8])) (.row (flA [[.lit (.bool false)],Qbd 135 8])) (Uqp (some (⟨0,0⟩:QC))) (Uqp (some (⟨0,0⟩:QC))) true (tI rfl),bG (yR 103 8) (yR 176 8) (Qan (⟨0,5⟩:QC)) (Qan (⟨0,5⟩:QC)) true (tI rfl),bCt (yR 119 16) (yR 146 16) (1:Rat) (0:Rat) (0:Rat) (-4:Rat),bF (yQ 170) (yQ 184) (1/5:Rat) (1/5:Rat) true (tI rfl)] [] ((Uob (Kqg (Kdy (Qxr (Ugt (Unp (Ugs (Kea (Unx (Kdx (Kdz (Ugx (Kyv (Kwz (Uwj (Uwi (Ugv (Uwl (Ugw (Uwk (Ukv .nil))))))))))))))))))))):FnsOk prog _) 1 6 func10 eo10 2000 [] vTt
def Uda{p:Nat->Prop}{n:Nat}(h:∃ k,k<n/\p k):∃ k,k<n/\p k/\∀ j,j<k->¬p j:=by
 obtain⟨k,hk,hp⟩:=h
 induction k using Nat.strongRecOn with
 | ind k ih =>
  by_cases hj:∃ j,j<k/\p j
  .obtain⟨j,h1,h2⟩:=hj;exact ih j h1 (by omega) h2
  .exact⟨k,hk,hp,fun j h1 h2=>hj ⟨j,h1,h2⟩⟩
def gtk{P:Program}{L:List GF}(t:TypeId)(x y:AC)(a b:Int)(r:Bool)(h:r=true↔a>b)(hx:x.gv L=some (.int .i64 a):=by kernel_rfl)(hy:y.gv L=some (.int .i64 b):=by kernel_rfl):GB P L :=
 Qgb .gtr t .i64 x y a b r (by simp only[Qil];congr 1;rw[Bool.eq_iff_iff,h,decide_eq_true_eq]) hx hy
noncomputable def rNk(p:Nat->Prop)(n k:Nat):Bool:=if k<n then false else if k=n then true else @decide (p k) (Classical.propDecidable _)
def Udo{p:Nat->Prop}{n:Nat}(h:∀ k,k<n->¬p k)(hn:p n)(k:Nat):rNk p n k=true↔p k:=by
 unfold rNk
 split
 .rename_i h1;exact⟨(fun e=>by cases e),fun e=>absurd e (h k h1)⟩
 .split
  .rename_i h1;subst h1;exact⟨fun _=>hn,fun _=>rfl⟩
  .simp
def Uub(g1:Qbg):List GF:=[g1.cells,[gxi (Sz g1.s1),gxi (Sz g1.s2),gxi (Sz g1.s3),gxi (Sz g1.s4)]].flatten
def Udu(g1:Qbg)(k:Nat):Prop:=([(Sz g1.s1)>24,(Sz g1.s2)>24,(Sz g1.s3)>24,(Sz g1.s4)>24]:List Prop).getD k False
def Uzw(g1:Qbg):List (GO prog (Uub g1)):=[lS (.sym 1) g1.s1 (.sym 8),lS (.sym 3) g1.s2 (.sym 9),lS (.sym 5) g1.s3 (.sym 10),lS (.sym 7) g1.s4 (.sym 11)]
def Uzu(g1:Qbg)(r:Nat->Bool)(hr:∀ k,k<4->(r k=true↔Udu g1 k)):List (GB prog (Uub g1)) :=
  [gtk 3 (.sym 8) (li 24) (Sz g1.s1) 24 (r 0) (hr 0 (by decide)),
   gtk 3 (.sym 9) (li 24) (Sz g1.s2) 24 (r 1) (hr 1 (by decide)),
   gtk 3 (.sym 10) (li 24) (Sz g1.s3) 24 (r 2) (hr 2 (by decide)),
   gtk 3 (.sym 11) (li 24) (Sz g1.s4) 24 (r 3) (hr 3 (by decide))]
def Uzv(g1:Qbg)(r:Nat->Bool)(hr:∀ k,k<4->(r k=true↔Udu g1 k))(b:Bool)(hev:evL (gcx tys true (Uub g1) [] (Uzu g1 r hr) (Uzw g1)) Tryz.f9 2000 [⟨Qbd 0 8,28,none⟩] [lc 24,.c (.sl 0 0 1 1)] (.r (.c (.lit (.bool b))))=true):SMt 9 [(g1.cells,28)] [.f (gIi 24),.sl 0 0 1 1] (B1 b) :=
 Ung (L:=Uub g1) Qae Qai [] (Uzu g1 r hr) (Uzw g1) func9 eo9 2000 [⟨Qbd 0 8,28,none⟩] [lc 24,.c (.sl 0 0 1 1)] (.r (.c (.lit (.bool b)))) hev
def Vcu(g1:Qbg)(k:Nat)(hk:k<4)(h:∀ j,j<k->¬Udu g1 j)(hp:Udu g1 k):SMt 9 [(g1.cells,28)] [.f (gIi 24),.sl 0 0 1 1] (B1 false):=by
 rcases(by omega:k=0\/k=1\/k=2\/k=3) with rfl|rfl|rfl|rfl
 all_goals exact Uzv g1 (rNk (Udu g1) _) (fun j _=>Udo h hp j) false kR
def Qus(g1:Qbg):Prop:=∃ k,k<4/\Udu g1 k
def smZ(g1:Qbg)(b:Bool)(hb:b=true↔¬Qus g1):SMt 9 [(g1.cells,28)] [.f (gIi 24),.sl 0 0 1 1] (B1 b):=by
 cases b
 .obtain⟨k,hk,hp,h⟩:=Uda (Classical.byContradiction fun h=>by cases hb.2 h);exact Vcu g1 k hk h hp
 .exact Uzv g1 (fun _=>false) (fun k hk=>⟨(fun e=>by cases e),fun e=>(hb.1 rfl ⟨k,hk,e⟩).elim⟩) true kR
def hCt(ya:Qbm)(yb:Qbg)(yc:Qbm):Prop:=SCt 20 [gIi 24,.row (ya.cells++yb.cells++yc.cells)] (.r gTt)
def hIt(p:Int)(ya:Qbm)(yb:Qbg)(yc:Qbm):Prop:=SCt 21 [.c (gxi p),.row (ya.cells++yb.cells++yc.cells)] (.tup [gTt,gIi 0])
def hJt(p:Int)(ya:Qbm)(yb:Qbg)(yc:Qbm):Prop:=SCt 28 [.c (gxi p),.row (ya.cells++yb.cells++yc.cells)] (.r gTt)
def hCf(ya:Qbm)(yb:Qbg)(yc:Qbm):Prop:=SCt 20 [gIi 24,.row (ya.cells++yb.cells++yc.cells)] (.r gFf)
def hIf(p:Int)(ya:Qbm)(yb:Qbg)(yc:Qbm):Prop:=SCt 21 [.c (gxi p),.row (ya.cells++yb.cells++yc.cells)] (.tup [gFf,gIi 0])
def hJf(p:Int)(ya:Qbm)(yb:Qbg)(yc:Qbm):Prop:=SCt 28 [.c (gxi p),.row (ya.cells++yb.cells++yc.cells)] (.r gFf)
def hI2(p:Int)(ya:Qbm)(yb:Qbg)(yc:Qbm):Prop:=SCt 21 [.c (gxi p),.row (ya.cells++yb.cells++yc.cells)] (.tup [gFf,gIi 2])
def hU2(p:Int)(ya:Qbm)(yb:Qbg)(yc:Qbm)(z:Qbg):Prop:=SCt 22 [.c (gxi p),.row (ya.cells++yb.cells++yc.cells),.row z.cells] (.tup [.row (zGG++zGG),gIi 2])
def hF2(p:Int)(ya:Qbm)(yb:Qbg)(yc:Qbm)(z:Qbg):Prop:=SCt 23 [.c (gxi p),.row (ya.cells++yb.cells++yc.cells),.row z.cells] (.tup [.row zGG,gIi 2])
def hV2(p:Int)(ya:Qbm)(yb:Qbg)(yc:Qbm)(z:Qbg):Prop:=SCt 24 [.c (gxi p),.row (ya.cells++yb.cells++yc.cells),.row z.cells] (.tup [.row zGG,gIi 2])
def Uhd(p:Int)(ya:Qbm)(yb:Qbg)(yc:Qbm)(z:Qbg):Prop:=SCt 22 [.c (gxi p),.row (ya.cells++yb.cells++yc.cells),.row z.cells] (.tup [.row (zGG++zGG),gIi 350])
def Uhc(p:Int)(ya:Qbm)(yb:Qbg)(yc:Qbm)(z:Qbg):Prop:=SCt 23 [.c (gxi p),.row (ya.cells++yb.cells++yc.cells),.row z.cells] (.tup [.row zGG,gIi 350])
def Uhe(p:Int)(ya:Qbm)(yb:Qbg)(yc:Qbm)(z:Qbg):Prop:=SCt 24 [.c (gxi p),.row (ya.cells++yb.cells++yc.cells),.row z.cells] (.tup [.row zGG,gIi 350])
def hPt(p:Int):Prop:=SCt 13 [.c (gxi p)] (.r gTt)
def hK0(ya:Qbm)(yb:Qbg)(yc:Qbm):Prop:=SCt 25 [.row (ya.cells++yb.cells++yc.cells)] (.r (gIi 0))
def hK2(ya:Qbm)(yb:Qbg)(yc:Qbm):Prop:=SCt 25 [.row (ya.cells++yb.cells++yc.cells)] (.r (gIi 2))
def hN0(p:Int)(z:Qbg):Prop:=SMt 29 [(z.cells,28)] [.f (.c (gxi p)),.sl 0 0 1 1] (.r (gIi 0))
def hN2(p:Int)(z:Qbg):Prop:=SMt 29 [(z.cells,28)] [.f (.c (gxi p)),.sl 0 0 1 1] (.r (gIi 2))
def Uot(p:Int)(z:Qbg):Prop:=SMt 29 [(z.cells,28)] [.f (.c (gxi p)),.sl 0 0 1 1] (.r (gIi 350))
def Kcr:FnsOk prog [⟨18,Tryz.f18,2000⟩,⟨26,Tryz.f26,2000⟩,⟨27,Tryz.f27,2000⟩]:=(Kwz (Uyy (Uyz .nil)))
def Vcb(p:Int)(ya:Qbm)(yb:Qbg)(yc:Qbm)(z:Qbg)(hs:Qus z):SCt 4 [.c (gxi p),.row (ya.cells++yb.cells++yc.cells),.row (z.cells)] (.r gTt) :=
  Qas (L := [[gxi p],ya.cells,yb.cells,yc.cells,z.cells].flatten) Qae Qai
     [gsm (smZ z false ⟨(fun e=>by cases e),fun k_=>(k_ hs).elim⟩) [4] [⟨Qbd 17 8,28,none⟩] [lc 24,.c (.sl 0 0 1 1)] vFf,gs (Qkj) [] vTt]
     [] [] Kcr 1 2 func4 eo4 2000 [cS 0,yR 1 16,yR 17 8] vTt
def Vcc(p:Int)(ya:Qbm)(yb:Qbg)(yc:Qbm)(z:Qbg)(hs:¬(Qus z))(Cf:hCf ya yb yc):SCt 4 [.c (gxi p),.row (ya.cells++yb.cells++yc.cells),.row (z.cells)] (.r gTt) :=
  Qas (L := [[gxi p],ya.cells,yb.cells,yc.cells,z.cells].flatten) Qae Qai
     [gsm (smZ z true ⟨fun _=>hs,fun _=>rfl⟩) [4] [⟨Qbd 17 8,28,none⟩] [lc 24,.c (.sl 0 0 1 1)] vTt,gs (Cf) [lc 24,yR 1 16] vFf,gs (Qkj) [] vTt]
     [] [] Kcr 1 2 func4 eo4 2000 [cS 0,yR 1 16,yR 17 8] vTt
def Uye:FnsOk prog [⟨18,Tryz.f18,2000⟩,⟨26,Tryz.f26,2000⟩,⟨27,Tryz.f27,2000⟩,⟨13,Tryz.f13,2000⟩]:=(Kwz (Uyy (Uyz (Uyx .nil))))
def Uzi(p:Int)(ya:Qbm)(yb:Qbg)(yc:Qbm)(z:Qbg)(hs:¬(Qus z))(hp1:¬(p=1))(hp2:¬(p=2))(Ct:hCt ya yb yc)(I2:hI2 p ya yb yc)(U2:hU2 p ya yb yc z)(F2:hF2 p ya yb yc z)(V2:hV2 p ya yb yc z):SCt 4 [.c (gxi p),.row (ya.cells++yb.cells++yc.cells),.row (z.cells)] (.r gTt) :=
  Qas (L := [[gxi p],ya.cells,yb.cells,yc.cells,z.cells].flatten) Qae Qai
     [gsm (smZ z true ⟨fun _=>hs,fun _=>rfl⟩) [4] [⟨Qbd 17 8,28,none⟩] [lc 24,.c (.sl 0 0 1 1)] vTt,gs (Ct) [lc 24,yR 1 16] vTt,gs (I2) [cS 0,yR 1 16] (.tup [cFf,lc 2]),gs (U2) [cS 0,yR 1 16,yR 17 8] (.tup [.row (flA [zGA,zGA]),lc 2]),gs (F2) [cS 0,yR 1 16,yR 17 8] (.tup [.row (zGA),lc 2]),gs (V2) [cS 0,yR 1 16,yR 17 8] (.tup [.row (zGA),lc 2]),gs (Qkj) [] vTt]
     [bI .eql 22 (.sym 0) (li 1) p 1 false (by simp[Qil,hp1]),bI .eql 22 (.sym 0) (li 2) p 2 false (by simp[Qil,hp2]),Qfs 47 (.row (flA [zGA,zGA])) (.row (flA [zGA,zGA])) (.agg (zV 8).toArray) (fun _ _ _=>by kernel_rfl),Qfs 28 (.row (zGA)) (.row (zGA)) (.agg (zV 4).toArray) (fun _ _ _=>by kernel_rfl)] [] Uye 1 2 func4 eo4 2000 [cS 0,yR 1 16,yR 17 8] vTt
def Ukw(p:Int)(ya:Qbm)(yb:Qbg)(yc:Qbm)(z:Qbg)(hs:¬(Qus z))(Ct:hCt ya yb yc)(I2:hI2 p ya yb yc)(U2:hU2 p ya yb yc z)(F2:hF2 p ya yb yc z)(V2:hV2 p ya yb yc z)(Pt:hPt p)(K2:hK2 ya yb yc):SCt 4 [.c (gxi p),.row (ya.cells++yb.cells++yc.cells),.row (z.cells)] (.r gTt) :=
  Qas (L := [[gxi p],ya.cells,yb.cells,yc.cells,z.cells].flatten) Qae Qai
     [gsm (smZ z true ⟨fun _=>hs,fun _=>rfl⟩) [4] [⟨Qbd 17 8,28,none⟩] [lc 24,.c (.sl 0 0 1 1)] vTt,gs (Ct) [lc 24,yR 1 16] vTt,gs (I2) [cS 0,yR 1 16] (.tup [cFf,lc 2]),gs (U2) [cS 0,yR 1 16,yR 17 8] (.tup [.row (flA [zGA,zGA]),lc 2]),gs (F2) [cS 0,yR 1 16,yR 17 8] (.tup [.row (zGA),lc 2]),gs (V2) [cS 0,yR 1 16,yR 17 8] (.tup [.row (zGA),lc 2]),gs (Pt) [cS 0] vTt,gs (K2) [yR 1 16] (.r (lc 2)),gs (Qkj) [] vTt]
     [Qfs 47 (.row (flA [zGA,zGA])) (.row (flA [zGA,zGA])) (.agg (zV 8).toArray) (fun _ _ _=>by kernel_rfl),Qfs 28 (.row (zGA)) (.row (zGA)) (.agg (zV 4).toArray) (fun _ _ _=>by kernel_rfl)] [] Kcr 1 2 func4 eo4 2000 [cS 0,yR 1 16,yR 17 8] vTt
def Uph(p:Int)(ya:Qbm)(yb:Qbg)(yc:Qbm)(z:Qbg)(hs:¬(Qus z))(Ct:hCt ya yb yc)(It:hIt p ya yb yc)(U2:hU2 p ya yb yc z)(F2:hF2 p ya yb yc z)(V2:hV2 p ya yb yc z)(Pt:hPt p)(K0:hK0 ya yb yc)(Jt:hJt p ya yb yc)(N2:hN2 p z):SCt 4 [.c (gxi p),.row (ya.cells++yb.cells++yc.cells),.row (z.cells)] (.r gTt) :=
  Qas (L := [[gxi p],ya.cells,yb.cells,yc.cells,z.cells].flatten) Qae Qai
     [gsm (smZ z true ⟨fun _=>hs,fun _=>rfl⟩) [4] [⟨Qbd 17 8,28,none⟩] [lc 24,.c (.sl 0 0 1 1)] vTt,gs (Ct) [lc 24,yR 1 16] vTt,gs (It) [cS 0,yR 1 16] (.tup [cTt,lc 0]),gs (U2) [cS 0,yR 1 16,yR 17 8] (.tup [.row (flA [zGA,zGA]),lc 2]),gs (F2) [cS 0,yR 1 16,yR 17 8] (.tup [.row (zGA),lc 2]),gs (V2) [cS 0,yR 1 16,yR 17 8] (.tup [.row (zGA),lc 2]),gs (Pt) [cS 0] vTt,gs (K0) [yR 1 16] (.r (lc 0)),gs (Jt) [cS 0,yR 1 16] vTt,
      gsm (N2) [75] [⟨Qbd 17 8,28,none⟩] [cS 0,.c (.sl 0 0 1 1)] (.r (lc 2)),gs (Qkj) [] vTt]
     [Qxs 4 Tryz.underlying4 true true,Qfs 47 (.row (flA [zGA,zGA])) (.row (flA [zGA,zGA])) (.agg (zV 8).toArray) (fun _ _ _=>by kernel_rfl),Qfs 28 (.row (zGA)) (.row (zGA)) (.agg (zV 4).toArray) (fun _ _ _=>by kernel_rfl)] [] Kcr 1 2 func4 eo4 2000 [cS 0,yR 1 16,yR 17 8] vTt
def Kqw(p:Int)(ya:Qbm)(yb:Qbg)(yc:Qbm)(z:Qbg)(hs:¬(Qus z))(Ct:hCt ya yb yc)(It:hIt p ya yb yc)(U350:Uhd p ya yb yc z)(F350:Uhc p ya yb yc z)(V350:Uhe p ya yb yc z)(Pt:hPt p)(K0:hK0 ya yb yc)(Jt:hJt p ya yb yc)(N350:Uot p z):SCt 4 [.c (gxi p),.row (ya.cells++yb.cells++yc.cells),.row (z.cells)] (.r gTt) :=
  Qas (L := [[gxi p],ya.cells,yb.cells,yc.cells,z.cells].flatten) Qae Qai
     [gsm (smZ z true ⟨fun _=>hs,fun _=>rfl⟩) [4] [⟨Qbd 17 8,28,none⟩] [lc 24,.c (.sl 0 0 1 1)] vTt,gs (Ct) [lc 24,yR 1 16] vTt,gs (It) [cS 0,yR 1 16] (.tup [cTt,lc 0]),gs (U350) [cS 0,yR 1 16,yR 17 8] (.tup [.row (flA [zGA,zGA]),lc 350]),gs (F350) [cS 0,yR 1 16,yR 17 8] (.tup [.row (zGA),lc 350]),gs (V350) [cS 0,yR 1 16,yR 17 8] (.tup [.row (zGA),lc 350]),gs (Pt) [cS 0] vTt,gs (K0) [yR 1 16] (.r (lc 0)),gs (Jt) [cS 0,yR 1 16] vTt,
      gsm (N350) [75] [⟨Qbd 17 8,28,none⟩] [cS 0,.c (.sl 0 0 1 1)] (.r (lc 350)),gs (Qkj) [] vTt]
     [Qxs 4 Tryz.underlying4 true true,Qfs 47 (.row (flA [zGA,zGA])) (.row (flA [zGA,zGA])) (.agg (zV 8).toArray) (fun _ _ _=>by kernel_rfl),Qfs 28 (.row (zGA)) (.row (zGA)) (.agg (zV 4).toArray) (fun _ _ _=>by kernel_rfl)] [] Kcr 1 2 func4 eo4 2000 [cS 0,yR 1 16,yR 17 8] vTt
def Upg(p:Int)(ya:Qbm)(yb:Qbg)(yc:Qbm)(z:Qbg)(hs:¬(Qus z))(Ct:hCt ya yb yc)(If:hIf p ya yb yc)(U2:hU2 p ya yb yc z)(F2:hF2 p ya yb yc z)(V2:hV2 p ya yb yc z)(Pt:hPt p)(K0:hK0 ya yb yc)(Jf:hJf p ya yb yc)(N2:hN2 p z):SCt 4 [.c (gxi p),.row (ya.cells++yb.cells++yc.cells),.row (z.cells)] (.r gTt) :=
  Qas (L := [[gxi p],ya.cells,yb.cells,yc.cells,z.cells].flatten) Qae Qai
     [gsm (smZ z true ⟨fun _=>hs,fun _=>rfl⟩) [4] [⟨Qbd 17 8,28,none⟩] [lc 24,.c (.sl 0 0 1 1)] vTt,gs (Ct) [lc 24,yR 1 16] vTt,gs (If) [cS 0,yR 1 16] (.tup [cFf,lc 0]),gs (U2) [cS 0,yR 1 16,yR 17 8] (.tup [.row (flA [zGA,zGA]),lc 2]),gs (F2) [cS 0,yR 1 16,yR 17 8] (.tup [.row (zGA),lc 2]),gs (V2) [cS 0,yR 1 16,yR 17 8] (.tup [.row (zGA),lc 2]),gs (Pt) [cS 0] vTt,gs (K0) [yR 1 16] (.r (lc 0)),gs (Jf) [cS 0,yR 1 16] vFf,
      gsm (N2) [75] [⟨Qbd 17 8,28,none⟩] [cS 0,.c (.sl 0 0 1 1)] (.r (lc 2)),gs (Qkj) [] vTt]
     [Qxs 4 Tryz.underlying4 false false,Qfs 47 (.row (flA [zGA,zGA])) (.row (flA [zGA,zGA])) (.agg (zV 8).toArray) (fun _ _ _=>by kernel_rfl),Qfs 28 (.row (zGA)) (.row (zGA)) (.agg (zV 4).toArray) (fun _ _ _=>by kernel_rfl)] [] Kcr 1 2 func4 eo4 2000 [cS 0,yR 1 16,yR 17 8] vTt
def Kqv(p:Int)(ya:Qbm)(yb:Qbg)(yc:Qbm)(z:Qbg)(hs:¬(Qus z))(Ct:hCt ya yb yc)(If:hIf p ya yb yc)(U350:Uhd p ya yb yc z)(F350:Uhc p ya yb yc z)(V350:Uhe p ya yb yc z)(Pt:hPt p)(K0:hK0 ya yb yc)(Jf:hJf p ya yb yc)(N350:Uot p z):SCt 4 [.c (gxi p),.row (ya.cells++yb.cells++yc.cells),.row (z.cells)] (.r gTt) :=
  Qas (L := [[gxi p],ya.cells,yb.cells,yc.cells,z.cells].flatten) Qae Qai
     [gsm (smZ z true ⟨fun _=>hs,fun _=>rfl⟩) [4] [⟨Qbd 17 8,28,none⟩] [lc 24,.c (.sl 0 0 1 1)] vTt,gs (Ct) [lc 24,yR 1 16] vTt,gs (If) [cS 0,yR 1 16] (.tup [cFf,lc 0]),gs (U350) [cS 0,yR 1 16,yR 17 8] (.tup [.row (flA [zGA,zGA]),lc 350]),gs (F350) [cS 0,yR 1 16,yR 17 8] (.tup [.row (zGA),lc 350]),gs (V350) [cS 0,yR 1 16,yR 17 8] (.tup [.row (zGA),lc 350]),gs (Pt) [cS 0] vTt,gs (K0) [yR 1 16] (.r (lc 0)),gs (Jf) [cS 0,yR 1 16] vFf,
      gsm (N350) [75] [⟨Qbd 17 8,28,none⟩] [cS 0,.c (.sl 0 0 1 1)] (.r (lc 350)),gs (Qkj) [] vTt]
     [Qxs 4 Tryz.underlying4 false false,Qfs 47 (.row (flA [zGA,zGA])) (.row (flA [zGA,zGA])) (.agg (zV 8).toArray) (fun _ _ _=>by kernel_rfl),Qfs 28 (.row (zGA)) (.row (zGA)) (.agg (zV 4).toArray) (fun _ _ _=>by kernel_rfl)] [] Kcr 1 2 func4 eo4 2000 [cS 0,yR 1 16,yR 17 8] vTt
def Uzg(p:Int)(ya:Qbm)(yb:Qbg)(yc:Qbm)(z:Qbg)(hs:¬(Qus z))(Ct:hCt ya yb yc)(If:hIf p ya yb yc)(U350:Uhd p ya yb yc z)(F350:Uhc p ya yb yc z)(V350:Uhe p ya yb yc z)(Pt:hPt p)(K0:hK0 ya yb yc)(Jf:hJf p ya yb yc)(N0:hN0 p z):SCt 4 [.c (gxi p),.row (ya.cells++yb.cells++yc.cells),.row (z.cells)] (.r gTt) :=
  Qas (L := [[gxi p],ya.cells,yb.cells,yc.cells,z.cells].flatten) Qae Qai
     [gsm (smZ z true ⟨fun _=>hs,fun _=>rfl⟩) [4] [⟨Qbd 17 8,28,none⟩] [lc 24,.c (.sl 0 0 1 1)] vTt,gs (Ct) [lc 24,yR 1 16] vTt,gs (If) [cS 0,yR 1 16] (.tup [cFf,lc 0]),gs (U350) [cS 0,yR 1 16,yR 17 8] (.tup [.row (flA [zGA,zGA]),lc 350]),gs (F350) [cS 0,yR 1 16,yR 17 8] (.tup [.row (zGA),lc 350]),gs (V350) [cS 0,yR 1 16,yR 17 8] (.tup [.row (zGA),lc 350]),gs (Pt) [cS 0] vTt,gs (K0) [yR 1 16] (.r (lc 0)),gs (Jf) [cS 0,yR 1 16] vFf,
      gsm (N0) [75] [⟨Qbd 17 8,28,none⟩] [cS 0,.c (.sl 0 0 1 1)] (.r (lc 0)),gs (Qkj) [] vTt]
     [Qxs 4 Tryz.underlying4 false false,Qfs 47 (.row (flA [zGA,zGA])) (.row (flA [zGA,zGA])) (.agg (zV 8).toArray) (fun _ _ _=>by kernel_rfl),Qfs 28 (.row (zGA)) (.row (zGA)) (.agg (zV 4).toArray) (fun _ _ _=>by kernel_rfl)] [] Kcr 1 2 func4 eo4 2000 [cS 0,yR 1 16,yR 17 8] vTt
