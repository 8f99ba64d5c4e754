/- Laws. -/
import Derived.Test.YtmimficdpfmfgaaGreatWap
set_option linter.all false
set_option maxHeartbeats 4000000
set_option maxRecDepth 100000
open Go.Lib (hid)
namespace Go.Proofs.YtmimficdpfmfgaaGreat
open Go.RowKit Tr Proofs.Tryz
def Qeq.shape{q:Rat}{v:Value}{w:World}{A:Nat->Prop}(h:Qeq q v w A):∃ p,v=.pointer p:=by
 rcases h with⟨rfl,_⟩|h
 .exact⟨none,rfl⟩
 .obtain⟨m,rfl⟩:=h.shape;exact⟨_,rfl⟩
def Qri{a b:Rat}{v1 v2:Value}{w w1:World}{A:Nat->Prop}{n:Nat}(hb:Below w.heap.size w w1)(h1:Qeq a v1 w1 (Mo A n))(h2:Qeq b v2 w1 (Mo A n))(hn:w.heap.size<=n) :
  ∃ u,Ending.returned (.agg #[v1,v2])=.returned u/\Below w.heap.size w ((w1.setCell ⟨n,0,none⟩ v1).setCell ⟨n,1,none⟩ v2)/\Qhr a b u ((w1.setCell ⟨n,0,none⟩ v1).setCell ⟨n,1,none⟩ v2) A:=by
 refine⟨_,rfl,(hb.setCell (p:=⟨n,0,none⟩) hn _).setCell (p:=⟨n,1,none⟩) hn _,v1,v2,rfl,?_,?_⟩
 .exact Qnc _ (Qeq.keeps a) (Qhy _ (Qeq.keeps a) (Qhy _ (Qeq.keeps a) h1))
 .exact Qnc _ (Qeq.keeps b) (Qhy _ (Qeq.keeps b) (Qhy _ (Qeq.keeps b) h2))
def Kxl(a b c d n:Rat)(hn:n=c*c+d*d)(hn0:n≠0)(v v':Value)(A:Nat->Prop)(w:World)(hv:Qhr a b v w A)(hv':Qhr c d v' w A)(hA:Rcv A w)(k l:Nat)(hla:RL a k)(hlb:RL b k)(hlc:RL c l)(hld:RL d l)(hkl:(k+l+(k+l)+1)+(l+l+(l+l)+1)<137438953472) :
  Calls prog 175 #[v,v'] w fun e w'=>∃ u,e=.returned u/\Below w.heap.size w w'/\Qhr ((a*c-b*(-d))*n⁻¹) ((a*(-d)+b*c)*n⁻¹) u w' A:=by
 have hv0:=Qdl (Qhr.keeps a b) (n:=w.heap.size+2) br (by omega) hv;have hv0':=Qdl (Qhr.keeps c d) (n:=w.heap.size+2) br (by omega) hv';obtain⟨u1,u2,rfl,h1,h2⟩:=hv;obtain⟨u3,u4,rfl,h3,h4⟩:=hv';clear h1 h2 h3 h4;obtain⟨W,HV,hs1,hs2,e0,e1,e2,e3⟩:=Qxg w u1 u2 u3 u4 A hA;have hx:=Qcq.Keeps.below (Qbc.keeps (Qhr.keeps a b)) HV.out.2.1 hv0;have hy:=Qcq.Keeps.below (Qbc.keeps (Qhr.keeps c d)) HV.out.2.1 hv0';have HN:=hid (And.intro hn hn0);clear hA hv0 hv0' hn hn0;have lm1:RL (a*c-b*(-d)) (k+l+(k+l)+1):=Qcb (Qad hla hlc) (Qad hlb (Qah hld));have lm2:RL (a*(-d)+b*c) (k+l+(k+l)+1):=Qaz (Qad hla (Qah hld)) (Qad hlb hlc);have ln:RL n (l+l+(l+l)+1):=by rw[HN.out.1];exact Qaz (Qad hlc hlc) (Qad hld hld)
 have li:RL n⁻¹ (l+l+(l+l)+1):=Qca HN.out.2 ln
 go_enter func175,Tryz.ntmps175
 go_wp2_with fail
 rw[<-HV.out.1];refine Qav [(.lit,[]),(.lit,[]),(.val,[]),(.val,[2]),(.new zR,[]),(.lit,[]),(.val,[]),(.on 4 zR,[6]),(.val,[3,7])]
  (Qfj [(2,Qbc (Mo A (w.heap.size+2)) (Qhr c (-d))),(3,Qbc (Mo A (w.heap.size+2)) (Qhr (a*c-b*(-d)) (a*(-d)+b*c))),(6,Qbc (Mo A (w.heap.size+2)) (Qbk n)),(7,Qbc (Mo A (w.heap.size+2)) (Qbk n⁻¹)),(8,Qbc (Mo A (w.heap.size+2)) (Qhr ((a*c-b*(-d))*n⁻¹) ((a*(-d)+b*c)*n⁻¹)))]) kR ?_ ?_ (by simp[Qdg]) (by simp) kR
 .exact Qbh (by simp only[List.mem_cons,List.not_mem_nil,or_false];rintro p (rfl|rfl|rfl|rfl|rfl)<;>first|exact Qbc.keeps (Qbk.keeps _)|exact Qbc.keeps (Qhr.keeps _ _))
 .refine⟨_,fun f w1 h1=>by(have d0:=ct h1 hs1 e0;have d1:=ct h1 hs1 e1;have d2:=ct h1 hs2 e2;have d3:=ct h1 hs2 e3;go_simp;rfl),?_⟩;refine⟨_,fun f w1 h1=>by(have d0:=ct h1 hs1 e0;have d1:=ct h1 hs1 e1;have d2:=ct h1 hs2 e2;have d3:=ct h1 hs2 e3;go_simp;rfl),?_⟩;simp only[Act.put,nrA,nrB,nrC,Nat.reduceAdd];refine⟨fun f w1 A1 k1 hA hN hd K hK=>by
   go_simp
   refine(Qzw c d _ (Un (Mo A (w.heap.size+2)) A1) w1 (Qdk (Qbc.keeps (Qhr.keeps _ _)) hy k1 hN) (Qes (HV.out.2.2.1.below (br.drew.trans k1)) hA) (hld.mono (by omega))).mono ?_;rintro e w' ⟨v,rfl,hb,hr⟩;exact hK _ _ hb hr,?_⟩
  simp only[Act.put,nrA,nrB,nrC,Nat.reduceAdd];refine⟨fun f w1 A1 k1 hA hN hd K hK=>by
   have i2:Qhr c (-d) (f 2) w1 (Un (Mo A (w.heap.size+2)) A1):=hd 2 (by simp)
   go_simp
   refine(Kgk a b c (-d) _ _ (Un (Mo A (w.heap.size+2)) A1) w1 (Qdk (Qbc.keeps (Qhr.keeps _ _)) hx k1 hN) i2 (Qes (HV.out.2.2.1.below (br.drew.trans k1)) hA) k l hla hlb hlc (Qah hld) (by omega)).mono ?_;rintro e w' ⟨v,rfl,hb,hr⟩;exact hK _ _ hb hr,?_⟩
  refine⟨fun f w1=>by go_simp,?_⟩;refine⟨_,fun f w1 h1=>by(have d0:=ct h1 hs1 e0;have d1:=ct h1 hs1 e1;have d2:=ct h1 hs2 e2;have d3:=ct h1 hs2 e3;go_simp;rfl),?_⟩;simp only[Act.put,nrA,nrB,nrC,Nat.reduceAdd];refine⟨fun f w1 A1 k1 hA hN hd K hK=>by
   go_simp
   refine(Kol c d _ (Un (Mo A (w.heap.size+2)) A1) w1 (Qdk (Qbc.keeps (Qhr.keeps _ _)) hy k1 hN) (Qes (HV.out.2.2.1.below (br.drew.trans k1)) hA) l hlc hld (by omega)).mono ?_;rintro e w' ⟨v,rfl,hb,hr⟩;rw[<-HN.out.1] at hr;exact hK _ _ hb hr,?_⟩
  simp only[Act.put,nrA,nrB,nrC,Nat.reduceAdd];refine⟨fun f w1 A1 m1 k1 hA hN hAm hm0 e hz hd K hK=>by
   simp only[e] at hK ⊢;have i6:Qbk n (f 6) w1 (Un (Mo A (w.heap.size+2)) A1):=hd 6 (by simp)
   go_simp
   refine(Kgm m1 _ n HN.out.2 _ _ w1 hz (by decide) Qdg i6 _ ln (by omega)).mono ?_;rintro e w' ⟨rfl,hp⟩;exact hK _ w' hp.1 (hp.ratU (HV.out.2.2.1.below (br.drew.trans k1)) hA hm0 (fun b hb=>HV.out.2.2.1.lt hb)),?_⟩
  simp only[Act.put,nrA,nrB,nrC,Nat.reduceAdd];refine⟨fun f w1 A1 k1 hA hN hd K hK=>by
   have i3:Qhr (a*c-b*(-d)) (a*(-d)+b*c) (f 3) w1 (Un (Mo A (w.heap.size+2)) A1):=hd 3 (by simp);have i7:Qbk n⁻¹ (f 7) w1 (Un (Mo A (w.heap.size+2)) A1):=hd 7 (by simp)
   go_simp
   refine(Kkp _ _ _ _ _ (Un (Mo A (w.heap.size+2)) A1) w1 i3 (.inr i7) (Qes (HV.out.2.2.1.below (br.drew.trans k1)) hA) _ _ lm1 lm2 li hkl).mono ?_;rintro e w' ⟨v,rfl,hb,hr⟩;exact hK _ _ hb hr,?_⟩
  intro f w1 k1 hF;have i8:Qhr ((a*c-b*(-d))*n⁻¹) ((a*(-d)+b*c)*n⁻¹) (f 8) w1 (Mo A (w.heap.size+2)):=Qbc.done (Qhr.keeps _ _) hF.2;clear hF;simp only[Act.put,nrA,nrB,nrC];generalize f 2=x2;generalize f 3=x3;generalize f 6=x6;generalize f 7=x7;generalize f 8=x8 at *
  obtain⟨y1,y2,rfl,j1,j2⟩:=i8;have hb1:Below W.heap.size W w1:=br.drew.trans k1;obtain⟨c0,c1,f0,f1⟩:=HV.out.2.2.2 w1 hb1;have HE:=hid (And.intro j1 (And.intro j2 (HV.out.2.1.trans (hb1.mono HV.out.2.1.size))));obtain⟨m1,rfl⟩:=j1.shape;obtain⟨m2,rfl⟩:=j2.shape;clear e0 e1 e2 e3 j1 j2 hb1 k1 hx hy lm1 lm2 ln li
  go_wp2_with fail
  refine bodyPost_ret (v:=.agg #[.pointer m1,.pointer m2]) (by simp[results,Tryz.results175,go_sem,c0,c1]) rfl ?_;exact Qri HE.out.2.2 HE.out.1 HE.out.2.1 (by omega)
def Qzx(a b:Rat)(v:Value)(A:Nat->Prop)(w:World)(hv:Qhr a b v w A)(hla:RL a 137438953472)(hlb:RL b 137438953472) :
  Calls prog 105 #[v] w fun e w'=>e=.returned (.tuple #[Kzk a b,.int .i64 (Qyb a b)])/\Below w.heap.size w w':=by
 obtain⟨u1,u2,rfl,h1,h2⟩:=hv;obtain⟨b1,t1,b2,t2,ea⟩:=Kbi a;obtain⟨b3,t3,b4,t4,eb⟩:=Kbi b;obtain⟨k1,hk1⟩:∃ k1,k1=Klr a:=⟨_,rfl⟩
 obtain⟨k2,hk2⟩:∃ k2,k2=Klr b:=⟨_,rfl⟩
 obtain⟨W0,hW0⟩:∃ W0,W0=w.alloc (.cells #[u1,u2] 116):=⟨_,rfl⟩
 have hz0:W0.heap.size=w.heap.size+1:=by rw[hW0];simp
 obtain⟨W,hW⟩:∃ W,W=W0.alloc (.cells #[.bool false,.string ⟨#[]⟩,.bool false,.string ⟨#[]⟩,.bool false,.string ⟨#[]⟩,.bool false,.string ⟨#[]⟩] 28):=⟨_,rfl⟩
 have hb0:Below w.heap.size w W0:=by rw[hW0];exact br.alloc lr _
 have hb1:Below W0.heap.size W0 W:=by rw[hW];exact br.alloc lr _
 have hb:=hb0.trans (hb1.mono hb0.size);obtain⟨e0,e1,_⟩:=Qij w u1 u2 116 (w1:=W) (by rw[<-hW0];exact hb1);have hlt:w.heap.size<W.heap.size:=by have:=hb1.size;omega
 have H1:=hid (Qmk a u1 A W (h1.below hb) hla);have H2:=hid (fun w' (h:Below W.heap.size W w')=>Qmk b u2 A w' ((h2.below hb).below h) hlb);rw[ea,<-hk1] at H1;rw[eb,<-hk2] at H2;have HK:=hid (And.intro (show k1=0↔Qag a by rw[hk1];exact Kbh) (And.intro (show k2=0↔Qag b by rw[hk2];exact Kbh) (And.intro ea eb)));have HV:=hid (And.intro (hW.trans (by rw[hW0])) (And.intro hb (fun w1 (h:Below W.heap.size W w1)=>And.intro (Kaz W0 _ _ _ _ _ _ _ _ _ (w1:=w1) (by rw[<-hW];exact h)) (Qpr W0 _ _ _ _ _ _ _ _ _ (w1:=w1) (by rw[<-hW];exact h)))));rw[hz0] at HV;clear hk1 hk2 ea eb hW hW0 hz0 hb hb0 hb1 h1 h2
 go_enter func105,Tryz.ntmps105
 go_wp2_with fail
 rw[<-HV.out.1];refine H1.out.mono ?_;rintro e w1 ⟨rfl,hb1⟩;have e0:=(hb1.cell (p:=⟨w.heap.size,0,none⟩) hlt).trans e0;have e1:=(hb1.cell (p:=⟨w.heap.size,1,none⟩) hlt).trans e1;have hlt1:w.heap.size<w1.heap.size:=axc hlt hb1.size;have HB1:=hid hb1;clear hb1
 go_wp2_with fail
 have hal:=(Below.refl w1.heap.size w1).alloc lr (.cells #[.bool b1,.string t1,.bool b2,.string t2] 26);refine(H2.out _ (HB1.out.trans (hal.mono HB1.out.size))).mono ?_;rintro e w3 ⟨rfl,hb3⟩;obtain⟨g0,g1,g2,g3,_⟩:=Qkw w1 _ _ _ _ _ hb3;have hb13:=hal.trans (hb3.mono hal.size);have hbW3:=HB1.out.trans (hb13.mono HB1.out.size);obtain⟨⟨c0,c1,c2,c3,c4,c5,c6,c7⟩,f0,f1,f2,f3,f4,f5,f6,f7⟩:=HV.out.2.2 w3 hbW3;have hne:w1.heap.size<w3.heap.size:=by have:=hb3.size;simp at this;omega
 have hn2:w.heap.size+1<w3.heap.size:=by omega
 have hF:=HV.out.2.1.trans (hbW3.mono HV.out.2.1.size);have HF:=hid hF;have HO:=hid (fun(h:¬(Qag a/\Qag b))=>show zG=Kzk a b/\(4:Int)=Qyb a b by unfold Kzk Qyb;rw[if_neg h,if_neg h];exact⟨rfl,rfl⟩);clear e0 e1 hb3 hal hb13 hbW3 hF H1 H2
 by_cases x1:k1=0
 .by_cases x2:k2=0
  .have HG:=hid (And.intro (Uhq (HK.out.1.1 x1) (HK.out.2.1.1 x2) HK.out.2.2.1 HK.out.2.2.2) (show Qyb a b=0 by unfold Qyb;rw[if_pos ⟨HK.out.1.1 x1,HK.out.2.1.1 x2⟩]));subst x1 x2
   go_wp2_with fail
   refine bodyPost_ret (v:=.tuple #[.agg #[.bool b1,.string t1,.bool b2,.string t2,.bool b3,.string t3,.bool b4,.string t4],.int .i64 0]) (by simp[results,Tryz.results105,go_sem,c0,c1,c2,c3,c4,c5,c6,c7,hn2,Qja]) rfl ⟨by rw[HG.out.1,HG.out.2],?_⟩;exact Below.alloc ((((((((HF.out.setCell (p:=⟨w.heap.size+1,0,none⟩) (Nat.le_succ _) _).setCell (p:=⟨w.heap.size+1,1,none⟩) (Nat.le_succ _) _).setCell (p:=⟨w.heap.size+1,2,none⟩) (Nat.le_succ _) _).setCell (p:=⟨w.heap.size+1,3,none⟩) (Nat.le_succ _) _).setCell (p:=⟨w.heap.size+1,4,none⟩) (Nat.le_succ _) _).setCell (p:=⟨w.heap.size+1,5,none⟩) (Nat.le_succ _) _).setCell (p:=⟨w.heap.size+1,6,none⟩) (Nat.le_succ _) _).setCell (p:=⟨w.heap.size+1,7,none⟩) (Nat.le_succ _) _) (by simp only[Qkl];exact(HF.out.size)) _
  .have hx2:(k2 != 0)=true:=by simpa using x2
   have HN:=hid (HO.out (fun h=>x2 (HK.out.2.1.2 h.2)));subst x1
   go_wp2_with fail
   refine bodyPost_ret (v:=.tuple #[zG,.int .i64 4]) (by unfold zG;simp[results,Tryz.results105,go_sem,c0,c1,c2,c3,c4,c5,c6,c7,hn2,Qja]) rfl ⟨by rw[HN.out.1,HN.out.2],?_⟩;exact Below.alloc ((((((((HF.out.setCell (p:=⟨w.heap.size+1,0,none⟩) (Nat.le_succ _) _).setCell (p:=⟨w.heap.size+1,1,none⟩) (Nat.le_succ _) _).setCell (p:=⟨w.heap.size+1,2,none⟩) (Nat.le_succ _) _).setCell (p:=⟨w.heap.size+1,3,none⟩) (Nat.le_succ _) _).setCell (p:=⟨w.heap.size+1,4,none⟩) (Nat.le_succ _) _).setCell (p:=⟨w.heap.size+1,5,none⟩) (Nat.le_succ _) _).setCell (p:=⟨w.heap.size+1,6,none⟩) (Nat.le_succ _) _).setCell (p:=⟨w.heap.size+1,7,none⟩) (Nat.le_succ _) _) (by simp only[Qkl];exact(HF.out.size)) _
 .have hx1:(k1 != 0)=true:=by simpa using x1
  have HN:=hid (HO.out (fun h=>x1 (HK.out.1.2 h.1)))
  go_wp2_with fail
  refine bodyPost_ret (v:=.tuple #[zG,.int .i64 4]) (by unfold zG;simp[results,Tryz.results105,go_sem,c0,c1,c2,c3,c4,c5,c6,c7,hn2,Qja]) rfl ⟨by rw[HN.out.1,HN.out.2],?_⟩;exact Below.alloc ((((((((HF.out.setCell (p:=⟨w.heap.size+1,0,none⟩) (Nat.le_succ _) _).setCell (p:=⟨w.heap.size+1,1,none⟩) (Nat.le_succ _) _).setCell (p:=⟨w.heap.size+1,2,none⟩) (Nat.le_succ _) _).setCell (p:=⟨w.heap.size+1,3,none⟩) (Nat.le_succ _) _).setCell (p:=⟨w.heap.size+1,4,none⟩) (Nat.le_succ _) _).setCell (p:=⟨w.heap.size+1,5,none⟩) (Nat.le_succ _) _).setCell (p:=⟨w.heap.size+1,6,none⟩) (Nat.le_succ _) _).setCell (p:=⟨w.heap.size+1,7,none⟩) (Nat.le_succ _) _) (by simp only[Qkl];exact(HF.out.size)) _
def Kwx(v:Value):Qcq:=fun u w A=>(¬Qey v/\u=.pointer none)\/∃ q,v=Qew q/\Qey v/\Qbk q u w A
def Kwx.keeps(v:Value):(Kwx v).Keeps:=fun u w w' A A' hs hk h=>h.imp id (fun⟨q,e,f,h⟩=>⟨q,e,f,Qbk.keeps q u w w' A A' hs hk h⟩)
def Utg.mayF{v u:Value}{w w':World}{A:Nat->Prop}(h:Utg v w.heap.size u w' NoA)(hb:Below w.heap.size w w')(hA:Rcv A w):Kwx v u w' A:=by
 rcases h with h|⟨q,e,f,h⟩
 .exact .inl h
 .exact .inr ⟨q,e,f,(h.new hb lr).2 A hA⟩
def NQ(z:QC):Qcq:=Qhr z.re z.im
def NQ.keeps(z:QC):(NQ z).Keeps:=Qhr.keeps _ _
def Qob(v:Value):Prop:=∃ z:QC,v=Khk z.re z.im/\Qag z.re/\Qag z.im
def Qhc{n1 n2 n3 n4:Bool}{s1 s2 s3 s4:ByteArray}:Qob (.agg #[.bool n1,.string s1,.bool n2,.string s2,.bool n3,.string s3,.bool n4,.string s4])↔Qey (.agg #[.bool n1,.string s1,.bool n2,.string s2])/\Qey (.agg #[.bool n3,.string s3,.bool n4,.string s4]):=by
 constructor
 .rintro⟨z,e,h1,h2⟩;unfold Khk at e;simp only[Value.agg.injEq,Array.mk.injEq,List.cons.injEq,Value.bool.injEq,Value.string.injEq,and_true] at e;obtain⟨e1,e2,e3,e4,e5,e6,e7,e8⟩:=e;subst e1 e2 e3 e4 e5 e6 e7 e8;exact⟨⟨z.re,rfl,h1⟩,⟨z.im,rfl,h2⟩⟩
 .rintro⟨⟨a,e1,h1⟩,⟨b,e2,h2⟩⟩;obtain⟨rfl,rfl,rfl,rfl⟩:=Qdd e1;obtain⟨rfl,rfl,rfl,rfl⟩:=Qdd e2;exact⟨⟨a,b⟩,rfl,h1,h2⟩
def Vce(w:World)(a0 a1 a2 a3 a4 a5 a6 a7:Value) :
  ∃ W,Hid (W=(w.alloc (.cells #[a0,a1,a2,a3,a4,a5,a6,a7] 28)).alloc (.cells #[.pointer none,.pointer none] 116)/\Below w.heap.size w W/\W.heap.size=w.heap.size+2/\∀ w1,Below W.heap.size W w1->(w1.cell? ⟨w.heap.size,0,none⟩=some (a0)/\w1.cell? ⟨w.heap.size,1,none⟩=some (a1)/\w1.cell? ⟨w.heap.size,2,none⟩=some (a2)/\w1.cell? ⟨w.heap.size,3,none⟩=some (a3)/\w1.cell? ⟨w.heap.size,4,none⟩=some (a4)/\w1.cell? ⟨w.heap.size,5,none⟩=some (a5)/\w1.cell? ⟨w.heap.size,6,none⟩=some (a6)/\w1.cell? ⟨w.heap.size,7,none⟩=some (a7)) /\
   (w1.cell? ⟨w.heap.size+1,0,none⟩=some (.pointer none)/\w1.cell? ⟨w.heap.size+1,1,none⟩=some (.pointer none)/\w1.frozen? ⟨w.heap.size+1,0,none⟩=false/\w1.frozen? ⟨w.heap.size+1,1,none⟩=false)):=by
 obtain⟨w1,hw1⟩:∃ w1,w1=w.alloc (.cells #[a0,a1,a2,a3,a4,a5,a6,a7] 28):=⟨_,rfl⟩
 have hz1:w1.heap.size=w.heap.size+1:=by rw[hw1];simp
 have hb1:Below w.heap.size w w1:=by rw[hw1];exact br.alloc lr _
 obtain⟨w2,hw2⟩:∃ w2,w2=w1.alloc (.cells #[.pointer none,.pointer none] 116):=⟨_,rfl⟩
 have hz2:w2.heap.size=w.heap.size+2:=by rw[hw2];simp[hz1]
 have hb2:Below w1.heap.size w1 w2:=by rw[hw2];exact br.alloc lr _
 have t2:Below w2.heap.size w2 w2:=Below.refl _ _;have t1:Below w1.heap.size w1 w2:=hb2.trans (t2.mono hb2.size);refine⟨w2,hid ⟨by rw[hw2,hw1],hb1.trans (t1.mono hb1.size),hz2,fun w' h=>?_⟩⟩;have e0:=(t1.trans (h.mono t1.size)).block w.heap.size (by rw[hw1];simp);rw[hw1,heap_alloc_new] at e0;have e1:=(t2.trans (h.mono t2.size)).block w1.heap.size (by rw[hw2];simp);rw[hw2,heap_alloc_new] at e1;rw[hz1] at e1;refine⟨?_,?_⟩<;>simp[World.cell?,World.frozen?,e0,e1]
def OfF(v0:Value):Qcq:=fun u w A=>∃ z,NQ z u w A/\(Qob v0->v0=Khk z.re z.im)
def OfF.keeps(v0:Value):(OfF v0).Keeps:=fun u w w' A A' hs hk ⟨z,h,e⟩=>⟨z,NQ.keeps z u w w' A A' hs hk h,e⟩
def Uir{w:World}{A:Nat->Prop}{n:Nat}{W:World}(hA:Rcv A w)(hb:Below w.heap.size w W)(hn:W.heap[n]?=some (.cells #[.pointer none,.pointer none] 116 (0,0))):Rcv (Mo A n) W :=
 fun b h=>h.elim (fun h=>(hA.below hb) b h) (fun h=>by subst h;exact⟨_,hn,Qxz _ _ ⟨_,rfl⟩ ⟨_,rfl⟩ _⟩)
def Koi(n1 n2 n3 n4:Bool)(s1 s2 s3 s4:ByteArray)(l1:s1.size<274877906944)(l2:s2.size<274877906944)(l3:s3.size<274877906944)(l4:s4.size<274877906944)(A:Nat->Prop)(w:World)(hA:Rcv A w)(r:Bool)(hr:r=true↔Qob (.agg #[.bool n1,.string s1,.bool n2,.string s2,.bool n3,.string s3,.bool n4,.string s4])) :
  Calls prog 76 #[.agg #[.bool n1,.string s1,.bool n2,.string s2,.bool n3,.string s3,.bool n4,.string s4]] w fun e w'=>∃ u,e=.returned (.tuple #[u,.bool r])/\Below w.heap.size w w'/\OfF (.agg #[.bool n1,.string s1,.bool n2,.string s2,.bool n3,.string s3,.bool n4,.string s4]) u w' A:=by
 obtain⟨W,HV⟩:=Vce w (.bool n1) (.string s1) (.bool n2) (.string s2) (.bool n3) (.string s3) (.bool n4) (.string s4);have H1:=hid (fun w=>Qqp n1 n2 s1 s2 l1 l2 w);have H2:=hid (fun w=>Qqp n3 n4 s3 s4 l3 l4 w);have hs0:w.heap.size<W.heap.size:=by have:=HV.out.2.2.1;omega
 obtain⟨⟨e0,e1,e2,e3,e4,e5,e6,e7⟩,_⟩:=HV.out.2.2.2 W br;have hR:Rcv (Mo A (w.heap.size+1)) W:=Uir hA HV.out.2.1 (by
  rw[HV.out.1];have:=heap_alloc_new (w.alloc (.cells #[.bool n1,.string s1,.bool n2,.string s2,.bool n3,.string s3,.bool n4,.string s4] 28)) (.cells #[.pointer none,.pointer none] 116 (0,0));simpa using this)
 have HR:=hid (And.intro hR hr);clear hA hr hR
 go_enter func76,Tryz.ntmps76
 go_wp2_with fail
 rw[<-HV.out.1];refine Qav [(.lit,[]),(.lit,[]),(.val,[]),(.lit,[]),(.lit,[]),(.val,[])]
  (Qfj [(2,Qbc (Mo A (w.heap.size+1)) (Kwx (.agg #[.bool n1,.string s1,.bool n2,.string s2]))),(5,Qbc (Mo A (w.heap.size+1)) (Kwx (.agg #[.bool n3,.string s3,.bool n4,.string s4])))]) kR ?_ ?_ (by simp) (by simp) kR
 .exact Qbh (by simp only[List.mem_cons,List.not_mem_nil,or_false];rintro p (rfl|rfl)<;>exact Qbc.keeps (Kwx.keeps _))
 .repeat (refine⟨_,fun f w1 h1=>by(have d0:=ct h1 hs0 e0;have d1:=ct h1 hs0 e1;have d2:=ct h1 hs0 e2;have d3:=ct h1 hs0 e3;have d4:=ct h1 hs0 e4;have d5:=ct h1 hs0 e5;have d6:=ct h1 hs0 e6;have d7:=ct h1 hs0 e7;go_simp;rfl),?_⟩)
  simp only[Act.put,nrA,nrB,nrC,Nat.reduceAdd];refine⟨fun f w1 A1 k1 hA hN hd K hK=>by
   go_simp
   refine(H1.out w1).mono ?_;rintro e w' ⟨u,rfl,hm,hb⟩;exact hK _ _ hb (hm.mayF hb (Qes (HR.out.1.below (br.drew.trans k1)) hA)),?_⟩
  repeat (refine⟨_,fun f w1 h1=>by(have d0:=ct h1 hs0 e0;have d1:=ct h1 hs0 e1;have d2:=ct h1 hs0 e2;have d3:=ct h1 hs0 e3;have d4:=ct h1 hs0 e4;have d5:=ct h1 hs0 e5;have d6:=ct h1 hs0 e6;have d7:=ct h1 hs0 e7;go_simp;rfl),?_⟩)
  simp only[Act.put,nrA,nrB,nrC,Nat.reduceAdd];refine⟨fun f w1 A1 k1 hA hN hd K hK=>by
   go_simp
   refine(H2.out w1).mono ?_;rintro e w' ⟨u,rfl,hm,hb⟩;exact hK _ _ hb (hm.mayF hb (Qes (HR.out.1.below (br.drew.trans k1)) hA)),?_⟩
  intro f w1 k1 hF;have i2:Kwx (.agg #[.bool n1,.string s1,.bool n2,.string s2]) (f 2) w1 (Mo A (w.heap.size+1)):=Qbc.done (Kwx.keeps _) hF.1.2;have i5:Kwx (.agg #[.bool n3,.string s3,.bool n4,.string s4]) (f 5) w1 (Mo A (w.heap.size+1)):=Qbc.done (Kwx.keeps _) hF.2;clear hF;simp only[Act.put,nrA,nrB,nrC];generalize f 2=x2 at *
  generalize f 5=x5 at *
  have hb1:Below W.heap.size W w1:=br.drew.trans k1;obtain⟨_,c0,c1,f0,f1⟩:=HV.out.2.2.2 w1 hb1;have HB:=hid (HV.out.2.1.trans (hb1.mono HV.out.2.1.size));clear e0 e1 e2 e3 e4 e5 e6 e7 k1 hb1 H1 H2;rcases i2 with⟨hn1,rfl⟩|⟨q1,eq1,ok1,r1⟩
  .have hrf:r=false:=by
    cases h:r
    .rfl
    .exact absurd (Qhc.1 (HR.out.2.1 h)).1 hn1
   subst hrf;have HG:=hid (show ¬Qob (.agg #[.bool n1,.string s1,.bool n2,.string s2,.bool n3,.string s3,.bool n4,.string s4]) from fun h=>hn1 (Qhc.1 h).1);have j5:∃ b,Qeq b x5 w1 (Mo A (w.heap.size+1)):=by
    rcases i5 with⟨_,rfl⟩|⟨q2,_,_,r2⟩
    .exact⟨0,.inl ⟨rfl,rfl⟩⟩
    .exact⟨q2,.inr r2⟩
   obtain⟨b,j5⟩:=j5;obtain⟨p5,rfl⟩:=j5.shape;have HJ:=hid j5;clear i5 j5 hn1
   go_wp2_with fail
   refine bodyPost_ret (v:=.tuple #[.agg #[.pointer none,.pointer p5],.bool false]) (by simp[results,Tryz.results76,go_sem,c0,c1]) rfl ?_;obtain⟨u,hu,hb,hz⟩:=Qri HB.out (.inl ⟨rfl,rfl⟩:Qeq 0 (.pointer none) w1 (Mo A (w.heap.size+1))) HJ.out (by omega);cases hu;exact⟨_,rfl,hb,⟨⟨0,b⟩,hz,fun h=>absurd h HG.out⟩⟩
  .obtain⟨m1,rfl⟩:=r1.shape;rcases i5 with⟨hn2,rfl⟩|⟨q2,eq2,ok2,r2⟩
   .have hrf:r=false:=by
     cases h:r
     .rfl
     .exact absurd (Qhc.1 (HR.out.2.1 h)).2 hn2
    subst hrf;have HG:=hid (show ¬Qob (.agg #[.bool n1,.string s1,.bool n2,.string s2,.bool n3,.string s3,.bool n4,.string s4]) from fun h=>hn2 (Qhc.1 h).2);have HJ:=hid r1;clear r1 hn2 eq1 ok1
    go_wp2_with fail
    refine bodyPost_ret (v:=.tuple #[.agg #[.pointer (some ⟨m1,0,none⟩),.pointer none],.bool false]) (by simp[results,Tryz.results76,go_sem,c0,c1]) rfl ?_;obtain⟨u,hu,hb,hz⟩:=Qri HB.out (.inr HJ.out) (.inl ⟨rfl,rfl⟩:Qeq 0 (.pointer none) w1 (Mo A (w.heap.size+1))) (by omega);cases hu;exact⟨_,rfl,hb,⟨⟨q1,0⟩,hz,fun h=>absurd h HG.out⟩⟩
   .obtain⟨m2,rfl⟩:=r2.shape;have hrt:r=true:=HR.out.2.2 (Qhc.2 ⟨ok1,ok2⟩);subst hrt;have HJ:=hid (And.intro r1 r2);have HG:=hid (show .agg #[.bool n1,.string s1,.bool n2,.string s2,.bool n3,.string s3,.bool n4,.string s4]=Khk q1 q2 by
     obtain⟨rfl,rfl,rfl,rfl⟩:=Qdd eq1;obtain⟨rfl,rfl,rfl,rfl⟩:=Qdd eq2;rfl)
    clear r1 r2 eq1 eq2 ok1 ok2
    go_wp2_with fail
    refine bodyPost_ret (v:=.tuple #[.agg #[.pointer (some ⟨m1,0,none⟩),.pointer (some ⟨m2,0,none⟩)],.bool true]) (by simp[results,Tryz.results76,go_sem,c0,c1]) rfl ?_;obtain⟨u,hu,hb,hz⟩:=Qri HB.out (.inr HJ.out.1) (.inr HJ.out.2) (by omega);cases hu;exact⟨_,rfl,hb,⟨⟨q1,q2⟩,hz,fun _=>HG.out⟩⟩
def Qig(x y:Rat):Int:=if x<y then -1 else if x=y then 0 else 1
def Kgx(x y:Rat):Qgs (x.num*(y.den:Int)) (y.num*(x.den:Int))=Qig x y:=by
 unfold Qgs Qig;have h1:x<y↔x.num*(y.den:Int)<y.num*(x.den:Int):=Rat.lt_iff x y;have h2:y<x↔y.num*(x.den:Int)<x.num*(y.den:Int):=Rat.lt_iff y x
 by_cases hxy:x<y
 .rw[if_pos (h1.1 hxy),if_pos hxy]
 .rw[if_neg (fun h=>hxy (h1.2 h)),if_neg hxy]
  by_cases hyx:y<x
  .rw[if_pos (h2.1 hyx),if_neg (fun e=>by subst e;exact hxy hyx)]
  .rw[if_neg (fun h=>hyx (h2.2 h)),if_pos (Rat.le_antisymm (Rat.not_lt.1 hyx) (Rat.not_lt.1 hxy))]
def Kgl(x y:Rat)(vx vy:Value)(A:Nat->Prop)(w:World)(hx:Qbk x vx w A)(hy:Qbk y vy w A)(k l:Nat)(hlx:RL x k)(hly:RL y l)(hkl:k+l<137438953472) :
  Calls prog 149 #[vx,vy] w fun e w'=>e=.returned (.int .i64 (Qig x y))/\Below w.heap.size w w':=by
 have hx:=hx.noA;have hy:=hy.noA;obtain⟨b,rfl⟩:=hx.shape;obtain⟨b2,rfl⟩:=hy.shape;obtain⟨_,eb,hxn,_⟩:=id hx;cases eb;obtain⟨_,eb,hyn,_⟩:=id hy;cases eb;have l1:(Qac (x.num*(y.den:Int)).natAbs).length<=k+l:=by rw[axm];exact Qfu hlx.1 (by simpa using hly.2)
 have l2:(Qac (y.num*(x.den:Int)).natAbs).length<=k+l:=by rw[axm,Nat.add_comm];exact Qfu hly.1 (by simpa using hlx.2)
 obtain⟨cz,hcz⟩:∃ cz,cz=Qig x y:=⟨_,rfl⟩
 rw[<-hcz];have HZ:=hid hcz;clear hcz
 go_enter func149,Tryz.ntmps149
 go_wp2_with fail
 refine Qav [(.new zI,[]),(.lit,[]),(.lit,[]),(.lit,[]),(.lit,[]),(.val,[]),(.on 0 zI,[5]),(.new zI,[]),(.lit,[]),(.lit,[]),(.lit,[]),(.lit,[]),(.val,[]),(.on 7 zI,[12]),(.val,[6,13])]
  (Qfj [(5,Qce y.den),(6,Qce (x.num*(y.den:Int))),(12,Qce x.den),(13,Qce (y.num*(x.den:Int))),(14,fun v _ _=>v=.int .i64 cz)]) kR ?_ ?_ (by simp[Qbi]) (by simp) kR
 .exact Qbh (by simp[Qce.keeps,Qis])
 .refine⟨fun f w1=>by go_simp,?_⟩;refine⟨_,fun f w1 h1=>by go_simp;rfl,?_⟩;refine⟨_,fun f w1 h1=>by go_simp;rfl,?_⟩;refine⟨_,fun f w1 h1=>by go_simp;rfl,?_⟩;refine⟨_,fun f w1 h1=>by go_simp;rfl,?_⟩;simp only[Act.put,nrA,nrB,nrC,Nat.reduceAdd];refine⟨fun f w1 A1 h1 hA hN hd K hK=>by
   go_simp
   refine(Qfa y _ A1 w1 (Qdk (Qbk.keeps _) hy h1 hN) hA).mono ?_;rintro e w' ⟨v,rfl,hb,hi⟩;exact hK _ _ hb hi,?_⟩
  simp only[Act.put,nrA,nrB,nrC,Nat.reduceAdd];refine⟨fun f w1 A1 m1 h1 hA hN hAm hm0 e hz hd K hK=>by
   simp only[e] at hK ⊢;have i1:Qce y.den (f 5) w1 A1:=hd 5 (by simp)
   go_simp
   refine(Qgm m1 0 _ _ x.num y.den _ _ A1 w1 hz (by decide) Qbi (Qdk (Qce.keeps _) hxn h1 hN) i1 (by have:=hlx.1;omega) (by have:=hly.2;simp;omega)).mono ?_;rintro e w' ⟨rfl,hp⟩;exact hK _ w' hp.1 (hp.intP (by decide) hA),?_⟩
  refine⟨fun f w1=>by go_simp,?_⟩;refine⟨_,fun f w1 h1=>by go_simp;rfl,?_⟩;refine⟨_,fun f w1 h1=>by go_simp;rfl,?_⟩;refine⟨_,fun f w1 h1=>by go_simp;rfl,?_⟩;refine⟨_,fun f w1 h1=>by go_simp;rfl,?_⟩;simp only[Act.put,nrA,nrB,nrC,Nat.reduceAdd];refine⟨fun f w1 A1 h1 hA hN hd K hK=>by
   go_simp
   refine(Qfa x _ A1 w1 (Qdk (Qbk.keeps _) hx h1 hN) hA).mono ?_;rintro e w' ⟨v,rfl,hb,hi⟩;exact hK _ _ hb hi,?_⟩
  simp only[Act.put,nrA,nrB,nrC,Nat.reduceAdd];refine⟨fun f w1 A1 m1 h1 hA hN hAm hm0 e hz hd K hK=>by
   simp only[e] at hK ⊢;have i1:Qce x.den (f 12) w1 A1:=hd 12 (by simp)
   go_simp
   refine(Qgm m1 0 _ _ y.num x.den _ _ A1 w1 hz (by decide) Qbi (Qdk (Qce.keeps _) hyn h1 hN) i1 (by have:=hly.1;omega) (by have:=hlx.2;simp;omega)).mono ?_;rintro e w' ⟨rfl,hp⟩;exact hK _ w' hp.1 (hp.intP (by decide) hA),?_⟩
  simp only[Act.put,nrA,nrB,nrC,Nat.reduceAdd];refine⟨fun f w1 A1 h1 hA hN hd K hK=>by
   have i1:Qce (x.num*(y.den:Int)) (f 6) w1 A1:=hd 6 (by simp);have i2:Qce (y.num*(x.den:Int)) (f 13) w1 A1:=hd 13 (by simp)
   go_simp
   refine(Qwy _ _ _ _ A1 w1 i1 i2 (by omega) (by omega)).mono ?_;rintro e w' ⟨rfl,hb⟩;rw[Kgx,<-HZ.out];exact hK _ _ hb rfl,?_⟩
  intro f w1 h1 hF;have hv:f 14=.int .i64 cz:=hF.2;clear hF;simp only[Act.put,nrA,nrB,nrC];rw[hv];generalize f 5=v5;generalize f 6=v6;generalize f 12=v12;generalize f 13=v13;clear hv hx hy hxn hyn
  go_wp2
  go_ret
  exact⟨rfl,br.drew.trans h1⟩
def Qcj{x y:QC}(h1:x.re=y.re)(h2:x.im=y.im):x=y:=by cases x;cases y;simp at h1 h2;rw[h1,h2]
def qmr(x y:QC):(x*y).re=x.re*y.re-x.im*y.im:=rfl
def qmi(x y:QC):(x*y).im=x.re*y.im+x.im*y.re:=rfl
def qar(x y:QC):(x+y).re=x.re+y.re:=rfl
def qai(x y:QC):(x+y).im=x.im+y.im:=rfl
def qsr(x y:QC):(x-y).re=x.re-y.re:=rfl
def qsi(x y:QC):(x-y).im=x.im-y.im:=rfl
def Uyw(cs:List Int)(a b n:BitVec 3):BitVec 3×BitVec 3×BitVec 3:=cs.foldl (fun s c=>(s.1*a-s.2.1*b+BitVec.ofInt 3 c*s.2.2,s.1*b+s.2.1*a,s.2.2*n)) (0,0,1)
def Ucl(cs:List Int):Prop:=∀ a b n:BitVec 3,(Uyw cs a b n).1=0->(Uyw cs a b n).2.1=0->a.toNat%2=0/\b.toNat%2=0/\n.toNat%2=0
instance (cs:List Int):Decidable (Ucl cs):=by unfold Ucl;infer_instance
def Krf(q:Rat):q*((q.den:Int):Rat)=q.num:=by
 have h:=Rat.num_divInt_den q;rw[Rat.divInt_eq_div] at h;have hd:((q.den:Int):Rat)≠0:=by exact_mod_cast q.den_nz
 have key:∀(x n d:Rat),n/d=x→d≠0→x*d=n:=by intros;grind
 exact key _ _ _ h hd
def Uim{x y:QC}:x*y=⟨0,0⟩↔x=⟨0,0⟩\/y=⟨0,0⟩:=by
 constructor
 .intro h;have h1:x.re*y.re-x.im*y.im=0:=congrArg QC.re h;have h2:x.re*y.im+x.im*y.re=0:=congrArg QC.im h;have h3:(x.re*x.re+x.im*x.im)*(y.re*y.re+y.im*y.im)=0:=by grind
  rcases axt.1 h3 with h|h
  .have:=Qiw x.re;have:=Qiw x.im;have e1:x.re*x.re=0:=by grind
   have e2:x.im*x.im=0:=by grind
   exact .inl (Qcj (by rcases axt.1 e1 with h|h<;>exact h) (by rcases axt.1 e2 with h|h<;>exact h))
  .have:=Qiw y.re;have:=Qiw y.im;have e1:y.re*y.re=0:=by grind
   have e2:y.im*y.im=0:=by grind
   exact .inr (Qcj (by rcases axt.1 e1 with h|h<;>exact h) (by rcases axt.1 e2 with h|h<;>exact h))
 .rintro(rfl|rfl)<;>apply Qcj<;>simp only[qmr,qmi]<;>grind
def fg(s:QC):Nat->QC×QC
 | 0=>(⟨1,0⟩,⟨0,0⟩)
 | k+1=>(s*((fg s k).1-(fg s k).2)-(fg s k).1,(fg s k).1-(fg s k).2)
def Qta{x y:QC}:x-y=⟨0,0⟩↔x=y:=by
 constructor
 .intro h;have h1:x.re-y.re=0:=congrArg QC.re h;have h2:x.im-y.im=0:=congrArg QC.im h;apply Qcj<;>grind
 .rintro rfl;apply Qcj<;>simp only[qsr,qsi]<;>grind
def cj(z:QC):QC:=⟨z.re,-z.im⟩
def Qoo(x:Int)(N:Nat):(x*2^N).natAbs=x.natAbs*2^N:=by
 rw[axm];congr 1
def Uhm(x:Int)(N:Nat):decide (x*2^N<0)=(decide (x<0)&&decide (wv (Qac (x*2^N).natAbs)≠0)):=by
 rw[Qaq,Qoo];have hp:(0:Int)<2^N:=Int.pow_pos (by decide);have hn:0<2^N:=Nat.two_pow_pos N
 by_cases h:x<0
 .have h1:x*2^N<0:=Int.mul_neg_of_neg_of_pos h hp;have h2:x.natAbs*2^N≠0:=Nat.ne_of_gt (Nat.mul_pos (by omega) hn);simp[h,h1];omega
 .have h1:¬x*2^N<0:=Int.not_lt.2 (Int.mul_nonneg (by omega) (Int.le_of_lt hp));simp[h,h1]
def Ufi(m o:Nat)(C:Array Value)(T:TypeId)(x:Int)(vx:Value)(N:Nat)(A:Nat->Prop)(w:World)(hm:w.heap[m]?=some (.cells C T (0,0)))(ho:o+1<C.size)(hC:NoW (.cells C T (0,0)))(hx:Qce x vx w A)(hn:(Qac x.natAbs).length<274877906944)(hN:N<1099511627776)(hl:(Qac (x.natAbs*2^N)).length<1099511627776) :
  Calls prog 280 #[.pointer (some ⟨m,o,none⟩),vx,.int .u64 N] w fun e w'=>e=.returned (.pointer (some ⟨m,o,none⟩))/\Put m o C T (x*2^N) w w':=by
 obtain⟨b,bo,sl,rfl,hb,_,c0,c1,hsl⟩:=hx;have hw:=hsl.wsl;have hmlt:m<w.heap.size:=(axa.1 hm).1;have eN:IntKind.i64.wrap (N:Int)=(N:Int):=by rw[IntKind.wrap_i64];omega
 have hleft:=fun(w1:World) (h1:Below w.heap.size w w1)=>Qxw (Qac x.natAbs) N sl w1 (Qap _) (hw.below h1) (by omega) hN
 rw[Qaq] at hleft;have HL:=hid hleft;have HN:=hid (And.intro hl eN);clear hleft hl eN
 go_enter func280,Tryz.ntmps280
 go_wp2_with fail
 refine Qav [(.lit,[]),(.lit,[]),(.lit,[]),(.lit,[]),(.lit,[]),(.lit,[]),(.lit,[]),(.lit,[]),(.lit,[]),(.lit,[]),(.lit,[]),(.val,[])] (Qfj [(11,fun v w A=>Qjo A w v (Qac (x.natAbs*2^N)))]) kR ?_ ?_ (by simp) (by simp) kR
 .exact Qbh (by simp[Qol])
 .refine⟨_,fun f w1 h1=>by go_simp;rfl,?_⟩;refine⟨_,fun f w1 h1=>by go_simp;rfl,?_⟩;refine⟨_,fun f w1 h1=>by go_simp;rfl,?_⟩;refine⟨_,fun f w1 h1=>by go_simp;rfl,?_⟩;refine⟨_,fun f w1 h1=>by have:=ct h1 hb c0;go_simp;rfl,?_⟩;refine⟨_,fun f w1 h1=>by go_simp;rfl,?_⟩;refine⟨_,fun f w1 h1=>by go_simp;rfl,?_⟩;refine⟨_,fun f w1 h1=>by go_simp;rfl,?_⟩;refine⟨_,fun f w1 h1=>by have:=ct h1 hb c1;go_simp;rfl,?_⟩;refine⟨_,fun f w1 h1=>by go_simp;rfl,?_⟩;refine⟨.int .i64 N,fun f w1 h1=>by have:=HN.out.2;go_simp,?_⟩;simp only[Act.put,nrA,nrB,nrC,Nat.reduceAdd];refine⟨fun f w1 A1 h1 hA hN' hd K hK=>?_,?_⟩
  .go_simp
   refine(HL.out w1 (br.drew.trans h1)).mono ?_;rintro e w' ⟨v',rfl,hv,hb'⟩;exact hK v' w' hb' (hv.avoids (hA.below hb'))
  .intro f w1 h1 hF;have hv:Qjo NoA w1 (f 11) (Qac (x.natAbs*2^N)):=hF.2;have hv:=hv.wsl;clear hF;simp only[Act.put,nrA,nrB,nrC];generalize f 11=v9 at *
   have h1':Below w.heap.size w w1:=br.drew.trans h1;have his:=Qir m o C T (decide (x<0)) (Qac (x.natAbs*2^N)) v9 w1 (x*2^N) ((h1.block m hmlt).trans hm) ho hC (Qap _) hv HN.out.1 (by rw[Qaq];exact Qoo x N) (by rw[<-Qoo];exact Uhm x N);have HI:=hid his;clear his hm hC c0 c1
   go_wp2_with (go_at_call 265;refine HI.out.mono ?_;rintro e w' ⟨rfl,hp⟩)
   go_ret
   exact⟨rfl,hp.below h1'⟩
def Klo(n N:Nat):decide (((n/2^N:Nat):Int)<0)=(false&&decide (wv (Qac (n/2^N))≠0)):=by
 have:=Int.natCast_nonneg (n/2^N);simp only[Bool.false_and,decide_eq_false_iff_not];omega
def Ufl(m o:Nat)(C:Array Value)(T:TypeId)(n:Nat)(vx:Value)(N:Nat)(A:Nat->Prop)(w:World)(hm:w.heap[m]?=some (.cells C T (0,0)))(ho:o+1<C.size)(hC:NoW (.cells C T (0,0)))(hx:Qce (n:Int) vx w A)(hn:(Qac n).length<274877906944)(hN:N<1099511627776) :
  Calls prog 281 #[.pointer (some ⟨m,o,none⟩),vx,.int .u64 N] w fun e w'=>e=.returned (.pointer (some ⟨m,o,none⟩))/\Put m o C T ((n/2^N:Nat):Int) w w':=by
 obtain⟨b,bo,sl,rfl,hb,_,c0,c1,hsl⟩:=hx;rw[show((n:Int)).natAbs=n from rfl] at hsl;rw[show decide ((n:Int)<0)=false by simp] at c0;have hw:=hsl.wsl;have hmlt:m<w.heap.size:=(axa.1 hm).1;have eN:IntKind.i64.wrap (N:Int)=(N:Int):=by rw[IntKind.wrap_i64];omega
 have hright:=Kbr (Qac n) N sl w (Qap _) hw (by omega) hN;rw[Qaq] at hright;have hwl:(Qac (n/2^N)).length<1099511627776:=by
  have h1:=Qbr n;have h2:n/2^N<4294967296^(Qac n).length:=axd (Nat.div_le_self _ _) h1;have:=Qal h2;omega
 have his:=fun(w1:World) (h1:Below w.heap.size w w1) v (hv:WSl w1 v (Qac (n/2^N)))=>Qir m o C T false (Qac (n/2^N)) v w1 ((n/2^N:Nat):Int) ((h1.block m hmlt).trans hm) ho hC (Qap _) hv hwl (by rw[Qaq];rfl) (Klo n N)
 have hcell:=fun(w1:World) (h1:Below w.heap.size w w1)=>(h1.cell (p:=⟨b,bo,none⟩) hb).trans c0
 have HR:=hid hright;have HI:=hid his;have HC:=hid hcell;clear hright his hm hC hw hsl hcell
 go_enter func281,Tryz.ntmps281
 go_wp2_with (go_at_call 298;refine HR.out.mono ?_;rintro e w1 ⟨v7,rfl,hv,hb1⟩;have d0:=HC.out w1 hb1;have d1:∀ k,(w1.drewN k).cell? ⟨b,bo,none⟩=some (.bool false):=fun _=>d0;have HV:=hid hv;clear hv)
 have hbn:∀ k,Below w.heap.size w (w1.drewN k):=fun k=>hb1.trans ⟨rfl,rfl,rfl,Nat.le_refl _,fun _ _=>rfl⟩
 have hX:=fun k=>HI.out (w1.drewN k) (hbn k) v7 HV.out
 have HX:=hid hX;clear hX
 go_quiet (fail)
 go_wp2_with (go_at_call 265;refine(HX.out _).mono ?_;rintro e w' ⟨rfl,hp⟩)
 go_ret
 exact⟨rfl,hp.below (hbn _)⟩
end Go.Proofs.YtmimficdpfmfgaaGreat
namespace Tr
def Kee{x r:Nat}(hr:0<r):x<((x/r+r)/2+1)*((x/r+r)/2+1):=by
 obtain⟨q,hq⟩:∃ q,q=x/r:=⟨_,rfl⟩
 have h1:x<(q+1)*r:=by
  rw[hq];have:=Nat.div_add_mod x r;have h2:=Nat.mod_lt x hr;rw[Nat.add_mul,Nat.one_mul,Nat.mul_comm];omega
 rw[<-hq];obtain⟨s,hs⟩:∃ s,s=(q+r)/2+1:=⟨_,rfl⟩
 rw[<-hs];have h2:q+r+1<=2*s:=by omega
 have h3:(q+r+1)*(q+r+1)<=(2*s)*(2*s):=axr h2 h2;have h4:4*((q+1)*r)<=(q+r+1)*(q+r+1):=by
  have key:∀ a b:Nat,4*(a*b)<=(a+b)*(a+b):=fun a b=>by
   rcases Nat.le_total a b with h|h
   .obtain⟨d,rfl⟩:=Nat.exists_eq_add_of_le h;have:(a+(a+d))*(a+(a+d))=4*(a*(a+d))+d*d:=by
     simp only[Nat.mul_add,Nat.add_mul,Nat.mul_comm d a];omega
    omega
   .obtain⟨d,rfl⟩:=Nat.exists_eq_add_of_le h;have:(b+d+b)*(b+d+b)=4*((b+d)*b)+d*d:=by
     simp only[Nat.mul_add,Nat.add_mul,Nat.mul_comm d b];omega
    omega
  have:=key (q+1) r;rw[show q+1+r=q+r+1 by omega] at this;exact this
 have h5:(2*s)*(2*s)=4*(s*s):=by
  rw[Nat.mul_mul_mul_comm]
 omega
def Kll{x r:Nat}(h:r<=(x/r+r)/2):r*r<=x:=by
 have h1:r<=x/r:=by omega
 exact axw (Nat.mul_le_mul_right r h1) (Nat.div_mul_le_self x r)
def Klm{x r:Nat}(hx:0<x)(hr:0<r):0<(x/r+r)/2:=by
 by_cases h:r=1
 .subst h;rw[Nat.div_one];omega
 .generalize x/r=q;omega
def Kba{x N:Nat}(h:x<2^N):x<(2^(N/2+1)+1)*(2^(N/2+1)+1):=by
 have h1:(2:Nat)^N<=2^(N/2+1)*2^(N/2+1):=by
  rw[<-Nat.pow_add];exact axg (by decide) (by omega)
 have h2:2^(N/2+1)*2^(N/2+1)<=(2^(N/2+1)+1)*(2^(N/2+1)+1):=axr (by omega) (by omega);omega
def Kiy{x a b:Nat}(h1:a*a<=x)(h2:x<(a+1)*(a+1))(h3:b*b<=x)(h4:x<(b+1)*(b+1)):a=b:=by
 rcases Nat.lt_trichotomy a b with h|h|h
 .have:=axr (show a+1<=b from h) (show a+1<=b from h);omega
 .exact h
 .have:=axr (show b+1<=a from h) (show b+1<=a from h);omega
end Tr
namespace Go.Proofs.YtmimficdpfmfgaaGreat
open Go.RowKit Tr Proofs.Tryz
def Uzy(B:Nat)(z:Int)(w:World):Prop:=∃ C,w.heap[B]?=some (.cells C 230 (0,0))/\0+1<C.size/\NoW (.cells C 230 (0,0))/\Qce z (.pointer (some ⟨B,0,none⟩)) w NoA
def Put.own{B:Nat}{C:Array Value}{z:Int}{w w':World}(h:Put B 0 C 230 z w w')(ho:0+1<C.size)(hC:NoW (.cells C 230 (0,0))):Uzy B z w':=by
 have h1:=h.intP ho (A:=NoA) (fun _ h=>h.elim);obtain⟨h2,sl,h3,h4⟩:=h;obtain⟨p,cap,rfl,_,_⟩:=id h4;refine⟨_,h3,by simpa using ho,?_,h1.noA⟩;intro cs T' fr e i k x hx;cases e;rw[Array.getElem?_setIfInBounds] at hx
 split at hx
 .first|(split at hx<;>simp at hx;done)|(simp at hx;done)
 .rw[Array.getElem?_setIfInBounds] at hx
  split at hx
  .first|(split at hx<;>simp at hx;done)|(simp at hx;done)
  .exact hC C _ (0,0) rfl i k x hx
def Ujz(w:World):WSl w (.slice none 0 0) []:=⟨none,0,rfl,Nat.le_refl _,fun h=>absurd rfl h⟩
def Qkh{n k:Nat}(h:n<4294967296^k)(hk:k<274877906944):(Qac n).length<274877906944:=axd (Qal h) hk
def Udz{a b i j:Nat}(h:a<4294967296^i)(k:b<4294967296^j):a+b<4294967296^(i+j+1):=by
 have h1:4294967296^i<=4294967296^(i+j):=axg (by decide) (by omega);have h2:4294967296^j<=4294967296^(i+j):=axg (by decide) (by omega);rw[Nat.pow_succ];omega
def Uds(k:Nat):2^k<4294967296^(k/32+1):=by
 rw[show(4294967296:Nat)=2^32 by decide,<-Nat.pow_mul];exact Nat.pow_lt_pow_right (by decide) (by omega)
def Kgp(m o:Nat)(C:Array Value)(T:TypeId)(x R:Nat)(h1:R*R<=x)(h2:x<(R+1)*(R+1))(vx:Value)(A:Nat->Prop)(w:World)(hm:w.heap[m]?=some (.cells C T (0,0)))(ho:o+1<C.size)(hC:NoW (.cells C T (0,0)))(hx:Qce (x:Int) vx w A)(hn:(Qac x).length<1073741824) :
  Calls prog 251 #[.pointer (some ⟨m,o,none⟩),vx] w fun e w'=>e=.returned (.pointer (some ⟨m,o,none⟩))/\Put m o C T (R:Int) w w':=by
 have hmlt:m<w.heap.size:=(axa.1 hm).1;have hsign:=Qxc (x:Int) vx A w hx;have HS:=hid hsign;clear hsign
 by_cases hz:x=0
 .have hR:R=0:=by
   rcases axh R with h|h
   .exact h
   .have:=axr h h;omega
  subst hR;have his:=Qir m o C T false [] (.slice none 0 0) w 0 hm ho hC Qfz (Ujz w) (by simp) (by simp[wv]) (by simp);have HI:=hid his;have e0:(x:Int).sign=0:=by rw[hz];rfl
  have HE:=hid e0;clear his hm hC hx e0
  go_enter func251,Tryz.ntmps251
  go_wp2_with (first
   | (go_at_call 176;refine HS.out.mono ?_;rintro e w' ⟨rfl,rfl⟩;rw[HE.out])
   | (go_at_call 265;refine HI.out.mono ?_;rintro e w' ⟨rfl,hp⟩))
  go_ret
  exact⟨rfl,hp⟩
 .have hpos:0<x:=Nat.pos_of_ne_zero hz;have e1:(x:Int).sign=1:=axn (by omega);have hx0:Qce (x:Int) vx w NoA:=hx.noA;have hbit:=fun(w1:World) (hb:Below w.heap.size w w1)=>Qva (x:Int) vx NoA w1 (hx0.below hb) (by rw[show((x:Int)).natAbs=x from rfl];omega)
  have HB:=hid hbit;have HE:=hid e1;have HM:=hid (And.intro hm hC);have HX:=hid hx0;have HN:=hid hn;clear hm hC hx hx0 e1 hbit hn hz
  go_enter func251,Tryz.ntmps251
  go_wp2_with (first
   | (go_at_call 176;refine HS.out.mono ?_;rintro e w' ⟨rfl,rfl⟩;rw[HE.out])
   | (go_at_call 247;refine(Qgv 1 (by decide) (by decide) _).mono ?_;rintro e w2 ⟨v1,rfl,hv1⟩))
  have hb2:Below w.heap.size w w2:=(br.alloc lr _).trans (hv1.1.mono (by simp));refine(HB.out w2 hb2).mono ?_;rintro e w3 ⟨N,rfl,hN,hN2,hb3⟩;have e2:(N:Int).tdiv 2=((N/2:Nat):Int):=by rw[Int.tdiv_eq_ediv_of_nonneg (by omega)];omega
  have hN3:N<34359738368:=by
   have:=HN.out;rw[show((x:Int)).natAbs=x from rfl] at hN2;omega
  have e3:IntKind.u64.wrap (((N/2:Nat):Int)+1)=((N/2+1:Nat):Int):=by rw[IntKind.wrap_u64];omega
  have e4:IntKind.i64.wrap (((N/2:Nat):Int)+1)=((N/2:Nat):Int)+1:=by rw[IntKind.wrap_i64];omega
  go_wp2_with fail
  have e5:((N:Int)/2+1)=((N/2+1:Nat):Int):=by omega
  rw[e5];have k1:w2.heap[w.heap.size]?=some (.cells #[.bool false,.slice none 0 0] 230 (0,0)):=(hv1.1.block _ (by simp)).trans (heap_alloc_new w _);have k2:=(hb3.block w.heap.size (axa.1 k1).1).trans k1;have hi1:Qce (1:Int) v1 w3 NoA:=(hv1.2 NoA (fun _ h=>h.elim)).below hb3;have hsl:=Uds (N/2+1);refine(Ufi w.heap.size 0 _ _ (1:Int) v1 (N/2+1) NoA w3 k2 (by decide) Qbi hi1 (by rw[show(1:Int).natAbs=1 from rfl];exact Qkh (k:=1) (by decide) (by decide)) (by omega) (by
   rw[show(1:Int).natAbs=1 from rfl,Nat.one_mul];exact axd (Qal hsl) (by omega))).mono ?_
  rintro e w4 ⟨rfl,hp4⟩;obtain⟨C4,_,_,_,hi4⟩:=hp4.own (by decide) Qbi;rw[Int.one_mul,show(2:Int)^(N/2+1)=((2^(N/2+1):Nat):Int) by simp] at hi4;have hb4:Below w.heap.size w w4:=(hb2.trans (hb3.mono hb2.size)).trans (hp4.1.below lr (axw hb2.size hb3.size));have hf:=Kba (x:=x) hN.out.1;have hK:N/2<17179869184:=by omega
  obtain⟨K,hKe⟩:∃ K,K=(N/2+1)/32+1:=⟨_,rfl⟩
  have hK2:K<536870914:=by omega
  rw[<-hKe] at hsl;obtain⟨g0,hg0⟩:∃ g0,g0=2^(N/2+1):=⟨_,rfl⟩
  have hg1:0<g0:=by rw[hg0];exact Nat.two_pow_pos _
  rw[<-hg0] at hf hsl hi4;have HF:=hid (And.intro hf (And.intro hsl hg1));clear hf hsl hN hp4 hi1 k1 k2 hv1 hb3 hb2 e3 e4 e5 e2 hK hKe hg0 hg1 hN2 hN3
  go_wp2_with fail
  go_loopg [5,6] g0 (fun g p q wr=>Qce (g:Int) p wr NoA/\Hid (0<g)/\Hid (x<(g+1)*(g+1))/\Hid (g<4294967296^K)/\Below w.heap.size w wr)
  case atStart=>exact⟨hi4,hid HF.out.2.2,hid HF.out.1,hid HF.out.2.1,hb4⟩
  case round =>
   obtain⟨hr,hg,hf,hl,hB⟩:=hrel;have hxb:∀{w1:World},Below w.heap.size w w1->Qce (x:Int) vx w1 NoA:=fun h=>HX.out.below h
   have hlx:(Qac ((x:Int)).natAbs).length<274877906944:=by have:=HN.out;rw[show((x:Int)).natAbs=x from rfl];omega
   have hlg:(Qac ((gk:Int)).natAbs).length<274877906944:=Qkh hl.out (by omega);have hq:x/gk<4294967296^(Qac x).length:=axd (Nat.div_le_self _ _) (Qbr x);have hsum:=Udz hq hl.out;have hlq:=Qkh hq (by have:=HN.out;omega);have hls:=Qkh hsum (by have:=HN.out;omega);have hlr:(Qac ((x/gk+gk)/2^1)).length<274877906944:=Qkh (axd (Nat.div_le_self _ _) hsum) (by have:=HN.out;omega);have hsK:(x/gk+gk)/2^1<gk->(x/gk+gk)/2^1<4294967296^K:=fun h=>Nat.lt_trans h hl.out
   have hstep:=Kee (x:=x) hg.out;have hspos:=Klm hpos hg.out;have hend:=Kll (x:=x) (r:=gk);obtain⟨s,hs⟩:∃ s,s=(x/gk+gk)/2^1:=⟨_,rfl⟩
   rw[show(x/gk+gk)/2=s by rw[hs]] at hstep hspos hend;rw[<-hs] at hlr hsK;have HS2:=hid hs;have HL:=hid (And.intro hlx (And.intro hlg (And.intro hlq (And.intro hls hlr))));have HW:=hid (And.intro hstep (And.intro hspos (And.intro hend hsK)));have HG:=hid (show(gk:Int)≠0 by have:=hg.out;omega);clear hq hsum hlx hlg hlq hls hlr hsK hstep hspos hend hs
   go_wp2_with fail
   have hb0:Below wr.heap.size wr (wr.alloc (.cells #[.bool false,.slice none 0 0] 230)):=br.alloc lr _;refine(Qrq wr.heap.size 0 _ _ (x:Int) (gk:Int) HG.out vx u5 NoA _ (heap_alloc_new wr _) (by decide) Qbi (hxb (hB.trans (hb0.mono hB.size))) (hr.below hb0) HL.out.1).mono ?_;rintro e w5 ⟨rfl,hp5⟩;rw[show((x:Int)).tdiv (gk:Int)=((x/gk:Nat):Int) from rfl] at hp5;obtain⟨C5,a1,a2,a3,a4⟩:=hp5.own (by decide) Qbi;have hb5:Below wr.heap.size wr w5:=hb0.trans (hp5.1.below lr hb0.size)
   go_wp2_with fail
   refine(Kog wr.heap.size 0 C5 _ ((x/gk:Nat):Int) (gk:Int) _ u5 NoA w5 a1 a2 a3 a4 (hr.below hb5) HL.out.2.2.1 HL.out.2.1).mono ?_;rintro e w6 ⟨rfl,hp6⟩;rw[show((x/gk:Nat):Int)+(gk:Int)=((x/gk+gk:Nat):Int) by omega] at hp6;obtain⟨C6,c1,c2,c3,c4⟩:=hp6.own a2 a3;have hb6:Below wr.heap.size wr w6:=hb5.trans (hp6.1.below lr hb5.size)
   go_wp2_with fail
   refine(Ufl wr.heap.size 0 C6 _ (x/gk+gk) _ 1 NoA w6 c1 c2 c3 c4 HL.out.2.2.2.1 (by decide)).mono ?_;rintro e w7 ⟨rfl,hp7⟩;rw[<-HS2.out] at hp7;obtain⟨C7,d1,d2,d3,d4⟩:=hp7.own c2 c3;have hb7:Below wr.heap.size wr w7:=hb6.trans (hp7.1.below lr hb6.size);clear hp5 hp6 hp7 a1 a2 a3 a4 c1 c2 c3 c4
   go_wp2_with fail
   refine(Qwy (s:Int) (gk:Int) _ u5 NoA w7 d4 (hr.below hb7) HL.out.2.2.2.2 HL.out.2.1).mono ?_;rintro e w8 ⟨rfl,hb8⟩;have hb9:Below wr.heap.size wr w8:=hb7.trans (hb8.mono hb7.size)
   by_cases hc:s<gk
   .rw[show Qgs (s:Int) (gk:Int)=-1 by unfold Qgs;rw[if_pos (by omega)]]
    go_wp2_with fail
    go_roundg s
    case rel=>exact⟨d4.below hb8,hid HW.out.2.1,hid HW.out.1,hid (HW.out.2.2.2 hc),hB.trans (hb9.mono hB.size)⟩
    case measure=>exact hc
   .have hR:gk=R:=Kiy (HW.out.2.2.1 (by omega)) hf.out h1 h2;have hset:=Qmb m o C T (gk:Int) u5 NoA w8 ((hb9.block m (by have:=hB.size;omega)).trans ((hB.block m hmlt).trans HM.out.1)) ho HM.out.2 (hr.below hb9) HL.out.2.1;have HT:=hid hset;have hfin:Below w.heap.size w w8:=hB.trans (hb9.mono hB.size);clear hset d1 d2 d3 d4 hr
    by_cases hc2:gk<s
    .rw[show Qgs (s:Int) (gk:Int)=1 by unfold Qgs;rw[if_neg (by omega),if_pos (by omega)]]
     go_wp2_with (go_at_call 255;refine HT.out.mono ?_;rintro e w9 ⟨rfl,hp9⟩)
     go_ret
     rw[hR] at hp9;exact⟨rfl,hp9.below hfin⟩
    .rw[show Qgs (s:Int) (gk:Int)=0 by unfold Qgs;rw[if_neg (by omega),if_neg (by omega)]]
     go_wp2_with (go_at_call 255;refine HT.out.mono ?_;rintro e w9 ⟨rfl,hp9⟩)
     go_ret
     rw[hR] at hp9;exact⟨rfl,hp9.below hfin⟩
end Go.Proofs.YtmimficdpfmfgaaGreat
namespace Tr
def Uiw{a r g:Nat}(h:a<(r+2^(g+1))*(r+2^(g+1))):a<(r+2^g+2^g)*(r+2^g+2^g):=by
 rw[Nat.add_assoc,show 2^g+2^g=2^(g+1) by rw[Nat.pow_succ];omega];exact h
def Uaz{a N:Nat}(h:a<2^N):a<(0+2^(N/2+1))*(0+2^(N/2+1)):=by
 rw[Nat.zero_add,<-Nat.pow_add];exact axc h (axg (by decide) (by omega))
end Tr
namespace Go.Proofs.YtmimficdpfmfgaaGreat
open Go.RowKit Tr Proofs.Tryz
def Kss(a:Nat)(va:Value)(w:World)(ha:WSl w va (Qac a))(hn:(Qac a).length<549755813888) :
  Calls prog 282 #[va] w fun e w'=>∃ N:Nat,e=.returned (.int .i64 N)/\Hid (Qvb a N)/\N<=32*(Qac a).length/\w=w':=by
 by_cases hz:a=0
 .subst hz;rw[Qay] at ha ⊢;obtain⟨p,cap,rfl,_,_⟩:=ha
  go_enter func282,Tryz.ntmps282
  go_wp2_with fail
  go_ret
  exact⟨0,rfl,hid Kab,Nat.zero_le _,rfl⟩
 .have hm0:0<(Qac a).length:=List.length_pos_iff.2 (fun h=>hz (Qbz.1 h));refine(Kbu a _ rfl hm0 va w ha hn).mono ?_;rintro e w' ⟨⟨k,k1,k2,k3,k4,rfl⟩,rfl⟩;exact⟨_,rfl,hid (Kst rfl hm0 rfl k1 k3 k4),by omega,rfl⟩
def Kte(n R:Nat)(h1:R*R<=n)(h2:n<(R+1)*(R+1))(w:World)(hs:(Qcg n).size<1073741824)(hn:(Qac n).length<1073741824) :
  Calls prog 253 #[Qdu (n:Int)] w fun e w'=>e=.returned (.tuple #[Qdu (R:Int),Qdu ((n-R*R:Nat):Int)])/\Below w.heap.size w w':=by
 have e0:Qdu (n:Int)=.agg #[.bool false,.string (Qcg n)]:=by simp[Qdu]
 rw[e0]
 go_enter func253,Tryz.ntmps253
 go_wp2_with fail
 obtain⟨W,hW⟩:∃ W,W=((w.alloc (.cells #[.bool false,.string (Qcg n)] 24)).alloc (.cells #[.bool false,.string ⟨#[]⟩] 24)).alloc (.cells #[.bool false,.string ⟨#[]⟩] 24):=⟨_,rfl⟩
 have hbW:Below w.heap.size w W:=by rw[hW];exact((br.alloc lr _).alloc (by simp) _).alloc (by simp;omega) _
 have b2:W.heap[w.heap.size+1]?=some (.cells #[.bool false,.string ⟨#[]⟩] 24 (0,0)):=by
  rw[hW,heap_alloc_old]
  .have:=heap_alloc_new (w.alloc (.cells #[.bool false,.string (Qcg n)] 24)) (.cells #[.bool false,.string ⟨#[]⟩] 24);simpa using this
  .simp
 have b3:W.heap[w.heap.size+1+1]?=some (.cells #[.bool false,.string ⟨#[]⟩] 24 (0,0)):=by
  rw[hW];have:=heap_alloc_new ((w.alloc (.cells #[.bool false,.string (Qcg n)] 24)).alloc (.cells #[.bool false,.string ⟨#[]⟩] 24)) (.cells #[.bool false,.string ⟨#[]⟩] 24);simpa using this
 rw[<-hW];clear hW;refine(Qwn n (by omega) W).mono ?_;rintro e w1 ⟨v4,rfl,hv4,hb1⟩
 go_wp2_with fail
 refine(Kss n v4 w1 hv4 (by omega)).mono ?_;rintro e w2 ⟨N,rfl,hN,hN2,rfl⟩;have e2:(N:Int).tdiv 2=((N/2:Nat):Int):=by rw[Int.tdiv_eq_ediv_of_nonneg (by omega)];omega
 have e5:wrap64 ((N:Int)/2)=(N:Int)/2:=by unfold wrap64;omega
 have hf:=Uaz hN.out.1;have HF:=hid (And.intro hf hN2);have HB:=hid (And.intro b2 (And.intro b3 hbW));have HV:=hid hv4;have HN:=hid (And.intro hn (And.intro h1 h2));clear hf hN hN2 b2 b3 hbW hv4 hn hs h1 h2
 go_wp2_with fail
 simp only[e5];clear e5 e2
 go_loopg [5,6,7] (N/2+1) (fun g p q u wr=>∃ r,WSl wr p (Qac r)/\q=.int .i64 ((g:Int)-1)/\Hid (r*r<=n)/\Hid (n<(r+2^g)*(r+2^g))/\Hid (g<=N/2+1)/\Below w1.heap.size w1 wr)
 case atStart=>exact⟨0,by rw[Qay];exact⟨none,0,rfl,Nat.le_refl _,fun h=>absurd rfl h⟩,by congr 1;omega,hid (Nat.zero_le _),hid HF.out.1,hid lr,Below.refl _ _⟩
 case round =>
  obtain⟨r,hr,rfl,hr1,hr2,hg,hB⟩:=hrel;have hrn:r<=n:=by
   rcases axh r with h|h
   .omega
   .exact axw (Nat.le_mul_of_pos_left r h) hr1.out
  have hlr:(Qac r).length<=(Qac n).length:=Qal (axd hrn (Qbr n));cases gk with
  | zero =>
   have hRr:r=R:=Kiy hr1.out (by simpa using hr2.out) HN.out.2.1 HN.out.2.2;subst hRr;have ez:∀ k:Nat,Qdu (sgn false k)=.agg #[.bool false,.string (Qcg k)]:=fun k=>by simp[Qdu,sgn]
   have hlen:(Qac r).length<1073741824:=axd hlr HN.out.1;have HL:=hid (And.intro hlen (And.intro hr1.out hlr));have HR:=hid hr;have EZ:=hid ez;clear hr1 hr2 hg hrn hlr hlen hr ez
   go_wp2_with fail
   refine(Qnl false (Qac r) u5 wr (Qap _) HR.out (by have:=HL.out.1;omega)).mono ?_;rintro e w3 ⟨rfl,hb3⟩;rw[EZ.out,Qaq]
   go_wp2_with fail
   refine(Qic (Qac r) (Qac r) u5 u5 w3 (Qap _) (Qap _) (HR.out.below hb3) (HR.out.below hb3) (by have:=HL.out.1;omega) (by have:=HL.out.1;omega)).mono ?_;rintro e w4 ⟨v35,rfl,hv35,hb4⟩;rw[Qaq] at hv35
   go_wp2_with fail
   have hb14:Below w1.heap.size w1 w4:=hB.trans ((hb3.trans (hb4.mono hb3.size)).mono hB.size);refine(Kcd (Qac n) (Qac (r*r)) v4 v35 w4 (Qap _) (Qap _) (by rw[Qaq,Qaq];exact HL.out.2.1) (Qal (axd HL.out.2.1 (Qbr n))) (HV.out.below hb14) hv35 (by have:=HN.out.1;omega)).mono ?_;rintro e w5 ⟨v36,rfl,hv36,hb5⟩;rw[Qaq,Qaq] at hv36
   go_wp2_with fail
   refine(Qnl false (Qac (n-r*r)) v36 w5 (Qap _) hv36 (by
    have:=Qal (axd (Nat.sub_le n (r*r)) (Qbr n));have:=HN.out.1;omega)).mono ?_
   rintro e w6 ⟨rfl,hb6⟩;rw[EZ.out,Qaq];have hb16:Below W.heap.size W w6:=hb1.trans ((hb14.trans ((hb5.trans (hb6.mono hb5.size)).mono hb14.size)).mono hb1.size);have c2:=(hb16.block _ (axa.1 HB.out.1).1).trans HB.out.1;have c3:=(hb16.block _ (axa.1 HB.out.2.1).1).trans HB.out.2.1;have hbw:Below w.heap.size w w6:=HB.out.2.2.trans (hb16.mono HB.out.2.2.size);have c20:w6.cell? ⟨w.heap.size+1,0,none⟩=some (.bool false):=by simp[World.cell?,c2]
   have c21:w6.cell? ⟨w.heap.size+1,1,none⟩=some (.string ⟨#[]⟩):=by simp[World.cell?,c2]
   have c30:w6.cell? ⟨w.heap.size+1+1,0,none⟩=some (.bool false):=by simp[World.cell?,c3]
   have c31:w6.cell? ⟨w.heap.size+1+1,1,none⟩=some (.string ⟨#[]⟩):=by simp[World.cell?,c3]
   have f2:∀ i,w6.frozen? ⟨w.heap.size+1,i,none⟩=false:=fun i=>by simp[World.frozen?,c2]
   have f3:∀ i,w6.frozen? ⟨w.heap.size+1+1,i,none⟩=false:=fun i=>by simp[World.frozen?,c3]
   have g2:=f2 0;have g21:=f2 1;have g3:=f3 0;have g31:=f3 1;clear f2 f3 c2 c3
   go_wp2_with fail
   refine bodyPost_ret (v:=.tuple #[.agg #[.bool false,.string (Qcg r)],.agg #[.bool false,.string (Qcg (n-r*r))]]) (by simp[results,Tryz.results253,go_sem,c20,c21,c30,c31]) rfl ⟨by simp[Qdu],?_⟩;exact(((hbw.setCell (by simp) _).setCell (by simp) _).setCell (by simp;omega) _).setCell (by simp;omega) _
  | succ k =>
   have e3:((k+1:Nat):Int)-1=(k:Int):=by omega
   rw[e3];have hk:k<34359738368:=by have:=hg.out;have:=HF.out.2;have:=HN.out.1;omega
   have hp2:2^k<4294967296^(k/32+1):=Uds k;have hxl:(Qac (r+2^k)).length<549755813888:=by
    have:=Qal (Udz (axd hrn (Qbr n)) hp2);have:=HN.out.1;omega
   have hlr2:(Qac r).length<549755813888:=by have:=HN.out.1;omega
   have hpl:(Qac (2^k)).length<549755813888:=by have:=Qal hp2;omega
   have hstep:=Uiw hr2.out;have HL:=hid (And.intro hxl (And.intro hlr2 (And.intro hpl hstep)));have HR:=hid hr;have HI:=hid (And.intro hr1.out (And.intro hg.out hr2.out));clear hxl hlr2 hpl hstep hp2 hr hr1 hr2 hg hlr hrn
   go_wp2_with fail
   have hb2:Below wr.heap.size wr (wr.alloc (.cells #[.int .u32 1] 268)):=br.alloc lr _;refine(Kfb [1] k (.slice (some ⟨wr.heap.size,0,none⟩) 1 1) _ (by rw[Qdz];exact⟨by decide,Qfz⟩) ((Blk.new wr [1]).wsl (k:=1) (cap:=1) (by simp) (by omega)) (by simp) (by omega)).mono ?_;rintro e w3 ⟨v21,rfl,hv21,hb3⟩;rw[show wv [1]*2^k=2^k by simp[wv]] at hv21;have hb13:=hb2.trans (hb3.mono hb2.size)
   go_wp2_with fail
   refine(Kcf (Qac r) (Qac (2^k)) u5 v21 w3 (Qap _) (Qap _) (HR.out.below hb13) hv21 HL.out.2.1 HL.out.2.2.1).mono ?_;rintro e w4 ⟨v22,rfl,hv22,hb4⟩;rw[Qaq,Qaq] at hv22;have hb14:=hb13.trans (hb4.mono hb13.size)
   go_wp2_with fail
   refine(Qic (Qac (r+2^k)) (Qac (r+2^k)) v22 v22 w4 (Qap _) (Qap _) hv22 hv22 HL.out.1 HL.out.1).mono ?_;rintro e w5 ⟨v25,rfl,hv25,hb5⟩;rw[Qaq] at hv25;have hb15:=hb14.trans (hb5.mono hb14.size);have hb1r:Below w1.heap.size w1 w5:=hB.trans (hb15.mono hB.size)
   go_wp2_with fail
   have hpp:(Qac ((r+2^k)*(r+2^k))).length<1099511627776:=by
    have:=Qal (show(r+2^k)*(r+2^k)<4294967296^((Qac (r+2^k)).length+(Qac (r+2^k)).length) by rw[Nat.pow_add];exact Nat.mul_lt_mul'' (Qbr _) (Qbr _));have:=HL.out.1;omega
   refine(Qgw ((r+2^k)*(r+2^k)) n v25 v4 w5 hv25 (HV.out.below hb1r) hpp).mono ?_;rintro e w6 ⟨rfl,nn,rfl⟩;have hb16:Below w1.heap.size w1 (w5.drewN nn):=hb1r.trans ⟨rfl,rfl,rfl,Nat.le_refl _,fun _ _=>rfl⟩;have ek:(k:Int)-1=((k:Nat):Int)-1:=rfl
   by_cases hc:(r+2^k)*(r+2^k)<=n
   .have hcz:Qdw ((r+2^k)*(r+2^k)) n<=0:=by
     unfold Qdw
     split
     .decide
     .rw[if_neg (by omega)];decide
    go_wp2_with fail
    go_roundg k
    case rel=>exact⟨r+2^k,(hv22.below hb5).drewN nn,rfl,hid hc,hid HL.out.2.2.2,hid (by have:=HI.out.2.1;omega),hb16⟩
    case measure=>omega
   .have hcz:¬Qdw ((r+2^k)*(r+2^k)) n<=0:=by unfold Qdw;rw[if_neg (by omega),if_pos (by omega)];decide
    go_wp2_with fail
    go_roundg k
    case rel=>exact⟨r,(HR.out.below hb15).drewN nn,rfl,hid HI.out.1,hid (by omega),hid (by have:=HI.out.2.1;omega),hb16⟩
    case measure=>omega
def Uqt{a b:Rat}(ha:0<=a)(hb:0<=b)(h:a*a=b*b):a=b:=by
 have h1:(a-b)*(a+b)=0:=by grind
 rcases axt.1 h1 with h|h
 .grind
 .have h2:a=0:=by grind
  grind
def Qer(q:Rat):Prop:=∃ r,0<=r/\r*r=q
open Classical in
noncomputable def sqr(q:Rat):Rat:=if h:Qer q then h.choose else 0
def Qhi{q:Rat}(h:Qer q):0<=sqr q/\sqr q*sqr q=q:=by
 unfold sqr;rw[dif_pos h];exact h.choose_spec
def Uqu{q r:Rat}(h0:0<=r)(h:r*r=q):Qer q/\sqr q=r:=by
 have hh:Qer q:=⟨r,h0,h⟩
 exact⟨hh,Uqt (Qhi hh).1 h0 ((Qhi hh).2.trans h.symm)⟩
def Kmu(q:Rat):0<=sqr q:=by
 unfold sqr;split
 .rename_i h;exact h.choose_spec.1
 .exact Rat.le_refl
def nm(z:QC):Rat:=z.re*z.re+z.im*z.im
def Kbw(r:Rat):Nat.gcd (r.num*r.num).natAbs (r.den*r.den)=1:=by
 rw[axm];have h:Nat.Coprime r.num.natAbs r.den:=r.reduced;exact(h.mul_left h).mul_right (h.mul_left h)
def Qte{q:Rat}(h:Qer q):q.num=(sqr q).num*(sqr q).num/\q.den=(sqr q).den*(sqr q).den:=by
 have e:=(Qhi h).2;generalize sqr q=r at *
 subst e;have g:=Kbw r;constructor
 .rw[Rat.num_mul,g];simp
 .rw[Rat.den_mul,g];simp
def Qov(n:Nat):∃ R,R*R<=n/\n<(R+1)*(R+1):=by
 induction n with
 | zero=>exact⟨0,by decide,by decide⟩
 | succ n ih =>
  obtain⟨R,h1,h2⟩:=ih
  by_cases h:n+1<(R+1)*(R+1)
  .exact⟨R,by omega,h⟩
  .refine⟨R+1,by omega,?_⟩;have:(R+1+1)*(R+1+1)=(R+1)*(R+1)+2*R+3:=by rw[Nat.mul_add,Nat.add_mul];omega
   omega
def Ksn{R S n:Nat}(h1:R*R<=n)(h2:n<(R+1)*(R+1))(h:S*S=n):R=S:=by
 subst h;rcases Nat.lt_trichotomy R S with k|k|k
 .exact absurd (axr (show R+1<=S from k) (show R+1<=S from k)) (by omega)
 .exact k
 .exact absurd (axr (show S+1<=R from k) (show S+1<=R from k)) (by
   have:(S+1)*(S+1)=S*S+2*S+1:=by rw[Nat.mul_add,Nat.add_mul];omega
   omega)
def Qtf{q:Rat}(h0:0<=q){R D:Nat}(r1:R*R<=q.num.natAbs)(r2:q.num.natAbs<(R+1)*(R+1))(d1:D*D<=q.den)(d2:q.den<(D+1)*(D+1)) :
  (Qer q↔R*R=q.num.natAbs/\D*D=q.den)/\D≠0/\(Qer q->sqr q=Rat.divInt R D/\(sqr q).num=R/\(sqr q).den=D):=by
 have hD:D≠0:=by
  intro e;subst e;have:=q.den_nz;have:q.den<1:=d2;omega
 have hn:(q.num.natAbs:Int)=q.num:=Int.natAbs_of_nonneg (Rat.num_nonneg.2 h0);have key:Qer q->(sqr q).num=R/\(sqr q).den=D:=fun h=>by
  obtain⟨e1,e2⟩:=Qte h;have hs:0<=(sqr q).num:=Rat.num_nonneg.2 (Kmu q);have e3:(sqr q).num.natAbs*(sqr q).num.natAbs=q.num.natAbs:=by rw[<-axm,<-e1]
  have e4:=Ksn r1 r2 e3;have e5:=Ksn d1 d2 e2.symm;exact⟨by rw[e4];exact(Int.natAbs_of_nonneg hs).symm,e5.symm⟩
 refine⟨⟨fun h=>?_,fun⟨e1,e2⟩=>?_⟩,hD,fun h=>⟨?_,key h⟩⟩
 .obtain⟨e1,e2⟩:=Qte h;obtain⟨k1,k2⟩:=key h;refine⟨?_,by rw[e2,k2]⟩;rw[e1,k1,axm,axs]
 .refine⟨Rat.divInt R D,?_,?_⟩
  .exact Rat.divInt_nonneg (Int.natCast_nonneg R) (Int.natCast_nonneg D)
  .rw[Rat.divInt_mul_divInt]
   conv=>rhs;rw[<-Rat.num_divInt_den q]
   rw[<-hn,<-e1,<-e2,Int.natCast_mul,Int.natCast_mul]
 .obtain⟨k1,k2⟩:=key h
  conv=>lhs;rw[<-Rat.num_divInt_den (sqr q)]
  rw[k1,k2]
def Umj{q:Rat}{k:Nat}(h:RL q k)(hk:1<=k):RL (sqr q) k:=by
 by_cases hq:Qer q
 .obtain⟨e1,e2⟩:=Qte hq;have le:∀ n:Nat,n<=n*n:=fun n=>by rcases n with _|n;exact Nat.le_refl _;exact Nat.le_mul_of_pos_left _ (by omega)
  refine⟨Qfc ?_ h.1,Qfc ?_ h.2⟩
  .rw[e1,axm];exact le _
  .rw[e2];exact le _
 .have:sqr q=0:=by unfold sqr;rw[dif_neg hq]
  rw[this];exact⟨by simp[Qac],axw (Qal (k:=1) (by decide)) hk⟩
def Uqv{n k:Nat}(h:(Qac n).length<=k):(Qcg n).size<=4*k:=by
 rw[Qfk];refine Qio (axc (Qbr n) ?_);rw[show(4294967296:Nat)=256^4 from rfl,<-Nat.pow_mul];exact axg (by decide) (by omega)
