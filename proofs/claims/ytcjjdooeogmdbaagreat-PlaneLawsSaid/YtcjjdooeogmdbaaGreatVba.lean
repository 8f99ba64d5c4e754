/- Laws. -/
import Derived.Test.YtcjjdooeogmdbaaGreatVay
set_option linter.all false
set_option maxHeartbeats 4000000
set_option maxRecDepth 100000
open Go.Lib (hid)
namespace Go.Proofs.YtcjjdooeogmdbaaGreat
open Go.RowKit Tr Proofs.Tryz
def Qfe.shape{q:Rat}{v:Value}{w:World}{A:Nat->Prop}(h:Qfe q v w A):∃ p,v=.pointer p:=by
 rcases h with⟨rfl,_⟩|h
 .exact⟨none,rfl⟩
 .obtain⟨m,rfl⟩:=h.shape;exact⟨_,rfl⟩
def Qru{a b:Rat}{v1 v2:Value}{w w1:World}{A:Nat->Prop}{n:Nat}(hb:Below w.heap.size w w1)(h1:Qfe a v1 w1 (Mo A n))(h2:Qfe b v2 w1 (Mo A n))(hn:w.heap.size<=n) :
  ∃ u,Ending.returned (.agg #[v1,v2])=.returned u/\Below w.heap.size w ((w1.setCell ⟨n,0,none⟩ v1).setCell ⟨n,1,none⟩ v2)/\Qir a b u ((w1.setCell ⟨n,0,none⟩ v1).setCell ⟨n,1,none⟩ v2) A:=by
 refine⟨_,rfl,(hb.setCell (p:=⟨n,0,none⟩) hn _).setCell (p:=⟨n,1,none⟩) hn _,v1,v2,rfl,?_,?_⟩
 .exact Qoc _ (Qfe.keeps a) (Qiw _ (Qfe.keeps a) (Qiw _ (Qfe.keeps a) h1))
 .exact Qoc _ (Qfe.keeps b) (Qiw _ (Qfe.keeps b) (Qiw _ (Qfe.keeps b) h2))
def Kxu(a b c d n:Rat)(hn:n=c*c+d*d)(hn0:n≠0)(v v':Value)(A:Nat->Prop)(w:World)(hv:Qir a b v w A)(hv':Qir c d v' w A)(hA:Rcv A w)(k l:Nat)(hla:RL a k)(hlb:RL b k)(hlc:RL c l)(hld:RL d l)(hkl:(k+l+(k+l)+1)+(l+l+(l+l)+1)<137438953472) :
  Calls prog 123 #[v,v'] w fun e w'=>∃ u,e=.returned u/\Below w.heap.size w w'/\Qir ((a*c-b*(-d))*n⁻¹) ((a*(-d)+b*c)*n⁻¹) u w' A:=by
 have hv0:=Qds (Qir.keeps a b) (n:=w.heap.size+2) br (by omega) hv;have hv0':=Qds (Qir.keeps c d) (n:=w.heap.size+2) br (by omega) hv';obtain⟨u1,u2,rfl,h1,h2⟩:=hv;obtain⟨u3,u4,rfl,h3,h4⟩:=hv';clear h1 h2 h3 h4;obtain⟨W,HV,hs1,hs2,e0,e1,e2,e3⟩:=Qxx w u1 u2 u3 u4 A hA;have hx:=Qcp.Keeps.below (Qbd.keeps (Qir.keeps a b)) HV.out.2.1 hv0;have hy:=Qcp.Keeps.below (Qbd.keeps (Qir.keeps c d)) HV.out.2.1 hv0';have HN:=hid (And.intro hn hn0);clear hA hv0 hv0' hn hn0;have lm1:RL (a*c-b*(-d)) (k+l+(k+l)+1):=Qdc (Qam hla hlc) (Qam hlb (Qbq hld));have lm2:RL (a*(-d)+b*c) (k+l+(k+l)+1):=Qca (Qam hla (Qbq hld)) (Qam hlb hlc);have ln:RL n (l+l+(l+l)+1):=by rw[HN.out.1];exact Qca (Qam hlc hlc) (Qam hld hld)
 have li:RL n⁻¹ (l+l+(l+l)+1):=Qdn HN.out.2 ln
 go_enter func123,Tryz.ntmps123
 go_wp2_with fail
 rw[<-HV.out.1];refine Qat [(.lit,[]),(.lit,[]),(.val,[]),(.val,[2]),(.new zR,[]),(.lit,[]),(.val,[]),(.on 4 zR,[6]),(.val,[3,7])]
  (Qfv [(2,Qbd (Mo A (w.heap.size+2)) (Qir c (-d))),(3,Qbd (Mo A (w.heap.size+2)) (Qir (a*c-b*(-d)) (a*(-d)+b*c))),(6,Qbd (Mo A (w.heap.size+2)) (Qbl n)),(7,Qbd (Mo A (w.heap.size+2)) (Qbl n⁻¹)),(8,Qbd (Mo A (w.heap.size+2)) (Qir ((a*c-b*(-d))*n⁻¹) ((a*(-d)+b*c)*n⁻¹)))]) (by kernel_rfl) ?_ ?_ (by simp[Qcy]) (by simp) (by kernel_rfl)
 .exact Qbc (by simp only[List.mem_cons,List.not_mem_nil,or_false];rintro p (rfl|rfl|rfl|rfl|rfl)<;>first|exact Qbd.keeps (Qbl.keeps _)|exact Qbd.keeps (Qir.keeps _ _))
 .refine⟨_,fun f w1 h1=>by(have d0:=ct h1 hs1 e0;have d1:=ct h1 hs1 e1;have d2:=ct h1 hs2 e2;have d3:=ct h1 hs2 e3;go_simp;rfl),?_⟩;refine⟨_,fun f w1 h1=>by(have d0:=ct h1 hs1 e0;have d1:=ct h1 hs1 e1;have d2:=ct h1 hs2 e2;have d3:=ct h1 hs2 e3;go_simp;rfl),?_⟩;simp only[Act.put,nrA,nrB,nrC,Nat.reduceAdd];refine⟨fun f w1 A1 k1 hA hN hd K hK=>by
   go_simp
   refine(Kbf c d _ (Un (Mo A (w.heap.size+2)) A1) w1 (Qdp (Qbd.keeps (Qir.keeps _ _)) hy k1 hN) (Qfj (HV.out.2.2.1.below (br.drew.trans k1)) hA) (hld.mono (by omega))).mono ?_;rintro e w' ⟨v,rfl,hb,hr⟩;exact hK _ _ hb hr,?_⟩
  simp only[Act.put,nrA,nrB,nrC,Nat.reduceAdd];refine⟨fun f w1 A1 k1 hA hN hd K hK=>by
   have i2:Qir c (-d) (f 2) w1 (Un (Mo A (w.heap.size+2)) A1):=hd 2 (by simp)
   go_simp
   refine(Kic a b c (-d) _ _ (Un (Mo A (w.heap.size+2)) A1) w1 (Qdp (Qbd.keeps (Qir.keeps _ _)) hx k1 hN) i2 (Qfj (HV.out.2.2.1.below (br.drew.trans k1)) hA) k l hla hlb hlc (Qbq hld) (by omega)).mono ?_;rintro e w' ⟨v,rfl,hb,hr⟩;exact hK _ _ hb hr,?_⟩
  refine⟨fun f w1=>by go_simp,?_⟩;refine⟨_,fun f w1 h1=>by(have d0:=ct h1 hs1 e0;have d1:=ct h1 hs1 e1;have d2:=ct h1 hs2 e2;have d3:=ct h1 hs2 e3;go_simp;rfl),?_⟩;simp only[Act.put,nrA,nrB,nrC,Nat.reduceAdd];refine⟨fun f w1 A1 k1 hA hN hd K hK=>by
   go_simp
   refine(Kqn c d _ (Un (Mo A (w.heap.size+2)) A1) w1 (Qdp (Qbd.keeps (Qir.keeps _ _)) hy k1 hN) (Qfj (HV.out.2.2.1.below (br.drew.trans k1)) hA) l hlc hld (by omega)).mono ?_;rintro e w' ⟨v,rfl,hb,hr⟩;rw[<-HN.out.1] at hr;exact hK _ _ hb hr,?_⟩
  simp only[Act.put,nrA,nrB,nrC,Nat.reduceAdd];refine⟨fun f w1 A1 m1 k1 hA hN hAm hm0 e hz hd K hK=>by
   simp only[e] at hK ⊢;have i6:Qbl n (f 6) w1 (Un (Mo A (w.heap.size+2)) A1):=hd 6 (by simp)
   go_simp
   refine(Kie m1 _ n HN.out.2 _ _ w1 hz (by decide) Qcy i6 _ ln (by omega)).mono ?_;rintro e w' ⟨rfl,hp⟩;exact hK _ w' hp.1 (hp.ratU (HV.out.2.2.1.below (br.drew.trans k1)) hA hm0 (fun b hb=>HV.out.2.2.1.lt hb)),?_⟩
  simp only[Act.put,nrA,nrB,nrC,Nat.reduceAdd];refine⟨fun f w1 A1 k1 hA hN hd K hK=>by
   have i3:Qir (a*c-b*(-d)) (a*(-d)+b*c) (f 3) w1 (Un (Mo A (w.heap.size+2)) A1):=hd 3 (by simp);have i7:Qbl n⁻¹ (f 7) w1 (Un (Mo A (w.heap.size+2)) A1):=hd 7 (by simp)
   go_simp
   refine(Kmp _ _ _ _ _ (Un (Mo A (w.heap.size+2)) A1) w1 i3 (.inr i7) (Qfj (HV.out.2.2.1.below (br.drew.trans k1)) hA) _ _ lm1 lm2 li hkl).mono ?_;rintro e w' ⟨v,rfl,hb,hr⟩;exact hK _ _ hb hr,?_⟩
  intro f w1 k1 hF;have i8:Qir ((a*c-b*(-d))*n⁻¹) ((a*(-d)+b*c)*n⁻¹) (f 8) w1 (Mo A (w.heap.size+2)):=Qbd.done (Qir.keeps _ _) hF.2;clear hF;simp only[Act.put,nrA,nrB,nrC];generalize f 2=x2;generalize f 3=x3;generalize f 6=x6;generalize f 7=x7;generalize f 8=x8 at *
  obtain⟨y1,y2,rfl,j1,j2⟩:=i8;have hb1:Below W.heap.size W w1:=br.drew.trans k1;obtain⟨c0,c1,f0,f1⟩:=HV.out.2.2.2 w1 hb1;have HE:=hid (And.intro j1 (And.intro j2 (HV.out.2.1.trans (hb1.mono HV.out.2.1.size))));obtain⟨m1,rfl⟩:=j1.shape;obtain⟨m2,rfl⟩:=j2.shape;clear e0 e1 e2 e3 j1 j2 hb1 k1 hx hy lm1 lm2 ln li
  go_wp2_with fail
  refine bodyPost_ret (v:=.agg #[.pointer m1,.pointer m2]) (by simp[results,Tryz.results123,go_sem,c0,c1]) rfl ?_;exact Qru HE.out.2.2 HE.out.1 HE.out.2.1 (by omega)
def Kbg(a b:Rat)(v:Value)(A:Nat->Prop)(w:World)(hv:Qir a b v w A)(hla:RL a 137438953472)(hlb:RL b 137438953472) :
  Calls prog 51 #[v] w fun e w'=>e=.returned (.tuple #[Kzm a b,.int .i64 (Qyq a b)])/\Below w.heap.size w w':=by
 obtain⟨u1,u2,rfl,h1,h2⟩:=hv;obtain⟨b1,t1,b2,t2,ea⟩:=Kcs a;obtain⟨b3,t3,b4,t4,eb⟩:=Kcs b;obtain⟨k1,hk1⟩:∃ k1,k1=Ktc a:=⟨_,rfl⟩
 obtain⟨k2,hk2⟩:∃ k2,k2=Ktc b:=⟨_,rfl⟩
 obtain⟨W0,hW0⟩:∃ W0,W0=w.alloc (.cells #[u1,u2] 96):=⟨_,rfl⟩
 have hz0:W0.heap.size=w.heap.size+1:=by rw[hW0];simp
 obtain⟨W,hW⟩:∃ W,W=W0.alloc (.cells #[.bool false,.string ⟨#[]⟩,.bool false,.string ⟨#[]⟩,.bool false,.string ⟨#[]⟩,.bool false,.string ⟨#[]⟩] 28):=⟨_,rfl⟩
 have hb0:Below w.heap.size w W0:=by rw[hW0];exact br.alloc lr _
 have hb1:Below W0.heap.size W0 W:=by rw[hW];exact br.alloc lr _
 have hb:=hb0.trans (hb1.mono hb0.size);obtain⟨e0,e1,_⟩:=Qid w u1 u2 96 (w1:=W) (by rw[<-hW0];exact hb1);have hlt:w.heap.size<W.heap.size:=by have:=hb1.size;omega
 have H1:=hid (Qsb a u1 A W (h1.below hb) hla);have H2:=hid (fun w' (h:Below W.heap.size W w')=>Qsb b u2 A w' ((h2.below hb).below h) hlb);rw[ea,<-hk1] at H1;rw[eb,<-hk2] at H2;have HK:=hid (And.intro (show k1=0↔Qar a by rw[hk1];exact Kcr) (And.intro (show k2=0↔Qar b by rw[hk2];exact Kcr) (And.intro ea eb)));have HV:=hid (And.intro (hW.trans (by rw[hW0])) (And.intro hb (fun w1 (h:Below W.heap.size W w1)=>And.intro (Qtb W0 _ _ _ _ _ _ _ _ _ (w1:=w1) (by rw[<-hW];exact h)) (Qqn W0 _ _ _ _ _ _ _ _ _ (w1:=w1) (by rw[<-hW];exact h)))));rw[hz0] at HV;clear hk1 hk2 ea eb hW hW0 hz0 hb hb0 hb1 h1 h2
 go_enter func51,Tryz.ntmps51
 go_wp2_with fail
 rw[<-HV.out.1];refine H1.out.mono ?_;rintro e w1 ⟨rfl,hb1⟩;have e0:=(hb1.cell (p:=⟨w.heap.size,0,none⟩) hlt).trans e0;have e1:=(hb1.cell (p:=⟨w.heap.size,1,none⟩) hlt).trans e1;have hlt1:w.heap.size<w1.heap.size:=Nat.lt_of_lt_of_le hlt hb1.size;have HB1:=hid hb1;clear hb1
 go_wp2_with fail
 have hal:=(Below.refl w1.heap.size w1).alloc lr (.cells #[.bool b1,.string t1,.bool b2,.string t2] 26);refine(H2.out _ (HB1.out.trans (hal.mono HB1.out.size))).mono ?_;rintro e w3 ⟨rfl,hb3⟩;obtain⟨g0,g1,g2,g3,_⟩:=Qgi w1 _ _ _ _ _ hb3;have hb13:=hal.trans (hb3.mono hal.size);have hbW3:=HB1.out.trans (hb13.mono HB1.out.size);obtain⟨⟨c0,c1,c2,c3,c4,c5,c6,c7⟩,f0,f1,f2,f3,f4,f5,f6,f7⟩:=HV.out.2.2 w3 hbW3;have hne:w1.heap.size<w3.heap.size:=by have:=hb3.size;simp at this;omega
 have hn2:w.heap.size+1<w3.heap.size:=by omega
 have hF:=HV.out.2.1.trans (hbW3.mono HV.out.2.1.size);have HF:=hid hF;have HO:=hid (fun(h:¬(Qar a/\Qar b))=>show zG=Kzm a b/\(4:Int)=Qyq a b by unfold Kzm Qyq;rw[if_neg h,if_neg h];exact⟨rfl,rfl⟩);clear e0 e1 hb3 hal hb13 hbW3 hF H1 H2
 by_cases x1:k1=0
 .by_cases x2:k2=0
  .have HG:=hid (And.intro (Ugo (HK.out.1.1 x1) (HK.out.2.1.1 x2) HK.out.2.2.1 HK.out.2.2.2) (show Qyq a b=0 by unfold Qyq;rw[if_pos ⟨HK.out.1.1 x1,HK.out.2.1.1 x2⟩]));subst x1 x2
   go_wp2_with fail
   refine bodyPost_ret (v:=.tuple #[.agg #[.bool b1,.string t1,.bool b2,.string t2,.bool b3,.string t3,.bool b4,.string t4],.int .i64 0]) (by simp[results,Tryz.results51,go_sem,c0,c1,c2,c3,c4,c5,c6,c7,hn2,Qjz]) rfl ⟨by rw[HG.out.1,HG.out.2],?_⟩;exact Below.alloc ((((((((HF.out.setCell (p:=⟨w.heap.size+1,0,none⟩) (Nat.le_succ _) _).setCell (p:=⟨w.heap.size+1,1,none⟩) (Nat.le_succ _) _).setCell (p:=⟨w.heap.size+1,2,none⟩) (Nat.le_succ _) _).setCell (p:=⟨w.heap.size+1,3,none⟩) (Nat.le_succ _) _).setCell (p:=⟨w.heap.size+1,4,none⟩) (Nat.le_succ _) _).setCell (p:=⟨w.heap.size+1,5,none⟩) (Nat.le_succ _) _).setCell (p:=⟨w.heap.size+1,6,none⟩) (Nat.le_succ _) _).setCell (p:=⟨w.heap.size+1,7,none⟩) (Nat.le_succ _) _) (by simp only[Qlo];exact(HF.out.size)) _
  .have hx2:(k2 != 0)=true:=by simpa using x2
   have HN:=hid (HO.out (fun h=>x2 (HK.out.2.1.2 h.2)));subst x1
   go_wp2_with fail
   refine bodyPost_ret (v:=.tuple #[zG,.int .i64 4]) (by unfold zG;simp[results,Tryz.results51,go_sem,c0,c1,c2,c3,c4,c5,c6,c7,hn2,Qjz]) rfl ⟨by rw[HN.out.1,HN.out.2],?_⟩;exact Below.alloc ((((((((HF.out.setCell (p:=⟨w.heap.size+1,0,none⟩) (Nat.le_succ _) _).setCell (p:=⟨w.heap.size+1,1,none⟩) (Nat.le_succ _) _).setCell (p:=⟨w.heap.size+1,2,none⟩) (Nat.le_succ _) _).setCell (p:=⟨w.heap.size+1,3,none⟩) (Nat.le_succ _) _).setCell (p:=⟨w.heap.size+1,4,none⟩) (Nat.le_succ _) _).setCell (p:=⟨w.heap.size+1,5,none⟩) (Nat.le_succ _) _).setCell (p:=⟨w.heap.size+1,6,none⟩) (Nat.le_succ _) _).setCell (p:=⟨w.heap.size+1,7,none⟩) (Nat.le_succ _) _) (by simp only[Qlo];exact(HF.out.size)) _
 .have hx1:(k1 != 0)=true:=by simpa using x1
  have HN:=hid (HO.out (fun h=>x1 (HK.out.1.2 h.1)))
  go_wp2_with fail
  refine bodyPost_ret (v:=.tuple #[zG,.int .i64 4]) (by unfold zG;simp[results,Tryz.results51,go_sem,c0,c1,c2,c3,c4,c5,c6,c7,hn2,Qjz]) rfl ⟨by rw[HN.out.1,HN.out.2],?_⟩;exact Below.alloc ((((((((HF.out.setCell (p:=⟨w.heap.size+1,0,none⟩) (Nat.le_succ _) _).setCell (p:=⟨w.heap.size+1,1,none⟩) (Nat.le_succ _) _).setCell (p:=⟨w.heap.size+1,2,none⟩) (Nat.le_succ _) _).setCell (p:=⟨w.heap.size+1,3,none⟩) (Nat.le_succ _) _).setCell (p:=⟨w.heap.size+1,4,none⟩) (Nat.le_succ _) _).setCell (p:=⟨w.heap.size+1,5,none⟩) (Nat.le_succ _) _).setCell (p:=⟨w.heap.size+1,6,none⟩) (Nat.le_succ _) _).setCell (p:=⟨w.heap.size+1,7,none⟩) (Nat.le_succ _) _) (by simp only[Qlo];exact(HF.out.size)) _
def Kxi(v:Value):Qcp:=fun u w A=>(¬Qgp v/\u=.pointer none)\/∃ q,v=Qgf q/\Qgp v/\Qbl q u w A
def Kxi.keeps(v:Value):(Kxi v).Keeps:=fun u w w' A A' hs hk h=>h.imp id (fun⟨q,e,f,h⟩=>⟨q,e,f,Qbl.keeps q u w w' A A' hs hk h⟩)
def Upk.mayF{v u:Value}{w w':World}{A:Nat->Prop}(h:Upk v w.heap.size u w' NoA)(hb:Below w.heap.size w w')(hA:Rcv A w):Kxi v u w' A:=by
 rcases h with h|⟨q,e,f,h⟩
 .exact .inl h
 .exact .inr ⟨q,e,f,(h.new hb lr).2 A hA⟩
def NQ(z:QC):Qcp:=Qir z.re z.im
def NQ.keeps(z:QC):(NQ z).Keeps:=Qir.keeps _ _
def Qpf(v:Value):Prop:=∃ z:QC,v=Kew z.re z.im/\Qar z.re/\Qar z.im
def Qic{n1 n2 n3 n4:Bool}{s1 s2 s3 s4:ByteArray}:Qpf (.agg #[.bool n1,.string s1,.bool n2,.string s2,.bool n3,.string s3,.bool n4,.string s4])↔Qgp (.agg #[.bool n1,.string s1,.bool n2,.string s2])/\Qgp (.agg #[.bool n3,.string s3,.bool n4,.string s4]):=by
 constructor
 .rintro⟨z,e,h1,h2⟩;unfold Kew at e;simp only[Value.agg.injEq,Array.mk.injEq,List.cons.injEq,Value.bool.injEq,Value.string.injEq,and_true] at e;obtain⟨e1,e2,e3,e4,e5,e6,e7,e8⟩:=e;subst e1 e2 e3 e4 e5 e6 e7 e8;exact⟨⟨z.re,rfl,h1⟩,⟨z.im,rfl,h2⟩⟩
 .rintro⟨⟨a,e1,h1⟩,⟨b,e2,h2⟩⟩;obtain⟨rfl,rfl,rfl,rfl⟩:=Qcn e1;obtain⟨rfl,rfl,rfl,rfl⟩:=Qcn e2;exact⟨⟨a,b⟩,rfl,h1,h2⟩
def Uyj(w:World)(a0 a1 a2 a3 a4 a5 a6 a7:Value) :
  ∃ W,Hid (W=(w.alloc (.cells #[a0,a1,a2,a3,a4,a5,a6,a7] 28)).alloc (.cells #[.pointer none,.pointer none] 96)/\Below w.heap.size w W/\W.heap.size=w.heap.size+2/\∀ w1,Below W.heap.size W w1->(w1.cell? ⟨w.heap.size,0,none⟩=some (a0)/\w1.cell? ⟨w.heap.size,1,none⟩=some (a1)/\w1.cell? ⟨w.heap.size,2,none⟩=some (a2)/\w1.cell? ⟨w.heap.size,3,none⟩=some (a3)/\w1.cell? ⟨w.heap.size,4,none⟩=some (a4)/\w1.cell? ⟨w.heap.size,5,none⟩=some (a5)/\w1.cell? ⟨w.heap.size,6,none⟩=some (a6)/\w1.cell? ⟨w.heap.size,7,none⟩=some (a7)) /\
   (w1.cell? ⟨w.heap.size+1,0,none⟩=some (.pointer none)/\w1.cell? ⟨w.heap.size+1,1,none⟩=some (.pointer none)/\w1.frozen? ⟨w.heap.size+1,0,none⟩=false/\w1.frozen? ⟨w.heap.size+1,1,none⟩=false)):=by
 obtain⟨w1,hw1⟩:∃ w1,w1=w.alloc (.cells #[a0,a1,a2,a3,a4,a5,a6,a7] 28):=⟨_,rfl⟩
 have hz1:w1.heap.size=w.heap.size+1:=by rw[hw1];simp
 have hb1:Below w.heap.size w w1:=by rw[hw1];exact br.alloc lr _
 obtain⟨w2,hw2⟩:∃ w2,w2=w1.alloc (.cells #[.pointer none,.pointer none] 96):=⟨_,rfl⟩
 have hz2:w2.heap.size=w.heap.size+2:=by rw[hw2];simp[hz1]
 have hb2:Below w1.heap.size w1 w2:=by rw[hw2];exact br.alloc lr _
 have t2:Below w2.heap.size w2 w2:=Below.refl _ _;have t1:Below w1.heap.size w1 w2:=hb2.trans (t2.mono hb2.size);refine⟨w2,hid ⟨by rw[hw2,hw1],hb1.trans (t1.mono hb1.size),hz2,fun w' h=>?_⟩⟩;have e0:=(t1.trans (h.mono t1.size)).block w.heap.size (by rw[hw1];simp);rw[hw1,heap_alloc_new] at e0;have e1:=(t2.trans (h.mono t2.size)).block w1.heap.size (by rw[hw2];simp);rw[hw2,heap_alloc_new] at e1;rw[hz1] at e1;refine⟨?_,?_⟩<;>simp[World.cell?,World.frozen?,e0,e1]
def OfF(v0:Value):Qcp:=fun u w A=>∃ z,NQ z u w A/\(Qpf v0->v0=Kew z.re z.im)
def OfF.keeps(v0:Value):(OfF v0).Keeps:=fun u w w' A A' hs hk ⟨z,h,e⟩=>⟨z,NQ.keeps z u w w' A A' hs hk h,e⟩
def Uha{w:World}{A:Nat->Prop}{n:Nat}{W:World}(hA:Rcv A w)(hb:Below w.heap.size w W)(hn:W.heap[n]?=some (.cells #[.pointer none,.pointer none] 96 (0,0))):Rcv (Mo A n) W :=
 fun b h=>h.elim (fun h=>(hA.below hb) b h) (fun h=>by subst h;exact⟨_,hn,Qyn _ _ ⟨_,rfl⟩ ⟨_,rfl⟩ _⟩)
def Ues(n1 n2 n3 n4:Bool)(s1 s2 s3 s4:ByteArray)(l1:s1.size<274877906944)(l2:s2.size<274877906944)(l3:s3.size<274877906944)(l4:s4.size<274877906944)(A:Nat->Prop)(w:World)(hA:Rcv A w)(r:Bool)(hr:r=true↔Qpf (.agg #[.bool n1,.string s1,.bool n2,.string s2,.bool n3,.string s3,.bool n4,.string s4])) :
  Calls prog 154 #[.agg #[.bool n1,.string s1,.bool n2,.string s2,.bool n3,.string s3,.bool n4,.string s4]] w fun e w'=>∃ u,e=.returned (.tuple #[u,.bool r])/\Below w.heap.size w w'/\OfF (.agg #[.bool n1,.string s1,.bool n2,.string s2,.bool n3,.string s3,.bool n4,.string s4]) u w' A:=by
 obtain⟨W,HV⟩:=Uyj w (.bool n1) (.string s1) (.bool n2) (.string s2) (.bool n3) (.string s3) (.bool n4) (.string s4);have H1:=hid (fun w=>Qxo n1 n2 s1 s2 l1 l2 w);have H2:=hid (fun w=>Qxo n3 n4 s3 s4 l3 l4 w);have hs0:w.heap.size<W.heap.size:=by have:=HV.out.2.2.1;omega
 obtain⟨⟨e0,e1,e2,e3,e4,e5,e6,e7⟩,_⟩:=HV.out.2.2.2 W br;have hR:Rcv (Mo A (w.heap.size+1)) W:=Uha hA HV.out.2.1 (by
  rw[HV.out.1];have:=heap_alloc_new (w.alloc (.cells #[.bool n1,.string s1,.bool n2,.string s2,.bool n3,.string s3,.bool n4,.string s4] 28)) (.cells #[.pointer none,.pointer none] 96 (0,0));simpa using this)
 have HR:=hid (And.intro hR hr);clear hA hr hR
 go_enter func154,Tryz.ntmps154
 go_wp2_with fail
 rw[<-HV.out.1];refine Qat [(.lit,[]),(.lit,[]),(.val,[]),(.lit,[]),(.lit,[]),(.val,[])]
  (Qfv [(2,Qbd (Mo A (w.heap.size+1)) (Kxi (.agg #[.bool n1,.string s1,.bool n2,.string s2]))),(5,Qbd (Mo A (w.heap.size+1)) (Kxi (.agg #[.bool n3,.string s3,.bool n4,.string s4])))]) (by kernel_rfl) ?_ ?_ (by simp) (by simp) (by kernel_rfl)
 .exact Qbc (by simp only[List.mem_cons,List.not_mem_nil,or_false];rintro p (rfl|rfl)<;>exact Qbd.keeps (Kxi.keeps _))
 .repeat (refine⟨_,fun f w1 h1=>by(have d0:=ct h1 hs0 e0;have d1:=ct h1 hs0 e1;have d2:=ct h1 hs0 e2;have d3:=ct h1 hs0 e3;have d4:=ct h1 hs0 e4;have d5:=ct h1 hs0 e5;have d6:=ct h1 hs0 e6;have d7:=ct h1 hs0 e7;go_simp;rfl),?_⟩)
  simp only[Act.put,nrA,nrB,nrC,Nat.reduceAdd];refine⟨fun f w1 A1 k1 hA hN hd K hK=>by
   go_simp
   refine(H1.out w1).mono ?_;rintro e w' ⟨u,rfl,hm,hb⟩;exact hK _ _ hb (hm.mayF hb (Qfj (HR.out.1.below (br.drew.trans k1)) hA)),?_⟩
  repeat (refine⟨_,fun f w1 h1=>by(have d0:=ct h1 hs0 e0;have d1:=ct h1 hs0 e1;have d2:=ct h1 hs0 e2;have d3:=ct h1 hs0 e3;have d4:=ct h1 hs0 e4;have d5:=ct h1 hs0 e5;have d6:=ct h1 hs0 e6;have d7:=ct h1 hs0 e7;go_simp;rfl),?_⟩)
  simp only[Act.put,nrA,nrB,nrC,Nat.reduceAdd];refine⟨fun f w1 A1 k1 hA hN hd K hK=>by
   go_simp
   refine(H2.out w1).mono ?_;rintro e w' ⟨u,rfl,hm,hb⟩;exact hK _ _ hb (hm.mayF hb (Qfj (HR.out.1.below (br.drew.trans k1)) hA)),?_⟩
  intro f w1 k1 hF;have i2:Kxi (.agg #[.bool n1,.string s1,.bool n2,.string s2]) (f 2) w1 (Mo A (w.heap.size+1)):=Qbd.done (Kxi.keeps _) hF.1.2;have i5:Kxi (.agg #[.bool n3,.string s3,.bool n4,.string s4]) (f 5) w1 (Mo A (w.heap.size+1)):=Qbd.done (Kxi.keeps _) hF.2;clear hF;simp only[Act.put,nrA,nrB,nrC];generalize f 2=x2 at *
  generalize f 5=x5 at *
  have hb1:Below W.heap.size W w1:=br.drew.trans k1;obtain⟨_,c0,c1,f0,f1⟩:=HV.out.2.2.2 w1 hb1;have HB:=hid (HV.out.2.1.trans (hb1.mono HV.out.2.1.size));clear e0 e1 e2 e3 e4 e5 e6 e7 k1 hb1 H1 H2;rcases i2 with⟨hn1,rfl⟩|⟨q1,eq1,ok1,r1⟩
  .have hrf:r=false:=by
    cases h:r
    .rfl
    .exact absurd (Qic.1 (HR.out.2.1 h)).1 hn1
   subst hrf;have HG:=hid (show ¬Qpf (.agg #[.bool n1,.string s1,.bool n2,.string s2,.bool n3,.string s3,.bool n4,.string s4]) from fun h=>hn1 (Qic.1 h).1);have j5:∃ b,Qfe b x5 w1 (Mo A (w.heap.size+1)):=by
    rcases i5 with⟨_,rfl⟩|⟨q2,_,_,r2⟩
    .exact⟨0,.inl ⟨rfl,rfl⟩⟩
    .exact⟨q2,.inr r2⟩
   obtain⟨b,j5⟩:=j5;obtain⟨p5,rfl⟩:=j5.shape;have HJ:=hid j5;clear i5 j5 hn1
   go_wp2_with fail
   refine bodyPost_ret (v:=.tuple #[.agg #[.pointer none,.pointer p5],.bool false]) (by simp[results,Tryz.results154,go_sem,c0,c1]) rfl ?_;obtain⟨u,hu,hb,hz⟩:=Qru HB.out (.inl ⟨rfl,rfl⟩:Qfe 0 (.pointer none) w1 (Mo A (w.heap.size+1))) HJ.out (by omega);cases hu;exact⟨_,rfl,hb,⟨⟨0,b⟩,hz,fun h=>absurd h HG.out⟩⟩
  .obtain⟨m1,rfl⟩:=r1.shape;rcases i5 with⟨hn2,rfl⟩|⟨q2,eq2,ok2,r2⟩
   .have hrf:r=false:=by
     cases h:r
     .rfl
     .exact absurd (Qic.1 (HR.out.2.1 h)).2 hn2
    subst hrf;have HG:=hid (show ¬Qpf (.agg #[.bool n1,.string s1,.bool n2,.string s2,.bool n3,.string s3,.bool n4,.string s4]) from fun h=>hn2 (Qic.1 h).2);have HJ:=hid r1;clear r1 hn2 eq1 ok1
    go_wp2_with fail
    refine bodyPost_ret (v:=.tuple #[.agg #[.pointer (some ⟨m1,0,none⟩),.pointer none],.bool false]) (by simp[results,Tryz.results154,go_sem,c0,c1]) rfl ?_;obtain⟨u,hu,hb,hz⟩:=Qru HB.out (.inr HJ.out) (.inl ⟨rfl,rfl⟩:Qfe 0 (.pointer none) w1 (Mo A (w.heap.size+1))) (by omega);cases hu;exact⟨_,rfl,hb,⟨⟨q1,0⟩,hz,fun h=>absurd h HG.out⟩⟩
   .obtain⟨m2,rfl⟩:=r2.shape;have hrt:r=true:=HR.out.2.2 (Qic.2 ⟨ok1,ok2⟩);subst hrt;have HJ:=hid (And.intro r1 r2);have HG:=hid (show .agg #[.bool n1,.string s1,.bool n2,.string s2,.bool n3,.string s3,.bool n4,.string s4]=Kew q1 q2 by
     obtain⟨rfl,rfl,rfl,rfl⟩:=Qcn eq1;obtain⟨rfl,rfl,rfl,rfl⟩:=Qcn eq2;rfl)
    clear r1 r2 eq1 eq2 ok1 ok2
    go_wp2_with fail
    refine bodyPost_ret (v:=.tuple #[.agg #[.pointer (some ⟨m1,0,none⟩),.pointer (some ⟨m2,0,none⟩)],.bool true]) (by simp[results,Tryz.results154,go_sem,c0,c1]) rfl ?_;obtain⟨u,hu,hb,hz⟩:=Qru HB.out (.inr HJ.out.1) (.inr HJ.out.2) (by omega);cases hu;exact⟨_,rfl,hb,⟨⟨q1,q2⟩,hz,fun _=>HG.out⟩⟩
def Qff(x y:Rat):Int:=if x<y then -1 else if x=y then 0 else 1
def Kip(x y:Rat):Qhv (x.num*(y.den:Int)) (y.num*(x.den:Int))=Qff x y:=by
 unfold Qhv Qff;have h1:x<y↔x.num*(y.den:Int)<y.num*(x.den:Int):=Rat.lt_iff x y;have h2:y<x↔y.num*(x.den:Int)<x.num*(y.den:Int):=Rat.lt_iff y x
 by_cases hxy:x<y
 .rw[if_pos (h1.1 hxy),if_pos hxy]
 .rw[if_neg (fun h=>hxy (h1.2 h)),if_neg hxy]
  by_cases hyx:y<x
  .rw[if_pos (h2.1 hyx),if_neg (fun e=>by subst e;exact hxy hyx)]
  .rw[if_neg (fun h=>hyx (h2.2 h)),if_pos (Rat.le_antisymm (Rat.not_lt.1 hyx) (Rat.not_lt.1 hxy))]
def Kid(x y:Rat)(vx vy:Value)(A:Nat->Prop)(w:World)(hx:Qbl x vx w A)(hy:Qbl y vy w A)(k l:Nat)(hlx:RL x k)(hly:RL y l)(hkl:k+l<137438953472) :
  Calls prog 163 #[vx,vy] w fun e w'=>e=.returned (.int .i64 (Qff x y))/\Below w.heap.size w w':=by
 have hx:=hx.noA;have hy:=hy.noA;obtain⟨b,rfl⟩:=hx.shape;obtain⟨b2,rfl⟩:=hy.shape;obtain⟨_,eb,hxn,_⟩:=id hx;cases eb;obtain⟨_,eb,hyn,_⟩:=id hy;cases eb;have l1:(Qad (x.num*(y.den:Int)).natAbs).length<=k+l:=by rw[Int.natAbs_mul];exact Qgt hlx.1 (by simpa using hly.2)
 have l2:(Qad (y.num*(x.den:Int)).natAbs).length<=k+l:=by rw[Int.natAbs_mul,Nat.add_comm];exact Qgt hly.1 (by simpa using hlx.2)
 obtain⟨cz,hcz⟩:∃ cz,cz=Qff x y:=⟨_,rfl⟩
 rw[<-hcz];have HZ:=hid hcz;clear hcz
 go_enter func163,Tryz.ntmps163
 go_wp2_with fail
 refine Qat [(.new zI,[]),(.lit,[]),(.lit,[]),(.lit,[]),(.lit,[]),(.val,[]),(.on 0 zI,[5]),(.new zI,[]),(.lit,[]),(.lit,[]),(.lit,[]),(.lit,[]),(.val,[]),(.on 7 zI,[12]),(.val,[6,13])]
  (Qfv [(5,Qce y.den),(6,Qce (x.num*(y.den:Int))),(12,Qce x.den),(13,Qce (y.num*(x.den:Int))),(14,fun v _ _=>v=.int .i64 cz)]) (by kernel_rfl) ?_ ?_ (by simp[Qbh]) (by simp) (by kernel_rfl)
 .exact Qbc (by simp[Qce.keeps,Qjn])
 .refine⟨fun f w1=>by go_simp,?_⟩;refine⟨_,fun f w1 h1=>by go_simp;rfl,?_⟩;refine⟨_,fun f w1 h1=>by go_simp;rfl,?_⟩;refine⟨_,fun f w1 h1=>by go_simp;rfl,?_⟩;refine⟨_,fun f w1 h1=>by go_simp;rfl,?_⟩;simp only[Act.put,nrA,nrB,nrC,Nat.reduceAdd];refine⟨fun f w1 A1 h1 hA hN hd K hK=>by
   go_simp
   refine(Qfu y _ A1 w1 (Qdp (Qbl.keeps _) hy h1 hN) hA).mono ?_;rintro e w' ⟨v,rfl,hb,hi⟩;exact hK _ _ hb hi,?_⟩
  simp only[Act.put,nrA,nrB,nrC,Nat.reduceAdd];refine⟨fun f w1 A1 m1 h1 hA hN hAm hm0 e hz hd K hK=>by
   simp only[e] at hK ⊢;have i1:Qce y.den (f 5) w1 A1:=hd 5 (by simp)
   go_simp
   refine(Qho m1 0 _ _ x.num y.den _ _ A1 w1 hz (by decide) Qbh (Qdp (Qce.keeps _) hxn h1 hN) i1 (by have:=hlx.1;omega) (by have:=hly.2;simp;omega)).mono ?_;rintro e w' ⟨rfl,hp⟩;exact hK _ w' hp.1 (hp.intP (by decide) hA),?_⟩
  refine⟨fun f w1=>by go_simp,?_⟩;refine⟨_,fun f w1 h1=>by go_simp;rfl,?_⟩;refine⟨_,fun f w1 h1=>by go_simp;rfl,?_⟩;refine⟨_,fun f w1 h1=>by go_simp;rfl,?_⟩;refine⟨_,fun f w1 h1=>by go_simp;rfl,?_⟩;simp only[Act.put,nrA,nrB,nrC,Nat.reduceAdd];refine⟨fun f w1 A1 h1 hA hN hd K hK=>by
   go_simp
   refine(Qfu x _ A1 w1 (Qdp (Qbl.keeps _) hx h1 hN) hA).mono ?_;rintro e w' ⟨v,rfl,hb,hi⟩;exact hK _ _ hb hi,?_⟩
  simp only[Act.put,nrA,nrB,nrC,Nat.reduceAdd];refine⟨fun f w1 A1 m1 h1 hA hN hAm hm0 e hz hd K hK=>by
   simp only[e] at hK ⊢;have i1:Qce x.den (f 12) w1 A1:=hd 12 (by simp)
   go_simp
   refine(Qho m1 0 _ _ y.num x.den _ _ A1 w1 hz (by decide) Qbh (Qdp (Qce.keeps _) hyn h1 hN) i1 (by have:=hly.1;omega) (by have:=hlx.2;simp;omega)).mono ?_;rintro e w' ⟨rfl,hp⟩;exact hK _ w' hp.1 (hp.intP (by decide) hA),?_⟩
  simp only[Act.put,nrA,nrB,nrC,Nat.reduceAdd];refine⟨fun f w1 A1 h1 hA hN hd K hK=>by
   have i1:Qce (x.num*(y.den:Int)) (f 6) w1 A1:=hd 6 (by simp);have i2:Qce (y.num*(x.den:Int)) (f 13) w1 A1:=hd 13 (by simp)
   go_simp
   refine(Qxn _ _ _ _ A1 w1 i1 i2 (by omega) (by omega)).mono ?_;rintro e w' ⟨rfl,hb⟩;rw[Kip,<-HZ.out];exact hK _ _ hb rfl,?_⟩
  intro f w1 h1 hF;have hv:f 14=.int .i64 cz:=hF.2;clear hF;simp only[Act.put,nrA,nrB,nrC];rw[hv];generalize f 5=v5;generalize f 6=v6;generalize f 12=v12;generalize f 13=v13;clear hv hx hy hxn hyn
  go_wp2
  go_ret
  exact⟨rfl,br.drew.trans h1⟩
def Qcs{x y:QC}(h1:x.re=y.re)(h2:x.im=y.im):x=y:=by cases x;cases y;simp at h1 h2;rw[h1,h2]
def qmr(x y:QC):(x*y).re=x.re*y.re-x.im*y.im:=rfl
def qmi(x y:QC):(x*y).im=x.re*y.im+x.im*y.re:=rfl
def qar(x y:QC):(x+y).re=x.re+y.re:=rfl
def qai(x y:QC):(x+y).im=x.im+y.im:=rfl
def qsr(x y:QC):(x-y).re=x.re-y.re:=rfl
def qsi(x y:QC):(x-y).im=x.im-y.im:=rfl
def Uwb(cs:List Int)(a b n:BitVec 3):BitVec 3×BitVec 3×BitVec 3:=cs.foldl (fun s c=>(s.1*a-s.2.1*b+BitVec.ofInt 3 c*s.2.2,s.1*b+s.2.1*a,s.2.2*n)) (0,0,1)
def Uci(cs:List Int):Prop:=∀ a b n:BitVec 3,(Uwb cs a b n).1=0->(Uwb cs a b n).2.1=0->a.toNat%2=0/\b.toNat%2=0/\n.toNat%2=0
instance (cs:List Int):Decidable (Uci cs):=by unfold Uci;infer_instance
def Kta(q:Rat):q*((q.den:Int):Rat)=q.num:=by
 have h:=Rat.num_divInt_den q;rw[Rat.divInt_eq_div] at h;have hd:((q.den:Int):Rat)≠0:=by exact_mod_cast q.den_nz
 have key:∀(x n d:Rat),n/d=x→d≠0→x*d=n:=by intros;grind
 exact key _ _ _ h hd
def Ugx{x y:QC}:x*y=⟨0,0⟩↔x=⟨0,0⟩\/y=⟨0,0⟩:=by
 constructor
 .intro h;have h1:x.re*y.re-x.im*y.im=0:=congrArg QC.re h;have h2:x.re*y.im+x.im*y.re=0:=congrArg QC.im h;have h3:(x.re*x.re+x.im*x.im)*(y.re*y.re+y.im*y.im)=0:=by grind
  rcases Rat.mul_eq_zero.1 h3 with h|h
  .have:=Qjs x.re;have:=Qjs x.im;have e1:x.re*x.re=0:=by grind
   have e2:x.im*x.im=0:=by grind
   exact .inl (Qcs (by rcases Rat.mul_eq_zero.1 e1 with h|h<;>exact h) (by rcases Rat.mul_eq_zero.1 e2 with h|h<;>exact h))
  .have:=Qjs y.re;have:=Qjs y.im;have e1:y.re*y.re=0:=by grind
   have e2:y.im*y.im=0:=by grind
   exact .inr (Qcs (by rcases Rat.mul_eq_zero.1 e1 with h|h<;>exact h) (by rcases Rat.mul_eq_zero.1 e2 with h|h<;>exact h))
 .rintro(rfl|rfl)<;>apply Qcs<;>simp only[qmr,qmi]<;>grind
def fg(s:QC):Nat->QC×QC
 | 0=>(⟨1,0⟩,⟨0,0⟩)
 | k+1=>(s*((fg s k).1-(fg s k).2)-(fg s k).1,(fg s k).1-(fg s k).2)
def mp(a b c d:QC):Nat->QC×QC×QC×QC
 | 0=>(a,b,c,d)
 | n+1=>let p:=mp a b c d n;(a*p.1+b*p.2.2.1,a*p.2.1+b*p.2.2.2,c*p.1+d*p.2.2.1,c*p.2.1+d*p.2.2.2)
def Qtl{x y:QC}:x-y=⟨0,0⟩↔x=y:=by
 constructor
 .intro h;have h1:x.re-y.re=0:=congrArg QC.re h;have h2:x.im-y.im=0:=congrArg QC.im h;apply Qcs<;>grind
 .rintro rfl;apply Qcs<;>simp only[qsr,qsi]<;>grind
def cj(z:QC):QC:=⟨z.re,-z.im⟩
def mtn(a b c d:QC):Nat->QC×QC×QC×QC
 | 0=>(a,b,c,d)
 | n+1=>let p:=mtn a b c d n;(a*cj p.1+b*cj p.2.2.1,a*cj p.2.1+b*cj p.2.2.2,c*cj p.1+d*cj p.2.2.1,c*cj p.2.1+d*cj p.2.2.2)
def Qpv(x:Int)(N:Nat):(x*2^N).natAbs=x.natAbs*2^N:=by
 rw[Int.natAbs_mul];congr 1
def Ugk(x:Int)(N:Nat):decide (x*2^N<0)=(decide (x<0)&&decide (wv (Qad (x*2^N).natAbs)≠0)):=by
 rw[Qaq,Qpv];have hp:(0:Int)<2^N:=Int.pow_pos (by decide);have hn:0<2^N:=Nat.two_pow_pos N
 by_cases h:x<0
 .have h1:x*2^N<0:=Int.mul_neg_of_neg_of_pos h hp;have h2:x.natAbs*2^N≠0:=Nat.ne_of_gt (Nat.mul_pos (by omega) hn);simp[h,h1];omega
 .have h1:¬x*2^N<0:=Int.not_lt.2 (Int.mul_nonneg (by omega) (Int.le_of_lt hp));simp[h,h1]
def Uev(m o:Nat)(C:Array Value)(T:TypeId)(x:Int)(vx:Value)(N:Nat)(A:Nat->Prop)(w:World)(hm:w.heap[m]?=some (.cells C T (0,0)))(ho:o+1<C.size)(hC:NoW (.cells C T (0,0)))(hx:Qce x vx w A)(hn:(Qad x.natAbs).length<274877906944)(hN:N<1099511627776)(hl:(Qad (x.natAbs*2^N)).length<1099511627776) :
  Calls prog 232 #[.pointer (some ⟨m,o,none⟩),vx,.int .u64 N] w fun e w'=>e=.returned (.pointer (some ⟨m,o,none⟩))/\Put m o C T (x*2^N) w w':=by
 obtain⟨b,bo,sl,rfl,hb,_,c0,c1,hsl⟩:=hx;have hw:=hsl.wsl;have hmlt:m<w.heap.size:=(Array.getElem?_eq_some_iff.1 hm).1;have eN:IntKind.i64.wrap (N:Int)=(N:Int):=by rw[IntKind.wrap_i64];omega
 have hleft:=fun(w1:World) (h1:Below w.heap.size w w1)=>Qyj (Qad x.natAbs) N sl w1 (Qas _) (hw.below h1) (by omega) hN
 rw[Qaq] at hleft;have HL:=hid hleft;have HN:=hid (And.intro hl eN);clear hleft hl eN
 go_enter func232,Tryz.ntmps232
 go_wp2_with fail
 refine Qat [(.lit,[]),(.lit,[]),(.lit,[]),(.lit,[]),(.lit,[]),(.lit,[]),(.lit,[]),(.lit,[]),(.lit,[]),(.lit,[]),(.lit,[]),(.val,[])] (Qfv [(11,fun v w A=>Qkv A w v (Qad (x.natAbs*2^N)))]) (by kernel_rfl) ?_ ?_ (by simp) (by simp) (by kernel_rfl)
 .exact Qbc (by simp[Qps])
 .refine⟨_,fun f w1 h1=>by go_simp;rfl,?_⟩;refine⟨_,fun f w1 h1=>by go_simp;rfl,?_⟩;refine⟨_,fun f w1 h1=>by go_simp;rfl,?_⟩;refine⟨_,fun f w1 h1=>by go_simp;rfl,?_⟩;refine⟨_,fun f w1 h1=>by have:=ct h1 hb c0;go_simp;rfl,?_⟩;refine⟨_,fun f w1 h1=>by go_simp;rfl,?_⟩;refine⟨_,fun f w1 h1=>by go_simp;rfl,?_⟩;refine⟨_,fun f w1 h1=>by go_simp;rfl,?_⟩;refine⟨_,fun f w1 h1=>by have:=ct h1 hb c1;go_simp;rfl,?_⟩;refine⟨_,fun f w1 h1=>by go_simp;rfl,?_⟩;refine⟨.int .i64 N,fun f w1 h1=>by have:=HN.out.2;go_simp,?_⟩;simp only[Act.put,nrA,nrB,nrC,Nat.reduceAdd];refine⟨fun f w1 A1 h1 hA hN' hd K hK=>?_,?_⟩
  .go_simp
   refine(HL.out w1 (br.drew.trans h1)).mono ?_;rintro e w' ⟨v',rfl,hv,hb'⟩;exact hK v' w' hb' (hv.avoids (hA.below hb'))
  .intro f w1 h1 hF;have hv:Qkv NoA w1 (f 11) (Qad (x.natAbs*2^N)):=hF.2;have hv:=hv.wsl;clear hF;simp only[Act.put,nrA,nrB,nrC];generalize f 11=v9 at *
   have h1':Below w.heap.size w w1:=br.drew.trans h1;have his:=Qjm m o C T (decide (x<0)) (Qad (x.natAbs*2^N)) v9 w1 (x*2^N) ((h1.block m hmlt).trans hm) ho hC (Qas _) hv HN.out.1 (by rw[Qaq];exact Qpv x N) (by rw[<-Qpv];exact Ugk x N);have HI:=hid his;clear his hm hC c0 c1
   go_wp2_with (go_at_call 229;refine HI.out.mono ?_;rintro e w' ⟨rfl,hp⟩)
   go_ret
   exact⟨rfl,hp.below h1'⟩
def Knl(n N:Nat):decide (((n/2^N:Nat):Int)<0)=(false&&decide (wv (Qad (n/2^N))≠0)):=by
 have:=Int.natCast_nonneg (n/2^N);simp only[Bool.false_and,decide_eq_false_iff_not];omega
def Uex(m o:Nat)(C:Array Value)(T:TypeId)(n:Nat)(vx:Value)(N:Nat)(A:Nat->Prop)(w:World)(hm:w.heap[m]?=some (.cells C T (0,0)))(ho:o+1<C.size)(hC:NoW (.cells C T (0,0)))(hx:Qce (n:Int) vx w A)(hn:(Qad n).length<274877906944)(hN:N<1099511627776) :
  Calls prog 233 #[.pointer (some ⟨m,o,none⟩),vx,.int .u64 N] w fun e w'=>e=.returned (.pointer (some ⟨m,o,none⟩))/\Put m o C T ((n/2^N:Nat):Int) w w':=by
 obtain⟨b,bo,sl,rfl,hb,_,c0,c1,hsl⟩:=hx;rw[show((n:Int)).natAbs=n from rfl] at hsl;rw[show decide ((n:Int)<0)=false by simp] at c0;have hw:=hsl.wsl;have hmlt:m<w.heap.size:=(Array.getElem?_eq_some_iff.1 hm).1;have eN:IntKind.i64.wrap (N:Int)=(N:Int):=by rw[IntKind.wrap_i64];omega
 have hright:=Kdk (Qad n) N sl w (Qas _) hw (by omega) hN;rw[Qaq] at hright;have hwl:(Qad (n/2^N)).length<1099511627776:=by
  have h1:=Qcc n;have h2:n/2^N<4294967296^(Qad n).length:=Nat.lt_of_le_of_lt (Nat.div_le_self _ _) h1;have:=Qak h2;omega
 have his:=fun(w1:World) (h1:Below w.heap.size w w1) v (hv:WSl w1 v (Qad (n/2^N)))=>Qjm m o C T false (Qad (n/2^N)) v w1 ((n/2^N:Nat):Int) ((h1.block m hmlt).trans hm) ho hC (Qas _) hv hwl (by rw[Qaq];rfl) (Knl n N)
 have hcell:=fun(w1:World) (h1:Below w.heap.size w w1)=>(h1.cell (p:=⟨b,bo,none⟩) hb).trans c0
 have HR:=hid hright;have HI:=hid his;have HC:=hid hcell;clear hright his hm hC hw hsl hcell
 go_enter func233,Tryz.ntmps233
 go_wp2_with (go_at_call 255;refine HR.out.mono ?_;rintro e w1 ⟨v7,rfl,hv,hb1⟩;have d0:=HC.out w1 hb1;have d1:∀ k,(w1.drewN k).cell? ⟨b,bo,none⟩=some (.bool false):=fun _=>d0;have HV:=hid hv;clear hv)
 have hbn:∀ k,Below w.heap.size w (w1.drewN k):=fun k=>hb1.trans ⟨rfl,rfl,rfl,Nat.le_refl _,fun _ _=>rfl⟩
 have hX:=fun k=>HI.out (w1.drewN k) (hbn k) v7 HV.out
 have HX:=hid hX;clear hX
 go_quiet (fail)
 go_wp2_with (go_at_call 229;refine(HX.out _).mono ?_;rintro e w' ⟨rfl,hp⟩)
 go_ret
 exact⟨rfl,hp.below (hbn _)⟩
