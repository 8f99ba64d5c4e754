/- Laws. -/
import Derived.Test.YtmimficdpfmfgaaGreatWao
set_option linter.all false
set_option maxHeartbeats 4000000
set_option maxRecDepth 100000
open Go.Lib (hid)
namespace Go.Proofs.YtmimficdpfmfgaaGreat
open Go.RowKit Tr Proofs.Tryz
def Qxg(w:World)(u1 u2 u3 u4:Value)(A:Nat->Prop)(hA:Rcv A w) :
  ∃ W,Hid (W=((w.alloc (.cells #[u1,u2] 116)).alloc (.cells #[u3,u4] 116)).alloc (.cells #[.pointer none,.pointer none] 116)/\Below w.heap.size w W/\Rcv (Mo A (w.heap.size+2)) W/\∀ w1,Below W.heap.size W w1->w1.cell? ⟨w.heap.size+2,0,none⟩=some (.pointer none)/\w1.cell? ⟨w.heap.size+2,1,none⟩=some (.pointer none)/\w1.frozen? ⟨w.heap.size+2,0,none⟩=false/\w1.frozen? ⟨w.heap.size+2,1,none⟩=false)/\w.heap.size<W.heap.size/\w.heap.size+1<W.heap.size/\W.cell? ⟨w.heap.size,0,none⟩=some u1/\W.cell? ⟨w.heap.size,1,none⟩=some u2/\W.cell? ⟨w.heap.size+1,0,none⟩=some u3/\W.cell? ⟨w.heap.size+1,1,none⟩=some u4:=by
 obtain⟨w1,hw1⟩:∃ w1,w1=w.alloc (.cells #[u1,u2] 116):=⟨_,rfl⟩
 have hz1:w1.heap.size=w.heap.size+1:=by rw[hw1];simp
 obtain⟨w2,hw2⟩:∃ w2,w2=w1.alloc (.cells #[u3,u4] 116):=⟨_,rfl⟩
 have hz2:w2.heap.size=w.heap.size+2:=by rw[hw2];simp[hz1]
 have hb01:Below w.heap.size w w1:=by rw[hw1];exact br.alloc lr _
 have hb12:Below w1.heap.size w1 w2:=by rw[hw2];exact br.alloc lr _
 have hb23:Below w2.heap.size w2 (w2.alloc (.cells #[.pointer none,.pointer none] 116)):=br.alloc lr _;have hb13:=hb12.trans (hb23.mono hb12.size);have hb:Below w.heap.size w (w2.alloc (.cells #[.pointer none,.pointer none] 116)):=hb01.trans (hb13.mono hb01.size);obtain⟨e0,e1,_⟩:=Qij w u1 u2 116 (by rw[<-hw1];exact hb13);obtain⟨e2,e3,_⟩:=Qij w1 u3 u4 116 (by rw[<-hw2];exact hb23);have hn:=heap_alloc_new w2 (.cells #[.pointer none,.pointer none] 116 (0,0));rw[hz2] at hn;rw[hz1] at e2 e3;refine⟨w2.alloc (.cells #[.pointer none,.pointer none] 116),hid ⟨by rw[hw2,hw1],hb,fun b h=>h.elim (fun h=>(hA.below hb) b h) (fun h=>by subst h;exact⟨_,hn,Qxz _ _ ⟨_,rfl⟩ ⟨_,rfl⟩ _⟩),fun w1 h=>?_⟩,by simp;omega,by simp;omega,e0,e1,e2,e3⟩;have:=Qij w2 (.pointer none) (.pointer none) 116 h;rw[hz2] at this;exact this
def Kol(a b:Rat)(v:Value)(A:Nat->Prop)(w:World)(hv:Qhr a b v w A)(hA:Rcv A w)(k:Nat)(hla:RL a k)(hlb:RL b k)(hkl:k+k+(k+k)<137438953472) :
  Calls prog 189 #[v] w fun e w'=>∃ u,e=.returned u/\Below w.heap.size w w'/\Qbk (a*a+b*b) u w' A:=by
 obtain⟨u1,u2,rfl,h1,h2⟩:=hv;obtain⟨W,hW⟩:∃ W,W=w.alloc (.cells #[u1,u2] 116):=⟨_,rfl⟩
 obtain⟨e0,e1,_⟩:=Qij w u1 u2 116 br;have hb:Below w.heap.size w W:=by rw[hW];exact br.alloc lr _
 have hs2:w.heap.size<W.heap.size:=by rw[hW];simp
 rw[<-hW] at e0 e1;have HV:=hid (And.intro hW (And.intro hb (hA.below hb)));have h1:=Qbc.start (Qeq.keeps a) (h1.below hb);have h2:=Qbc.start (Qeq.keeps b) (h2.below hb);clear hA hW hb
 go_enter func189,Tryz.ntmps189
 go_wp2_with fail
 rw[<-HV.out.1];refine Qav [(.new zR,[]),(.lit,[]),(.lit,[]),(.lit,[]),(.lit,[]),(.val,[]),(.lit,[]),(.lit,[]),(.lit,[]),(.lit,[]),(.val,[]),(.on 0 zR,[5,10])]
  (Qfj [(5,Qbc A (Qbk (a*a))),(10,Qbc A (Qbk (b*b))),(11,Qbc A (Qbk (a*a+b*b)))]) kR ?_ ?_ (by simp[Qdg]) (by simp) kR
 .exact Qbh (by simp only[List.mem_cons,List.not_mem_nil,or_false];rintro p (rfl|rfl|rfl)<;>exact Qbc.keeps (Qbk.keeps _))
 .refine⟨fun f w1=>by go_simp,?_⟩;refine⟨_,fun f w1 h1=>by(have d0:=ct h1 hs2 e0;have d1:=ct h1 hs2 e1;go_simp;rfl),?_⟩;refine⟨_,fun f w1 h1=>by(have d0:=ct h1 hs2 e0;have d1:=ct h1 hs2 e1;go_simp;rfl),?_⟩;refine⟨_,fun f w1 h1=>by(have d0:=ct h1 hs2 e0;have d1:=ct h1 hs2 e1;go_simp;rfl),?_⟩;refine⟨_,fun f w1 h1=>by(have d0:=ct h1 hs2 e0;have d1:=ct h1 hs2 e1;go_simp;rfl),?_⟩;simp only[Act.put,nrA,nrB,nrC,Nat.reduceAdd];refine⟨fun f w1 A1 k1 hA hN hd K hK=>by
   go_simp
   refine(Qgt a a u1 u1 (Un A A1) w1 (Qdk (Qbc.keeps (Qeq.keeps _)) h1 k1 hN) (Qdk (Qbc.keeps (Qeq.keeps _)) h1 k1 hN) (Qes (HV.out.2.2.below (br.drew.trans k1)) hA) k k hla hla (by omega)).mono ?_;rintro e w' ⟨v,rfl,hb,hr⟩;exact hK _ _ hb hr,?_⟩
  refine⟨_,fun f w1 h1=>by(have d0:=ct h1 hs2 e0;have d1:=ct h1 hs2 e1;go_simp;rfl),?_⟩;refine⟨_,fun f w1 h1=>by(have d0:=ct h1 hs2 e0;have d1:=ct h1 hs2 e1;go_simp;rfl),?_⟩;refine⟨_,fun f w1 h1=>by(have d0:=ct h1 hs2 e0;have d1:=ct h1 hs2 e1;go_simp;rfl),?_⟩;refine⟨_,fun f w1 h1=>by(have d0:=ct h1 hs2 e0;have d1:=ct h1 hs2 e1;go_simp;rfl),?_⟩;simp only[Act.put,nrA,nrB,nrC,Nat.reduceAdd];refine⟨fun f w1 A1 k1 hA hN hd K hK=>by
   go_simp
   refine(Qgt b b u2 u2 (Un A A1) w1 (Qdk (Qbc.keeps (Qeq.keeps _)) h2 k1 hN) (Qdk (Qbc.keeps (Qeq.keeps _)) h2 k1 hN) (Qes (HV.out.2.2.below (br.drew.trans k1)) hA) k k hlb hlb (by omega)).mono ?_;rintro e w' ⟨v,rfl,hb,hr⟩;exact hK _ _ hb hr,?_⟩
  simp only[Act.put,nrA,nrB,nrC,Nat.reduceAdd];refine⟨fun f w1 A1 m1 k1 hA hN hAm hm0 e hz hd K hK=>by
   simp only[e] at hK ⊢;have i1:Qbk (a*a) (f 5) w1 (Un A A1):=hd 5 (by simp);have i2:Qbk (b*b) (f 10) w1 (Un A A1):=hd 10 (by simp)
   go_simp
   refine(Qkq m1 _ _ _ _ _ _ w1 hz (by decide) Qdg i1 i2 (k+k) (k+k) (Qad hla hla) (Qad hlb hlb) (by omega)).mono ?_;rintro e w' ⟨rfl,hp⟩;exact hK _ w' hp.1 (hp.ratU (HV.out.2.2.below (br.drew.trans k1)) hA hm0 (fun b hb=>HV.out.2.2.lt hb)),?_⟩
  intro f w1 k1 hF;have i0:Qbk (a*a) (f 5) w1 (A):=Qbc.done (Qbk.keeps _) hF.1.1.2;have i1:Qbk (b*b) (f 10) w1 (A):=Qbc.done (Qbk.keeps _) hF.1.2;have i2:Qbk (a*a+b*b) (f 11) w1 (A):=Qbc.done (Qbk.keeps _) hF.2;clear hF;simp only[Act.put,nrA,nrB,nrC];generalize f 5=v0 at *
  generalize f 10=v1 at *
  generalize f 11=v2 at *
  have hb1:Below W.heap.size W w1:=br.drew.trans k1;have hbw:=HV.out.2.1.trans (hb1.mono HV.out.2.1.size);have HE:=hid (And.intro i2 hbw);clear e0 e1 h1 h2 i0 i1 i2 hbw hb1 k1
  go_wp2_with fail
  go_ret
  exact⟨v2,rfl,HE.out.2,HE.out.1⟩
def Kxm(a b c d:Rat)(v v':Value)(A:Nat->Prop)(w:World)(hv:Qhr a b v w A)(hv':Qhr c d v' w A)(hA:Rcv A w)(k l:Nat)(hla:RL a k)(hlb:RL b k)(hlc:RL c l)(hld:RL d l)(hkl:k+l+(k+l)<137438953472) :
  Calls prog 128 #[v,v'] w fun e w'=>∃ u,e=.returned u/\Below w.heap.size w w'/\Qhr (a-c) (b-d) u w' A:=by
 obtain⟨u1,u2,rfl,h1,h2⟩:=hv;obtain⟨u3,u4,rfl,h3,h4⟩:=hv';obtain⟨W,HV,hs1,hs2,e0,e1,e2,e3⟩:=Qxg w u1 u2 u3 u4 A hA;have h1:=Qdl (Qeq.keeps a) (n:=w.heap.size+2) HV.out.2.1 (by omega) h1;have h2:=Qdl (Qeq.keeps b) (n:=w.heap.size+2) HV.out.2.1 (by omega) h2;have h3:=Qdl (Qeq.keeps c) (n:=w.heap.size+2) HV.out.2.1 (by omega) h3;have h4:=Qdl (Qeq.keeps d) (n:=w.heap.size+2) HV.out.2.1 (by omega) h4;clear hA
 go_enter func128,Tryz.ntmps128
 go_wp2_with fail
 rw[<-HV.out.1];refine Qav [(.new zR,[]),(.lit,[]),(.lit,[]),(.val,[]),(.lit,[]),(.lit,[]),(.val,[]),(.on 0 zR,[3,6]),(.new zR,[]),(.lit,[]),(.lit,[]),(.val,[]),(.lit,[]),(.lit,[]),(.val,[]),(.on 8 zR,[11,14])]
  (Qfj [(3,Qbc (Mo A (w.heap.size+2)) (Qbk (a))),(6,Qbc (Mo A (w.heap.size+2)) (Qbk (c))),(7,Qbc (Mo A (w.heap.size+2)) (Qbk (a-c))),(11,Qbc (Mo A (w.heap.size+2)) (Qbk (b))),(14,Qbc (Mo A (w.heap.size+2)) (Qbk (d))),(15,Qbc (Mo A (w.heap.size+2)) (Qbk (b-d)))]) kR ?_ ?_ (by simp[Qdg]) (by simp) kR
 .exact Qbh (by simp only[List.mem_cons,List.not_mem_nil,or_false];rintro p (rfl|rfl|rfl|rfl|rfl|rfl)<;>exact Qbc.keeps (Qbk.keeps _))
 .refine⟨fun f w1=>by go_simp,?_⟩;refine⟨_,fun f w1 h1=>by(have d0:=ct h1 hs1 e0;have d1:=ct h1 hs1 e1;have d2:=ct h1 hs2 e2;have d3:=ct h1 hs2 e3;go_simp;rfl),?_⟩;refine⟨_,fun f w1 h1=>by(have d0:=ct h1 hs1 e0;have d1:=ct h1 hs1 e1;have d2:=ct h1 hs2 e2;have d3:=ct h1 hs2 e3;go_simp;rfl),?_⟩;simp only[Act.put,nrA,nrB,nrC,Nat.reduceAdd];refine⟨fun f w1 A1 k1 hA hN hd K hK=>by
   go_simp
   refine(Qed a u1 (Un (Mo A (w.heap.size+2)) A1) w1 (Qdk (Qbc.keeps (Qeq.keeps _)) h1 k1 hN) (Qes (HV.out.2.2.1.below (br.drew.trans k1)) hA)).mono ?_;rintro e w' ⟨v,rfl,hb,hr⟩;exact hK _ _ hb hr,?_⟩
  refine⟨_,fun f w1 h1=>by(have d0:=ct h1 hs1 e0;have d1:=ct h1 hs1 e1;have d2:=ct h1 hs2 e2;have d3:=ct h1 hs2 e3;go_simp;rfl),?_⟩;refine⟨_,fun f w1 h1=>by(have d0:=ct h1 hs1 e0;have d1:=ct h1 hs1 e1;have d2:=ct h1 hs2 e2;have d3:=ct h1 hs2 e3;go_simp;rfl),?_⟩;simp only[Act.put,nrA,nrB,nrC,Nat.reduceAdd];refine⟨fun f w1 A1 k1 hA hN hd K hK=>by
   go_simp
   refine(Qed c u3 (Un (Mo A (w.heap.size+2)) A1) w1 (Qdk (Qbc.keeps (Qeq.keeps _)) h3 k1 hN) (Qes (HV.out.2.2.1.below (br.drew.trans k1)) hA)).mono ?_;rintro e w' ⟨v,rfl,hb,hr⟩;exact hK _ _ hb hr,?_⟩
  simp only[Act.put,nrA,nrB,nrC,Nat.reduceAdd];refine⟨fun f w1 A1 m1 k1 hA hN hAm hm0 e hz hd K hK=>by
   simp only[e] at hK ⊢;have i1:Qbk (a) (f 3) w1 (Un (Mo A (w.heap.size+2)) A1):=hd 3 (by simp);have i2:Qbk (c) (f 6) w1 (Un (Mo A (w.heap.size+2)) A1):=hd 6 (by simp)
   go_simp
   refine(Qqq m1 _ _ _ _ _ _ w1 hz (by decide) Qdg i1 i2 (k) (l) hla hlc (by omega)).mono ?_;rintro e w' ⟨rfl,hp⟩;exact hK _ w' hp.1 (hp.ratU (HV.out.2.2.1.below (br.drew.trans k1)) hA hm0 (fun b hb=>HV.out.2.2.1.lt hb)),?_⟩
  refine⟨fun f w1=>by go_simp,?_⟩;refine⟨_,fun f w1 h1=>by(have d0:=ct h1 hs1 e0;have d1:=ct h1 hs1 e1;have d2:=ct h1 hs2 e2;have d3:=ct h1 hs2 e3;go_simp;rfl),?_⟩;refine⟨_,fun f w1 h1=>by(have d0:=ct h1 hs1 e0;have d1:=ct h1 hs1 e1;have d2:=ct h1 hs2 e2;have d3:=ct h1 hs2 e3;go_simp;rfl),?_⟩;simp only[Act.put,nrA,nrB,nrC,Nat.reduceAdd];refine⟨fun f w1 A1 k1 hA hN hd K hK=>by
   go_simp
   refine(Qed b u2 (Un (Mo A (w.heap.size+2)) A1) w1 (Qdk (Qbc.keeps (Qeq.keeps _)) h2 k1 hN) (Qes (HV.out.2.2.1.below (br.drew.trans k1)) hA)).mono ?_;rintro e w' ⟨v,rfl,hb,hr⟩;exact hK _ _ hb hr,?_⟩
  refine⟨_,fun f w1 h1=>by(have d0:=ct h1 hs1 e0;have d1:=ct h1 hs1 e1;have d2:=ct h1 hs2 e2;have d3:=ct h1 hs2 e3;go_simp;rfl),?_⟩;refine⟨_,fun f w1 h1=>by(have d0:=ct h1 hs1 e0;have d1:=ct h1 hs1 e1;have d2:=ct h1 hs2 e2;have d3:=ct h1 hs2 e3;go_simp;rfl),?_⟩;simp only[Act.put,nrA,nrB,nrC,Nat.reduceAdd];refine⟨fun f w1 A1 k1 hA hN hd K hK=>by
   go_simp
   refine(Qed d u4 (Un (Mo A (w.heap.size+2)) A1) w1 (Qdk (Qbc.keeps (Qeq.keeps _)) h4 k1 hN) (Qes (HV.out.2.2.1.below (br.drew.trans k1)) hA)).mono ?_;rintro e w' ⟨v,rfl,hb,hr⟩;exact hK _ _ hb hr,?_⟩
  simp only[Act.put,nrA,nrB,nrC,Nat.reduceAdd];refine⟨fun f w1 A1 m1 k1 hA hN hAm hm0 e hz hd K hK=>by
   simp only[e] at hK ⊢;have i1:Qbk (b) (f 11) w1 (Un (Mo A (w.heap.size+2)) A1):=hd 11 (by simp);have i2:Qbk (d) (f 14) w1 (Un (Mo A (w.heap.size+2)) A1):=hd 14 (by simp)
   go_simp
   refine(Qqq m1 _ _ _ _ _ _ w1 hz (by decide) Qdg i1 i2 (k) (l) hlb hld (by omega)).mono ?_;rintro e w' ⟨rfl,hp⟩;exact hK _ w' hp.1 (hp.ratU (HV.out.2.2.1.below (br.drew.trans k1)) hA hm0 (fun b hb=>HV.out.2.2.1.lt hb)),?_⟩
  intro f w1 k1 hF;have i0:Qbk (a) (f 3) w1 ((Mo A (w.heap.size+2))):=Qbc.done (Qbk.keeps _) hF.1.1.1.1.1.2;have i1:Qbk (c) (f 6) w1 ((Mo A (w.heap.size+2))):=Qbc.done (Qbk.keeps _) hF.1.1.1.1.2;have i2:Qbk (a-c) (f 7) w1 ((Mo A (w.heap.size+2))):=Qbc.done (Qbk.keeps _) hF.1.1.1.2;have i3:Qbk (b) (f 11) w1 ((Mo A (w.heap.size+2))):=Qbc.done (Qbk.keeps _) hF.1.1.2;have i4:Qbk (d) (f 14) w1 ((Mo A (w.heap.size+2))):=Qbc.done (Qbk.keeps _) hF.1.2;have i5:Qbk (b-d) (f 15) w1 ((Mo A (w.heap.size+2))):=Qbc.done (Qbk.keeps _) hF.2;clear hF;simp only[Act.put,nrA,nrB,nrC];generalize f 3=v0 at *
  generalize f 6=v1 at *
  generalize f 7=v2 at *
  generalize f 11=v3 at *
  generalize f 14=v4 at *
  generalize f 15=v5 at *
  have hb1:Below W.heap.size W w1:=br.drew.trans k1;obtain⟨c0,c1,f0,f1⟩:=HV.out.2.2.2 w1 hb1;have hbw:=HV.out.2.1.trans (hb1.mono HV.out.2.1.size);have HE:=hid (And.intro i2 (And.intro i5 hbw));obtain⟨m1,rfl⟩:=i2.shape;obtain⟨m2,rfl⟩:=i5.shape;clear e0 e1 e2 e3 h1 h2 h3 h4 i0 i1 i2 i3 i4 i5 hbw hb1 k1
  go_wp2_with fail
  refine bodyPost_ret (v:=.agg #[.pointer (some ⟨m1,0,none⟩),.pointer (some ⟨m2,0,none⟩)]) (by simp[results,Tryz.results128,go_sem,c0,c1]) rfl ?_;exact Qot HE.out.2.2 HE.out.1 HE.out.2.1 (by omega)
def Kgk(a b c d:Rat)(v v':Value)(A:Nat->Prop)(w:World)(hv:Qhr a b v w A)(hv':Qhr c d v' w A)(hA:Rcv A w)(k l:Nat)(hla:RL a k)(hlb:RL b k)(hlc:RL c l)(hld:RL d l)(hkl:k+l+(k+l)<137438953472) :
  Calls prog 129 #[v,v'] w fun e w'=>∃ u,e=.returned u/\Below w.heap.size w w'/\Qhr (a*c-b*d) (a*d+b*c) u w' A:=by
 obtain⟨u1,u2,rfl,h1,h2⟩:=hv;obtain⟨u3,u4,rfl,h3,h4⟩:=hv';obtain⟨W,HV,hs1,hs2,e0,e1,e2,e3⟩:=Qxg w u1 u2 u3 u4 A hA;have h1:=Qdl (Qeq.keeps a) (n:=w.heap.size+2) HV.out.2.1 (by omega) h1;have h2:=Qdl (Qeq.keeps b) (n:=w.heap.size+2) HV.out.2.1 (by omega) h2;have h3:=Qdl (Qeq.keeps c) (n:=w.heap.size+2) HV.out.2.1 (by omega) h3;have h4:=Qdl (Qeq.keeps d) (n:=w.heap.size+2) HV.out.2.1 (by omega) h4;clear hA
 go_enter func129,Tryz.ntmps129
 go_wp2_with fail
 rw[<-HV.out.1];refine Qav [(.new zR,[]),(.lit,[]),(.lit,[]),(.lit,[]),(.lit,[]),(.val,[]),(.lit,[]),(.lit,[]),(.lit,[]),(.lit,[]),(.val,[]),(.on 0 zR,[5,10]),(.new zR,[]),(.lit,[]),(.lit,[]),(.lit,[]),(.lit,[]),(.val,[]),(.lit,[]),(.lit,[]),(.lit,[]),(.lit,[]),(.val,[]),(.on 12 zR,[17,22])]
  (Qfj [(5,Qbc (Mo A (w.heap.size+2)) (Qbk (a*c))),(10,Qbc (Mo A (w.heap.size+2)) (Qbk (b*d))),(11,Qbc (Mo A (w.heap.size+2)) (Qbk (a*c-b*d))),(17,Qbc (Mo A (w.heap.size+2)) (Qbk (a*d))),(22,Qbc (Mo A (w.heap.size+2)) (Qbk (b*c))),(23,Qbc (Mo A (w.heap.size+2)) (Qbk (a*d+b*c)))]) kR ?_ ?_ (by simp[Qdg]) (by simp) kR
 .exact Qbh (by simp only[List.mem_cons,List.not_mem_nil,or_false];rintro p (rfl|rfl|rfl|rfl|rfl|rfl)<;>exact Qbc.keeps (Qbk.keeps _))
 .refine⟨fun f w1=>by go_simp,?_⟩;refine⟨_,fun f w1 h1=>by(have d0:=ct h1 hs1 e0;have d1:=ct h1 hs1 e1;have d2:=ct h1 hs2 e2;have d3:=ct h1 hs2 e3;go_simp;rfl),?_⟩;refine⟨_,fun f w1 h1=>by(have d0:=ct h1 hs1 e0;have d1:=ct h1 hs1 e1;have d2:=ct h1 hs2 e2;have d3:=ct h1 hs2 e3;go_simp;rfl),?_⟩;refine⟨_,fun f w1 h1=>by(have d0:=ct h1 hs1 e0;have d1:=ct h1 hs1 e1;have d2:=ct h1 hs2 e2;have d3:=ct h1 hs2 e3;go_simp;rfl),?_⟩;refine⟨_,fun f w1 h1=>by(have d0:=ct h1 hs1 e0;have d1:=ct h1 hs1 e1;have d2:=ct h1 hs2 e2;have d3:=ct h1 hs2 e3;go_simp;rfl),?_⟩;simp only[Act.put,nrA,nrB,nrC,Nat.reduceAdd];refine⟨fun f w1 A1 k1 hA hN hd K hK=>by
   go_simp
   refine(Qgt a c u1 u3 (Un (Mo A (w.heap.size+2)) A1) w1 (Qdk (Qbc.keeps (Qeq.keeps _)) h1 k1 hN) (Qdk (Qbc.keeps (Qeq.keeps _)) h3 k1 hN) (Qes (HV.out.2.2.1.below (br.drew.trans k1)) hA) k l hla hlc (by omega)).mono ?_;rintro e w' ⟨v,rfl,hb,hr⟩;exact hK _ _ hb hr,?_⟩
  refine⟨_,fun f w1 h1=>by(have d0:=ct h1 hs1 e0;have d1:=ct h1 hs1 e1;have d2:=ct h1 hs2 e2;have d3:=ct h1 hs2 e3;go_simp;rfl),?_⟩;refine⟨_,fun f w1 h1=>by(have d0:=ct h1 hs1 e0;have d1:=ct h1 hs1 e1;have d2:=ct h1 hs2 e2;have d3:=ct h1 hs2 e3;go_simp;rfl),?_⟩;refine⟨_,fun f w1 h1=>by(have d0:=ct h1 hs1 e0;have d1:=ct h1 hs1 e1;have d2:=ct h1 hs2 e2;have d3:=ct h1 hs2 e3;go_simp;rfl),?_⟩;refine⟨_,fun f w1 h1=>by(have d0:=ct h1 hs1 e0;have d1:=ct h1 hs1 e1;have d2:=ct h1 hs2 e2;have d3:=ct h1 hs2 e3;go_simp;rfl),?_⟩;simp only[Act.put,nrA,nrB,nrC,Nat.reduceAdd];refine⟨fun f w1 A1 k1 hA hN hd K hK=>by
   go_simp
   refine(Qgt b d u2 u4 (Un (Mo A (w.heap.size+2)) A1) w1 (Qdk (Qbc.keeps (Qeq.keeps _)) h2 k1 hN) (Qdk (Qbc.keeps (Qeq.keeps _)) h4 k1 hN) (Qes (HV.out.2.2.1.below (br.drew.trans k1)) hA) k l hlb hld (by omega)).mono ?_;rintro e w' ⟨v,rfl,hb,hr⟩;exact hK _ _ hb hr,?_⟩
  simp only[Act.put,nrA,nrB,nrC,Nat.reduceAdd];refine⟨fun f w1 A1 m1 k1 hA hN hAm hm0 e hz hd K hK=>by
   simp only[e] at hK ⊢;have i1:Qbk (a*c) (f 5) w1 (Un (Mo A (w.heap.size+2)) A1):=hd 5 (by simp);have i2:Qbk (b*d) (f 10) w1 (Un (Mo A (w.heap.size+2)) A1):=hd 10 (by simp)
   go_simp
   refine(Qqq m1 _ _ _ _ _ _ w1 hz (by decide) Qdg i1 i2 (k+l) (k+l) (Qad hla hlc) (Qad hlb hld) (by omega)).mono ?_;rintro e w' ⟨rfl,hp⟩;exact hK _ w' hp.1 (hp.ratU (HV.out.2.2.1.below (br.drew.trans k1)) hA hm0 (fun b hb=>HV.out.2.2.1.lt hb)),?_⟩
  refine⟨fun f w1=>by go_simp,?_⟩;refine⟨_,fun f w1 h1=>by(have d0:=ct h1 hs1 e0;have d1:=ct h1 hs1 e1;have d2:=ct h1 hs2 e2;have d3:=ct h1 hs2 e3;go_simp;rfl),?_⟩;refine⟨_,fun f w1 h1=>by(have d0:=ct h1 hs1 e0;have d1:=ct h1 hs1 e1;have d2:=ct h1 hs2 e2;have d3:=ct h1 hs2 e3;go_simp;rfl),?_⟩;refine⟨_,fun f w1 h1=>by(have d0:=ct h1 hs1 e0;have d1:=ct h1 hs1 e1;have d2:=ct h1 hs2 e2;have d3:=ct h1 hs2 e3;go_simp;rfl),?_⟩;refine⟨_,fun f w1 h1=>by(have d0:=ct h1 hs1 e0;have d1:=ct h1 hs1 e1;have d2:=ct h1 hs2 e2;have d3:=ct h1 hs2 e3;go_simp;rfl),?_⟩;simp only[Act.put,nrA,nrB,nrC,Nat.reduceAdd];refine⟨fun f w1 A1 k1 hA hN hd K hK=>by
   go_simp
   refine(Qgt a d u1 u4 (Un (Mo A (w.heap.size+2)) A1) w1 (Qdk (Qbc.keeps (Qeq.keeps _)) h1 k1 hN) (Qdk (Qbc.keeps (Qeq.keeps _)) h4 k1 hN) (Qes (HV.out.2.2.1.below (br.drew.trans k1)) hA) k l hla hld (by omega)).mono ?_;rintro e w' ⟨v,rfl,hb,hr⟩;exact hK _ _ hb hr,?_⟩
  refine⟨_,fun f w1 h1=>by(have d0:=ct h1 hs1 e0;have d1:=ct h1 hs1 e1;have d2:=ct h1 hs2 e2;have d3:=ct h1 hs2 e3;go_simp;rfl),?_⟩;refine⟨_,fun f w1 h1=>by(have d0:=ct h1 hs1 e0;have d1:=ct h1 hs1 e1;have d2:=ct h1 hs2 e2;have d3:=ct h1 hs2 e3;go_simp;rfl),?_⟩;refine⟨_,fun f w1 h1=>by(have d0:=ct h1 hs1 e0;have d1:=ct h1 hs1 e1;have d2:=ct h1 hs2 e2;have d3:=ct h1 hs2 e3;go_simp;rfl),?_⟩;refine⟨_,fun f w1 h1=>by(have d0:=ct h1 hs1 e0;have d1:=ct h1 hs1 e1;have d2:=ct h1 hs2 e2;have d3:=ct h1 hs2 e3;go_simp;rfl),?_⟩;simp only[Act.put,nrA,nrB,nrC,Nat.reduceAdd];refine⟨fun f w1 A1 k1 hA hN hd K hK=>by
   go_simp
   refine(Qgt b c u2 u3 (Un (Mo A (w.heap.size+2)) A1) w1 (Qdk (Qbc.keeps (Qeq.keeps _)) h2 k1 hN) (Qdk (Qbc.keeps (Qeq.keeps _)) h3 k1 hN) (Qes (HV.out.2.2.1.below (br.drew.trans k1)) hA) k l hlb hlc (by omega)).mono ?_;rintro e w' ⟨v,rfl,hb,hr⟩;exact hK _ _ hb hr,?_⟩
  simp only[Act.put,nrA,nrB,nrC,Nat.reduceAdd];refine⟨fun f w1 A1 m1 k1 hA hN hAm hm0 e hz hd K hK=>by
   simp only[e] at hK ⊢;have i1:Qbk (a*d) (f 17) w1 (Un (Mo A (w.heap.size+2)) A1):=hd 17 (by simp);have i2:Qbk (b*c) (f 22) w1 (Un (Mo A (w.heap.size+2)) A1):=hd 22 (by simp)
   go_simp
   refine(Qkq m1 _ _ _ _ _ _ w1 hz (by decide) Qdg i1 i2 (k+l) (k+l) (Qad hla hld) (Qad hlb hlc) (by omega)).mono ?_;rintro e w' ⟨rfl,hp⟩;exact hK _ w' hp.1 (hp.ratU (HV.out.2.2.1.below (br.drew.trans k1)) hA hm0 (fun b hb=>HV.out.2.2.1.lt hb)),?_⟩
  intro f w1 k1 hF;have i0:Qbk (a*c) (f 5) w1 ((Mo A (w.heap.size+2))):=Qbc.done (Qbk.keeps _) hF.1.1.1.1.1.2;have i1:Qbk (b*d) (f 10) w1 ((Mo A (w.heap.size+2))):=Qbc.done (Qbk.keeps _) hF.1.1.1.1.2;have i2:Qbk (a*c-b*d) (f 11) w1 ((Mo A (w.heap.size+2))):=Qbc.done (Qbk.keeps _) hF.1.1.1.2;have i3:Qbk (a*d) (f 17) w1 ((Mo A (w.heap.size+2))):=Qbc.done (Qbk.keeps _) hF.1.1.2;have i4:Qbk (b*c) (f 22) w1 ((Mo A (w.heap.size+2))):=Qbc.done (Qbk.keeps _) hF.1.2;have i5:Qbk (a*d+b*c) (f 23) w1 ((Mo A (w.heap.size+2))):=Qbc.done (Qbk.keeps _) hF.2;clear hF;simp only[Act.put,nrA,nrB,nrC];generalize f 5=v0 at *
  generalize f 10=v1 at *
  generalize f 11=v2 at *
  generalize f 17=v3 at *
  generalize f 22=v4 at *
  generalize f 23=v5 at *
  have hb1:Below W.heap.size W w1:=br.drew.trans k1;obtain⟨c0,c1,f0,f1⟩:=HV.out.2.2.2 w1 hb1;have hbw:=HV.out.2.1.trans (hb1.mono HV.out.2.1.size);have HE:=hid (And.intro i2 (And.intro i5 hbw));obtain⟨m1,rfl⟩:=i2.shape;obtain⟨m2,rfl⟩:=i5.shape;clear e0 e1 e2 e3 h1 h2 h3 h4 i0 i1 i2 i3 i4 i5 hbw hb1 k1
  go_wp2_with fail
  refine bodyPost_ret (v:=.agg #[.pointer (some ⟨m1,0,none⟩),.pointer (some ⟨m2,0,none⟩)]) (by simp[results,Tryz.results129,go_sem,c0,c1]) rfl ?_;exact Qot HE.out.2.2 HE.out.1 HE.out.2.1 (by omega)
def Qzw(a b:Rat)(v:Value)(A:Nat->Prop)(w:World)(hv:Qhr a b v w A)(hA:Rcv A w)(hlb:RL b 137438953472) :
  Calls prog 173 #[v] w fun e w'=>∃ u,e=.returned u/\Below w.heap.size w w'/\Qhr a (-b) u w' A:=by
 obtain⟨u1,u2,rfl,h1,h2⟩:=hv;obtain⟨W,HV,hs2,e0,e1⟩:=Kov w u1 u2 A hA;have h1:=Qdl (Qeq.keeps a) (n:=w.heap.size+1) HV.out.2.1 (by omega) h1;have h2:=Qdl (Qeq.keeps b) (n:=w.heap.size+1) HV.out.2.1 (by omega) h2;clear hA
 go_enter func173,Tryz.ntmps173
 go_wp2_with fail
 rw[<-HV.out.1];refine Qav [(.lit,[]),(.lit,[]),(.val,[]),(.new zR,[]),(.lit,[]),(.lit,[]),(.val,[]),(.on 3 zR,[6])]
  (Qfj [(2,Qbc (Mo A (w.heap.size+1)) (Qbk (a))),(6,Qbc (Mo A (w.heap.size+1)) (Qbk (b))),(7,Qbc (Mo A (w.heap.size+1)) (Qbk (-b)))]) kR ?_ ?_ (by simp[Qdg]) (by simp) kR
 .exact Qbh (by simp only[List.mem_cons,List.not_mem_nil,or_false];rintro p (rfl|rfl|rfl)<;>exact Qbc.keeps (Qbk.keeps _))
 .refine⟨_,fun f w1 h1=>by(have d0:=ct h1 hs2 e0;have d1:=ct h1 hs2 e1;go_simp;rfl),?_⟩;refine⟨_,fun f w1 h1=>by(have d0:=ct h1 hs2 e0;have d1:=ct h1 hs2 e1;go_simp;rfl),?_⟩;simp only[Act.put,nrA,nrB,nrC,Nat.reduceAdd];refine⟨fun f w1 A1 k1 hA hN hd K hK=>by
   go_simp
   refine(Qed a u1 (Un (Mo A (w.heap.size+1)) A1) w1 (Qdk (Qbc.keeps (Qeq.keeps _)) h1 k1 hN) (Qes (HV.out.2.2.1.below (br.drew.trans k1)) hA)).mono ?_;rintro e w' ⟨v,rfl,hb,hr⟩;exact hK _ _ hb hr,?_⟩
  refine⟨fun f w1=>by go_simp,?_⟩;refine⟨_,fun f w1 h1=>by(have d0:=ct h1 hs2 e0;have d1:=ct h1 hs2 e1;go_simp;rfl),?_⟩;refine⟨_,fun f w1 h1=>by(have d0:=ct h1 hs2 e0;have d1:=ct h1 hs2 e1;go_simp;rfl),?_⟩;simp only[Act.put,nrA,nrB,nrC,Nat.reduceAdd];refine⟨fun f w1 A1 k1 hA hN hd K hK=>by
   go_simp
   refine(Qed b u2 (Un (Mo A (w.heap.size+1)) A1) w1 (Qdk (Qbc.keeps (Qeq.keeps _)) h2 k1 hN) (Qes (HV.out.2.2.1.below (br.drew.trans k1)) hA)).mono ?_;rintro e w' ⟨v,rfl,hb,hr⟩;exact hK _ _ hb hr,?_⟩
  simp only[Act.put,nrA,nrB,nrC,Nat.reduceAdd];refine⟨fun f w1 A1 m1 k1 hA hN hAm hm0 e hz hd K hK=>by
   simp only[e] at hK ⊢;have i1:Qbk (b) (f 6) w1 (Un (Mo A (w.heap.size+1)) A1):=hd 6 (by simp)
   go_simp
   refine(Qxa m1 _ _ _ _ w1 hz (by decide) Qdg i1 hlb).mono ?_;rintro e w' ⟨rfl,hp⟩;exact hK _ w' hp.1 (hp.ratU (HV.out.2.2.1.below (br.drew.trans k1)) hA hm0 (fun b hb=>HV.out.2.2.1.lt hb)),?_⟩
  intro f w1 k1 hF;have i0:Qbk (a) (f 2) w1 ((Mo A (w.heap.size+1))):=Qbc.done (Qbk.keeps _) hF.1.1.2;have i1:Qbk (b) (f 6) w1 ((Mo A (w.heap.size+1))):=Qbc.done (Qbk.keeps _) hF.1.2;have i2:Qbk (-b) (f 7) w1 ((Mo A (w.heap.size+1))):=Qbc.done (Qbk.keeps _) hF.2;clear hF;simp only[Act.put,nrA,nrB,nrC];generalize f 2=v0 at *
  generalize f 6=v1 at *
  generalize f 7=v2 at *
  have hb1:Below W.heap.size W w1:=br.drew.trans k1;obtain⟨c0,c1,f0,f1⟩:=HV.out.2.2.2 w1 hb1;have hbw:=HV.out.2.1.trans (hb1.mono HV.out.2.1.size);have HE:=hid (And.intro i0 (And.intro i2 hbw));obtain⟨m1,rfl⟩:=i0.shape;obtain⟨m2,rfl⟩:=i2.shape;clear e0 e1 h1 h2 i0 i1 i2 hbw hb1 k1
  go_wp2_with fail
  refine bodyPost_ret (v:=.agg #[.pointer (some ⟨m1,0,none⟩),.pointer (some ⟨m2,0,none⟩)]) (by simp[results,Tryz.results173,go_sem,c0,c1]) rfl ?_;exact Qot HE.out.2.2 HE.out.1 HE.out.2.1 (by omega)
def Qod(i j:Int)(hi0:-9223372036854775808<=i)(hi1:i<9223372036854775808)(hj0:-9223372036854775808<=j)(hj1:j<9223372036854775808)(hj:j≠0)(w:World) :
  Calls prog 177 #[.int .i64 i,.int .i64 j] w fun e w'=>∃ v,e=.returned v/\Ufj (Rat.divInt i j) v w w':=by
 have hal:=(Below.refl w.heap.size w).alloc lr zR;have H1:=hid (Qgv i hi0 hi1 (w.alloc zR));have HA:=hid hal;have HJ:=hid hj;have l1:(Qac i.natAbs).length<274877906944:=axd (Qal (k:=2) (by omega)) (by decide);have l2:(Qac j.natAbs).length<274877906944:=axd (Qal (k:=2) (by omega)) (by decide);have HL:=hid (And.intro l1 l2);clear hal hj l1 l2
 go_enter func177,Tryz.ntmps177
 go_wp2_with fail
 refine H1.out.mono ?_;rintro e w1 ⟨v1,rfl,hn1⟩;have H2:=hid (Qgv j hj0 hj1 w1);have HN1:=hid hn1;clear hn1
 go_wp2_with fail
 refine H2.out.mono ?_;rintro e w2 ⟨v2,rfl,hn2⟩;have hb1:=HN1.out.1;have hm:w2.heap[w.heap.size]?=some zR:=(hn2.1.block _ (by have:=hb1.size;simp at this;omega)).trans ((hb1.block _ (by simp)).trans (heap_alloc_new w _));have hb02:Below w.heap.size w w2:=HA.out.trans ((hb1.trans (hn2.1.mono hb1.size)).mono (by simp));have HS:=hid (Qez w.heap.size _ i j HJ.out v1 v2 NoA w2 hm (by decide) Qdg ((HN1.out.2 NoA (Qbt _)).below hn2.1) (hn2.2 NoA (Qbt _)) HL.out.1 HL.out.2);have HB:=hid hb02;clear hb1 hm hb02 hn2 H1 H2
 go_wp2_with fail
 refine HS.out.mono ?_;rintro e w3 ⟨rfl,hp⟩;have HN:=hid (hp.newAt HB.out lr);clear hp HS
 go_wp2
 go_ret
 exact⟨_,rfl,HN.out⟩
def Qjh{q:Rat}:q.num.sign=0↔q=0:=by
 rw[Int.sign_eq_zero_iff_zero,Rat.num_eq_zero]
def Kom(a b:Rat)(v:Value)(A:Nat->Prop)(w:World)(hv:Qhr a b v w A)(r:Bool)(hr:r=true↔a=0/\b=0) :
  Calls prog 170 #[v] w fun e w'=>e=.returned (.bool r)/\Below w.heap.size w w':=by
 obtain⟨u1,u2,rfl,h1,h2⟩:=hv;have hal:Below w.heap.size w (w.alloc (.cells #[u1,u2] 116)):=br.alloc lr _;have H1:=hid (Qed a u1 NoA (w.alloc (.cells #[u1,u2] 116)) ((Qcq.Keeps.noA (Qeq.keeps a) h1).below hal) (Qbt _));have HB:=hid (And.intro hal (And.intro hr (Qcq.Keeps.noA (Qeq.keeps b) h2)));clear hal hr h1 h2
 go_enter func170,Tryz.ntmps170
 go_wp2_with fail
 refine H1.out.mono ?_;rintro e w1 ⟨v1,rfl,hb1,hr1⟩;have HS:=hid (Qgx a v1 NoA w1 hr1);obtain⟨e0,e1,_⟩:=Qij w _ _ _ hb1;obtain⟨sg,hsg⟩:∃ sg,sg=a.num.sign:=⟨_,rfl⟩
 rw[<-hsg] at HS;have HG:=hid hsg;clear hsg hr1
 go_wp2_with fail
 refine HS.out.mono ?_;rintro e w2 ⟨rfl,rfl⟩
 by_cases c:sg=0
 .have ha:a=0:=Qjh.1 (by rw[<-HG.out];exact c);subst c;have H2:=hid (Qed b u2 NoA w1 ((HB.out.2.2.below HB.out.1).below hb1) (Qbt _));have HB1:=hid (HB.out.1.trans (hb1.mono (by simp)));clear hb1
  go_wp2_with fail
  refine H2.out.mono ?_;rintro e w3 ⟨v3,rfl,hb3,hr3⟩;have HS2:=hid (Qgx b v3 NoA w3 hr3);obtain⟨sg2,hsg2⟩:∃ sg2,sg2=b.num.sign:=⟨_,rfl⟩
  rw[<-hsg2] at HS2;have HG2:=hid (And.intro hsg2 (HB1.out.trans (hb3.mono HB1.out.size)));clear hsg2 hr3 hb3 e0 e1
  go_wp2_with fail
  refine HS2.out.mono ?_;rintro e w4 ⟨rfl,rfl⟩
  go_wp2
  go_ret
  refine⟨?_,HG2.out.2⟩;have:r=decide (sg2=0):=by
   have h:=HB.out.2.1;rw[<-Qjh (q:=b),<-HG2.out.1] at h
   by_cases h2:sg2=0
   .rw[decide_eq_true h2];exact h.2 ⟨ha,h2⟩
   .rw[decide_eq_false h2];cases hr:r
    .rfl
    .exact absurd (h.1 hr).2 h2
  rw[this]
  first|rfl|(simp;done)|(show Ending.returned (.bool (sg2==0))=_;rfl)
 .have hc:(sg==0)=false:=by simpa using c
  have hr:r=false:=by
   cases hr:r
   .rfl
   .exact absurd (by rw[HG.out];exact Qjh.2 (HB.out.2.1.1 hr).1) c
  have HB1:=hid (HB.out.1.trans (hb1.mono (by simp)));clear hb1
  go_wp2
  all_goals go_ret
  all_goals exact⟨by rw[hr];rfl,HB1.out⟩
def BSl.below{w w':World}{v:Value}{s:ByteArray}(h:BSl w v s)(hb:Below w.heap.size w w'):BSl w' v s:=by
 obtain⟨b,off,cap,rfl,hlt,h⟩:=h;exact⟨b,off,cap,rfl,axc hlt hb.size,fun i hi=>(hb.cell (p:=⟨b,off+i,none⟩) hlt).trans (h i hi)⟩
def Qvg(i:Int):Rat.divInt i 1=(i:Rat):=by
 have:=Rat.num_divInt_den (i:Rat);rw[Rat.num_intCast,Rat.den_intCast] at this;simpa using this
def Kxh(i j:Int)(hi0:-9223372036854775808<=i)(hi1:i<9223372036854775808)(hj0:-9223372036854775808<=j)(hj1:j<9223372036854775808)(A:Nat->Prop)(w:World)(hA:Rcv A w) :
  Calls prog 79 #[.int .i64 i,.int .i64 j] w fun e w'=>∃ u,e=.returned u/\Below w.heap.size w w'/\Qhr i j u w' A:=by
 obtain⟨W,hW⟩:∃ W,W=w.alloc (.cells #[.pointer none,.pointer none] 116):=⟨_,rfl⟩
 have hBW:Below w.heap.size w W:=by rw[hW];exact br.alloc lr _
 have hAW:Rcv (Mo A w.heap.size) W:=fun b h=>h.elim (fun h=>(hA.below hBW) b h) (fun h=>by subst h;rw[hW];exact⟨_,heap_alloc_new w _,Qxz _ _ ⟨_,rfl⟩ ⟨_,rfl⟩ _⟩)
 have H1:=hid (Qod i 1 hi0 hi1 (by decide) (by decide) (by decide) W);rw[Qvg] at H1;have HA:=hid (And.intro hW (And.intro hBW hAW));clear hBW hAW hA
 go_enter func79,Tryz.ntmps79
 go_wp2_with fail
 rw[<-hW];clear hW;refine H1.out.mono ?_;rintro e w1 ⟨v1,rfl,hn1⟩;have H2:=hid (Qod j 1 hj0 hj1 (by decide) (by decide) (by decide) w1);rw[Qvg] at H2;have HN1:=hid hn1;clear hn1
 go_wp2_with fail
 refine H2.out.mono ?_;rintro e w2 ⟨v2,rfl,hn2⟩;have hr1:=(HN1.out.2 _ HA.out.2.2).below hn2.1;have hr2:=hn2.2 _ (HA.out.2.2.below HN1.out.1);have hb2:=HN1.out.1.trans (hn2.1.mono HN1.out.1.size);obtain⟨c0,c1,f0,f1⟩:=Qij w (.pointer none) (.pointer none) 116 (by rw[<-HA.out.1];exact hb2);have HE:=hid (And.intro hr1 (And.intro hr2 (HA.out.2.1.trans (hb2.mono HA.out.2.1.size))));obtain⟨m1,rfl⟩:=hr1.shape;obtain⟨m2,rfl⟩:=hr2.shape;clear hr1 hr2 hb2 hn2 H1 H2 HN1
 go_wp2_with fail
 refine bodyPost_ret (v:=.agg #[.pointer (some ⟨m1,0,none⟩),.pointer (some ⟨m2,0,none⟩)]) (by simp[results,Tryz.results79,go_sem,c0,c1]) rfl ?_;exact Qot HE.out.2.2 HE.out.1 HE.out.2.1 lr
def Qag(q:Rat):Prop:=(Qcg q.num.natAbs).size<=1024/\(Qcg q.den).size<=1024
instance (q:Rat):Decidable (Qag q):=by unfold Qag;infer_instance
def zF:Value:=.agg #[.bool false,.string ⟨#[]⟩,.bool false,.string ⟨#[]⟩]
def Khz(q:Rat):Value:=if Qag q then Qew q else zF
def Klr(q:Rat):Int:=if Qag q then 0 else 4
def Qmk(q:Rat)(v:Value)(A:Nat->Prop)(w:World)(hx:Qeq q v w A)(hl:RL q 137438953472) :
  Calls prog 120 #[v] w fun e w'=>e=.returned (.tuple #[Khz q,.int .i64 (Klr q)])/\Below w.heap.size w w':=by
 have hal:Below w.heap.size w (w.alloc (.cells #[.bool false,.string ⟨#[]⟩,.bool false,.string ⟨#[]⟩] 26)):=br.alloc lr _;have H1:=hid (Qed q v NoA _ ((Qcq.Keeps.noA (Qeq.keeps q) hx).below hal) (Qbt _));have hln:(Qac q.num.natAbs).length<274877906944:=by have:=hl.1;omega
 have hld:(Qac (q.den:Int).natAbs).length<274877906944:=by have:=hl.2;simp;omega
 have HL:=hid (And.intro hln hld);have HAL:=hid hal;clear hx hal hln hld
 go_enter func120,Tryz.ntmps120
 go_wp2_with fail
 refine H1.out.mono ?_;rintro e w1 ⟨u,rfl,hb1,hr1⟩;have HN:=hid (Qwz q u NoA w1 hr1 hl);have HR:=hid hr1;clear hr1
 go_wp2_with fail
 refine HN.out.mono ?_;rintro e w2 ⟨v2,rfl,hn2⟩;have HB:=hid (Qro q.num v2 NoA w2 (hn2.2 NoA (Qbt _)) HL.out.1)
 go_wp2_with fail
 refine HB.out.mono ?_;rintro e w3 ⟨v3,rfl,hs3,hb3⟩;have hb13:=hn2.1.trans (hb3.mono hn2.1.size);have HD:=hid (Qmj q u NoA w3 (HR.out.below hb13) hl)
 go_wp2_with fail
 refine HD.out.mono ?_;rintro e w4 ⟨v4,rfl,hn4⟩;have HB2:=hid (Qro q.den v4 NoA w4 (hn4.2 NoA (Qbt _)) HL.out.2)
 go_wp2_with fail
 refine HB2.out.mono ?_;rintro e w5 ⟨v5,rfl,hs5,hb5⟩;have hb35:=hn4.1.trans (hb5.mono hn4.1.size);have hb15:=hb13.trans (hb35.mono hb13.size);have hs3':=hs3.below hb35;obtain⟨c0,c1,c2,c3,f0,f1,f2,f3⟩:=Qkw w _ _ _ _ _ (hb1.trans (hb15.mono hb1.size));have hbw:Below w.heap.size w w5:=HAL.out.trans ((hb1.trans (hb15.mono hb1.size)).mono (by simp));obtain⟨t1,ht1⟩:∃ t1,t1=Qcg q.num.natAbs:=⟨_,rfl⟩
 obtain⟨t2,ht2⟩:∃ t2,t2=Qcg (q.den:Int).natAbs:=⟨_,rfl⟩
 rw[<-ht1] at hs3';rw[<-ht2] at hs5;have kc1:=Qib w5.drew v3 t1 (hs3'.below (br.drew));have kc2:=Qib w5.drew v5 t2 (hs5.below (br.drew));obtain⟨p1,o1,q1,rfl,_⟩:=hs3';obtain⟨p2,o2,q2,rfl,_⟩:=hs5;have HT:=hid (And.intro ht1 (And.intro ht2 hbw));have HSG:=hid (fun w (h:Qbk q u w NoA)=>Qgx q u NoA w h);have HR5:=hid (HR.out.below hb15);clear ht1 ht2 hs3 hb1 hb13 hb3 hb5 hb35 hb15 hn2 hn4 hbw HN HB HD HB2 H1;have HZ:=hid (fun(h:¬Qag q)=>show zF=Khz q/\(4:Int)=Klr q by unfold Khz Klr;rw[if_neg h,if_neg h];exact⟨rfl,rfl⟩);have HY:=hid (fun(h:Qag q)=>show Qew q=Khz q/\(0:Int)=Klr q by unfold Khz Klr;rw[if_pos h,if_pos h];exact⟨rfl,rfl⟩)
 by_cases g1:(1024:Int)<(t1.size:Int)
 .have hno:¬Qag q:=fun h=>by have h1:=h.1;rw[<-HT.out.1] at h1;omega
  have HNO:=hid hno;clear hno
  go_wp2_with fail
  refine bodyPost_ret (v:=.tuple #[zF,.int .i64 4]) (by unfold zF;simp[results,Tryz.results120,go_sem,c0,c1,c2,c3]) rfl ⟨by rw[(HZ.out HNO.out).1,(HZ.out HNO.out).2],?_⟩;exact((((HT.out.2.2.setCell (p:=⟨w.heap.size,0,none⟩) lr _).setCell (p:=⟨w.heap.size,1,none⟩) lr _).setCell (p:=⟨w.heap.size,2,none⟩) lr _).setCell (p:=⟨w.heap.size,3,none⟩) lr _)
 .by_cases g2:(1024:Int)<(t2.size:Int)
  .have hno:¬Qag q:=fun h=>by have h2:=h.2;have h3:=HT.out.2.1;simp only[axs] at h3;rw[<-h3] at h2;omega
   have HNO:=hid hno;clear hno
   go_wp2_with fail
   refine bodyPost_ret (v:=.tuple #[zF,.int .i64 4]) (by unfold zF;simp[results,Tryz.results120,go_sem,c0,c1,c2,c3]) rfl ⟨by rw[(HZ.out HNO.out).1,(HZ.out HNO.out).2],?_⟩;exact((((HT.out.2.2.setCell (p:=⟨w.heap.size,0,none⟩) lr _).setCell (p:=⟨w.heap.size,1,none⟩) lr _).setCell (p:=⟨w.heap.size,2,none⟩) lr _).setCell (p:=⟨w.heap.size,3,none⟩) lr _)
  .have hyes:Qag q:=⟨by rw[<-HT.out.1];omega,by have h3:=HT.out.2.1;simp only[axs] at h3;rw[<-h3];omega⟩
   have HYES:=hid hyes;clear hyes;obtain⟨sg,hsg⟩:∃ sg,sg=q.num.sign:=⟨_,rfl⟩
   have HC:=hid (Qgx q u NoA w5.drew (HR5.out.below (br.drew)));rw[<-hsg] at HC;have HG:Hid (Qew q=.agg #[.bool (decide (sg<0)),.string t1,.bool false,.string t2]):=hid (by unfold Qew;rw[hsg,Ksy,HT.out.1,HT.out.2.1];simp);clear hsg
   go_wp2_with fail
   refine Qgi 10 kR kR ?_;simp only[List.take_succ_cons,List.take_zero,List.drop_succ_cons,List.drop_zero]
   repeat (first|still_step|still_call (Ubg HC.out))
   refine wpStill_nil ?_
   go_wp2_with fail
   refine bodyPost_ret (v:=.tuple #[.agg #[.bool (decide (sg<0)),.string t1,.bool false,.string t2],.int .i64 0]) (by simp[results,Tryz.results120,go_sem,c0,c1,c2,c3]) rfl ⟨by rw[<-HG.out,(HY.out HYES.out).1,(HY.out HYES.out).2],?_⟩;exact((((HT.out.2.2.setCell (p:=⟨w.heap.size,0,none⟩) lr _).setCell (p:=⟨w.heap.size,1,none⟩) lr _).setCell (p:=⟨w.heap.size,2,none⟩) lr _).setCell (p:=⟨w.heap.size,3,none⟩) lr _).drew
end Go.Proofs.YtmimficdpfmfgaaGreat
namespace Tr
open Go Go.RowKit
section
variable{P:Program}{L:List GF}
def Khl(t:TypeId)(ht:P.underlying t=some .string)(x:AC)(s:ByteArray)(res:AC)(hn:x.noown=true:=by rfl)(hx:x.gv L=some (.string s):=by rfl)(hr:res.gv L=some (.int .i64 (s.size:Nat)):=by rfl):GO P L :=
 Kar t (.c x) res (fun w A u ty hu=>by
  have e:u=.string s:=(AC.gv_ok (x:=x) hx).1 hu;subst e;simp[Builtin.len_,run_underlying ht,goInt]) (by simpa[AR.noown,AR.cells] using hn) hr
def Qmx{t:TypeId}(h:P.eqGuardType P.depth t=false)(op:BinOp)(xo yo:Operand)(a b:Array Value)(w:World):(eqGuard op t xo yo (.agg a) (.agg b)).run P w=.ok () w:=by
 cases op<;>simp[eqGuard,h]
def Qof{t:TypeId}(h:P.eqGuardType P.depth t=false){a b:Array Value}{r:Bool}(he:∀ w,(binOp .eql t (.agg a) (.agg b)).run P w=.ok (.bool r) w):∀(xo yo:Operand) (w:World),(do eqGuard .eql t xo yo (.agg a) (.agg b);binOp .eql t (.agg a) (.agg b):Sem Value).run P w=.ok (.bool r) w:=by
 intro xo yo w;rw[Sem.run_bind,Qmx h,Result.andThen_ok,he]
def Ufo{t:TypeId}(h:P.eqGuardType P.depth t=false){a b:Array Value}{r:Bool}(he:∀ w,(binOp .eql t (.agg a) (.agg b)).run P w=.ok (.bool r) w):∀(xo yo:Operand) (w:World),(do eqGuard .neq t xo yo (.agg a) (.agg b);binOp .neq t (.agg a) (.agg b):Sem Value).run P w=.ok (.bool !r) w:=by
 intro xo yo w;have e1:binOp .eql t (.agg a) (.agg b)=(do pure (.bool (←Op.equal t (.agg a) (.agg b)))):=rfl;have e2:binOp .neq t (.agg a) (.agg b)=(do pure (.bool (!(←Op.equal t (.agg a) (.agg b))))):=rfl;rw[Sem.run_bind,Qmx h,Result.andThen_ok,e2];have:=he w;rw[e1,Sem.run_bind] at this;rw[Sem.run_bind];cases hq:(Op.equal t (.agg a) (.agg b)).run P w with
 | ok v w' =>
  rw[hq] at this;simp only[Result.andThen_ok,Sem.run_pure,Result.ok.injEq,Value.bool.injEq] at this ⊢;exact⟨by rw[this.1],this.2⟩
 | halt x w'=>rw[hq] at this;cases this
end
end Tr
namespace Go.Proofs.YtmimficdpfmfgaaGreat
open Go.RowKit Tr Proofs.Tryz
def Ksp(w:World)(n1 m1:Bool)(s1 t1:ByteArray)(r:Bool)(hr:r=true↔Value.agg #[.bool n1,.string s1]=.agg #[.bool m1,.string t1]) :
  (binOp .eql 24 (.agg #[.bool n1,.string s1]) (.agg #[.bool m1,.string t1])).run prog w=.ok (.bool r) w:=by
 simp only[Value.agg.injEq,Array.mk.injEq,List.cons.injEq,Value.bool.injEq,Value.string.injEq,and_true] at hr
 go_simp
 simp only[Qtk];cases r
 .have hn:¬(n1=m1/\s1=t1):=fun h=>by cases hr.2 h
  repeat' split
  all_goals first
   | rfl
   | (exfalso;apply hn;refine⟨?_,?_⟩<;>assumption)
 .obtain⟨rfl,rfl⟩:=hr.1 rfl;simp
def Kyp{x y:Int}(h:Qdu x=Qdu y):x=y:=by
 unfold Qdu at h;simp only[Value.agg.injEq,Array.mk.injEq,List.cons.injEq,Value.bool.injEq,Value.string.injEq,and_true] at h;have h2:=Qnn h.2
 by_cases hx:x<0<;>by_cases hy:y<0<;>simp[hx,hy] at h<;>omega
def Kpy(n1 n2:Bool)(s1 s2:ByteArray)(r:Bool)(hr:r=decide (s1.size<=1024/\s2.size<=1024)):PureC prog 132 [.agg #[.bool n1,.string s1,.bool n2,.string s2]] (.bool r):=by
 by_cases h1:s1.size<=1024
 .exact Qaw (hp:=false) (L:=[gx (.bool n1),gx (.string s1),gx (.bool n2),gx (.string s2),gx (.int .i64 (s1.size:Nat)),gx (.int .i64 (s2.size:Nat)),gx (.bool r)]) Qae Qai []
   [Qgb .leq 3 .i64 (.sym 4) (.lit (.int .i64 1024)) _ _ true (by simp[Qil];omega) rfl rfl,gb .leq 3 (.c (.sym 5)) (.c (.lit (.int .i64 1024))) (.sym 6) (Qxu .leq _ .i64 _ _ r (by simp[Qil,hr,h1];omega)) rfl rfl rfl]
   [Khl 9 Tryz.underlying9 (.sym 1) s1 (.sym 4) rfl rfl rfl,Khl 9 Tryz.underlying9 (.sym 3) s2 (.sym 5) rfl rfl rfl]
   func132 100 [.row [.sym 0,.sym 1,.sym 2,.sym 3]] (.r (.c (.sym 6))) kR rfl rfl
 .have hr':r=false:=by rw[hr];simp[h1]
  subst hr';exact Qaw (hp:=false) (L:=[gx (.bool n1),gx (.string s1),gx (.bool n2),gx (.string s2),gx (.int .i64 (s1.size:Nat))]) Qae Qai []
   [Qgb .leq 3 .i64 (.sym 4) (.lit (.int .i64 1024)) _ _ false (by simp[Qil];omega) rfl rfl]
   [Khl 9 Tryz.underlying9 (.sym 1) s1 (.sym 4) rfl rfl rfl]
   func132 100 [.row [.sym 0,.sym 1,.sym 2,.sym 3]] (.r (.c (.lit (.bool false)))) kR rfl rfl
def Qtr{neg:Bool}{s:ByteArray}(h:Qka neg s):neg=decide (sgn neg (Qjp s)<0)/\s=Qcg (sgn neg (Qjp s)).natAbs:=by
 have:=h.enc;unfold Qdu at this;simpa using this
def Ktv(z:Int):Qka (decide (z<0)) (Qcg z.natAbs):=by
 refine⟨fun h0=>?_,Qge _⟩;have h1:=(Qki (Qge z.natAbs)).2 h0;rw[Qdy] at h1;simp;omega
def WL.str{n:Nat}{s:ByteArray}{k:Nat}(h:Qjp s=n)(hs:s.size<=k):WL n k:=axw (Qts h) hs
def Ugn (n1 n2 : Bool) (s1 s2 : ByteArray) (h1 : s1.size ≤ 536870912) (h2 : s2.size ≤ 536870912) (r : Bool) (hr : r = true ↔ ∃ q : Rat,Value.agg #[.bool n1,.string s1,.bool n2,.string s2] = Qew q) :
    PureC prog 154 [.agg #[.bool n1,.string s1,.bool n2,.string s2]] (.bool r):=by
  by_cases w1:Qka n1 s1
  · by_cases w2:Qka n2 s2
    · obtain⟨e1,e2⟩:=Qtr w1;obtain⟨e3,e4⟩:=Qtr w2;have la:WL (sgn n1 (Qjp s1)).natAbs 536870912:=by rw[Qdi];exact WL.str rfl h1
      have lb:WL (sgn n2 (Qjp s2)).natAbs 536870912:=by rw[Qdi];exact WL.str rfl h2
      obtain⟨a,ha⟩:∃ a,a=sgn n1 (Qjp s1):=⟨_,rfl⟩
      obtain⟨b,hb⟩:∃ b,b=sgn n2 (Qjp s2):=⟨_,rfl⟩
      rw[<-ha] at e1 e2 la;rw[<-hb] at e3 e4 lb;clear ha hb;subst e1;subst e2;subst e3;subst e4;have hq:(∃ q:Rat,Value.agg #[.bool (decide (a<0)),.string (Qcg a.natAbs),.bool (decide (b<0)),.string (Qcg b.natAbs)]=Qew q)↔0<b/\Nat.gcd a.natAbs b.natAbs=1:=by
        constructor
        · rintro⟨q,hq⟩;obtain⟨k1,k2,k3,k4⟩:=Qdd hq;have k5:=Qnn k4;have k6:=Qnn k2;have k7:=q.den_nz;have k8:=q.reduced;have k9:¬b<0:=by simpa using k3
          refine⟨by omega,?_⟩;rw[k5,k6];exact k8
        · rintro⟨k1,k2⟩;refine⟨⟨a,b.natAbs,by omega,k2⟩,?_⟩;unfold Qew;have:¬b<0:=by omega
          simp[this]
      rw[hq] at hr;have f1:=Qtd (decide (a<0)) (Qcg a.natAbs) true (by simp[w1]);have f2:=Qtd (decide (b<0)) (Qcg b.natAbs) true (by simp[w2])
      by_cases hb:0<b
      · have ho:=sof 1 (by decide) (by decide);have hg:=Uya a b la lb;obtain⟨g,hgd⟩:∃ g,g=Nat.gcd a.natAbs b.natAbs:=⟨_,rfl⟩
        rw[<-hgd] at hg hr;exact Qaw (hp:=false) (L:=cz a++cz b++cz (g:Int)++cz 1++[gx (.bool r),gx (.int .i64 b.sign)]) Qae Qai
          [gp 233 [.row (zA 0)] (.r (.c (.lit (.bool true)))) eo233 f1 rfl rfl,gp 233 [.row (zA 2)] (.r (.c (.lit (.bool true)))) eo233 f2 rfl rfl,gp 193 [.row (zA 2)] (.r (.c (.sym 9))) eo193 (Qyp b) rfl rfl,gp 234 [.row (zA 0),.row (zA 2)] (.r (.row (zA 4))) eo234 hg rfl rfl,gp 145 [.c (.lit (.int .i64 1))] (.r (.row (zA 6))) eo145 ho rfl rfl]
          [Qgb .leq 3 .i64 (.sym 9) (.lit (.int .i64 0)) _ _ false (by rw[axn hb];rfl) rfl rfl,gb .eql 24 (.row (zA 4)) (.row (zA 6)) (.sym 8) (Qof kR (fun w=>Ksp w _ _ _ _ r (by
             rw[hr];constructor
             · rintro⟨_,h⟩;rw[h];rfl
             · intro h;have:=Kyp (x:=(g:Int)) (y:=1) h;exact⟨hb,by omega⟩))) rfl rfl rfl] []
          func154 100 [.row (zA 0++zA 2)] (.r (.c (.sym 8))) kR rfl rfl
      · have hr':r=false:=by cases r;rfl;exact absurd (hr.1 rfl).1 hb
        subst hr';exact Qaw (hp:=false) (L:=cz a++cz b++[gx (.int .i64 b.sign)]) Qae Qai
          [gp 233 [.row (zA 0)] (.r (.c (.lit (.bool true)))) eo233 f1 rfl rfl,gp 233 [.row (zA 2)] (.r (.c (.lit (.bool true)))) eo233 f2 rfl rfl,gp 193 [.row (zA 2)] (.r (.c (.sym 4))) eo193 (Qyp b) rfl rfl]
          [Qgb .leq 3 .i64 (.sym 4) (.lit (.int .i64 0)) _ _ true (by
            have:b.sign<=0:=by rcases Int.lt_trichotomy b 0 with h|h|h<;>first|(rw[axo h];decide)|(subst h;decide)|omega
            simp[Qil,this]) rfl rfl] []
          func154 100 [.row (zA 0++zA 2)] (.r (.c (.lit (.bool false)))) kR rfl rfl
    · have hr' : r = false := by
        cases r;rfl;obtain⟨q,e⟩:=hr.1 rfl;obtain⟨k1,k2,k3,k4⟩:=Qdd e;exfalso;apply w2;have:=Ktv (q.den:Int);rw[show decide ((q.den:Int)<0)=false by simp] at this;rw[k3,k4];simpa using this
      subst hr';exact Qaw (hp:=false) (L:=[gx (.bool n1),gx (.string s1),gx (.bool n2),gx (.string s2)]) Qae Qai
        [gp 233 [.row (zA 0)] (.r (.c (.lit (.bool true)))) eo233 (Qtd n1 s1 true (by simp[w1])) rfl rfl,gp 233 [.row (zA 2)] (.r (.c (.lit (.bool false)))) eo233 (Qtd n2 s2 false (by simp[w2])) rfl rfl] [] []
        func154 100 [.row (zA 0++zA 2)] (.r (.c (.lit (.bool false)))) kR rfl rfl
  · have hr' : r = false := by
      cases r;rfl;obtain⟨q,e⟩:=hr.1 rfl;obtain⟨k1,k2,k3,k4⟩:=Qdd e;exfalso;apply w1;rw[k1,k2];exact Ktv _
    subst hr';exact Qaw (hp:=false) (L:=[gx (.bool n1),gx (.string s1),gx (.bool n2),gx (.string s2)]) Qae Qai
      [gp 233 [.row (zA 0)] (.r (.c (.lit (.bool false)))) eo233 (Qtd n1 s1 false (by simp[w1])) rfl rfl] [] []
      func154 100 [.row (zA 0++zA 2)] (.r (.c (.lit (.bool false)))) kR rfl rfl
def Uvx (n1 n2 : Bool) (s1 s2 : ByteArray) (r : Bool) (hr : r = true ↔ Qey (.agg #[.bool n1,.string s1,.bool n2,.string s2])) :
    PureC prog 57 [.agg #[.bool n1,.string s1,.bool n2,.string s2]] (.bool r):=by
  by_cases h:s1.size<=1024/\s2.size<=1024
  · have hf := Ugn n1 n2 s1 s2 (by omega) (by omega) r (by
      rw[hr];constructor
      · rintro⟨q,e,_⟩;exact⟨q,e⟩
      · rintro⟨q,e⟩;obtain⟨k1,k2,k3,k4⟩:=Qdd e;exact⟨q,e,by rw[<-k2];exact h.1,by rw[<-k4];exact h.2⟩)
    exact Qaw (hp:=false) (L:=[gx (.bool n1),gx (.string s1),gx (.bool n2),gx (.string s2),gx (.bool r)]) Qae Qai
      [gp 132 [.row (zA 0++zA 2)] (.r (.c (.lit (.bool true)))) eo132 (Kpy n1 n2 s1 s2 true (by simp[h])) rfl rfl,gp 154 [.row (zA 0++zA 2)] (.r (.c (.sym 4))) eo154 hf rfl rfl] [] []
      func57 100 [.row (zA 0++zA 2)] (.r (.c (.sym 4))) kR rfl rfl
  · have hr' : r = false := by
      cases r;rfl;obtain⟨q,e,k⟩:=hr.1 rfl;obtain⟨k1,k2,k3,k4⟩:=Qdd e;exfalso;apply h;rw[k2,k4];exact k
    subst hr';exact Qaw (hp:=false) (L:=[gx (.bool n1),gx (.string s1),gx (.bool n2),gx (.string s2)]) Qae Qai
      [gp 132 [.row (zA 0++zA 2)] (.r (.c (.lit (.bool false)))) eo132 (Kpy n1 n2 s1 s2 false (by simp[h])) rfl rfl] [] []
      func57 100 [.row (zA 0++zA 2)] (.r (.c (.lit (.bool false)))) kR rfl rfl
def Kxq(base:Nat)(q:Rat):Qcq:=fun v w A=>∃ m C,v=.pointer (some ⟨m,0,none⟩)/\base<=m/\¬A m/\w.heap[m]?=some (.cells C 232 (0,0))/\C.size=4/\NoW (.cells C 232 (0,0))/\Qbk q v w A
def Kxq.keeps(base:Nat)(q:Rat):(Kxq base q).Keeps:=by
 intro v w w' A A' hs hk ⟨m,C,h1,h2,h3,h4,h5,h6,h7⟩;obtain⟨k1,k2⟩:=hk m (axa.1 h4).1 h3;exact⟨m,C,h1,h2,k2,k1.trans h4,h5,h6,Qbk.keeps q _ _ _ _ _ hs hk h7⟩
def Qlm.ratB{m base:Nat}{q:Rat}{w w':World}(h:Qlm m q w w'){A0 A:Nat->Prop}(hA0:Rcv A0 w)(hA:Rcv A w)(hm:base<=m)(h0:∀ b,A0 b->b<base):Qbc A0 (Kxq base q) (.pointer (some ⟨m,0,none⟩)) w' (fun b=>A b/\b≠m):=by
 have hr:=h.ratU hA0 hA hm h0;obtain⟨_,s1,s2,h2,h3,h4⟩:=h;refine⟨m,_,rfl,hm,?_,h2,rfl,?_,hr⟩
 .rintro(h|h)
  .exact h.2 rfl
  .have:=h0 m h;omega
 .obtain⟨p1,c1,rfl,_⟩:=h3;obtain⟨p2,c2,rfl,_⟩:=h4;intro cs T fr e i k x;cases e;rcases i with _|_|_|_|i<;>simp
def CP(a b:Rat):Qcq:=fun v w A=>∃ u1 u2,v=.agg #[u1,u2]/\Qbk a u1 w A/\Qbk b u2 w A
def CP.keeps(a b:Rat):(CP a b).Keeps:=fun v w w' A A' hs hk ⟨u1,u2,h1,h2,h3⟩=>⟨u1,u2,h1,Qbk.keeps a _ _ _ _ _ hs hk h2,Qbk.keeps b _ _ _ _ _ hs hk h3⟩
def CP.below{a b:Rat}{v:Value}{w w':World}{A:Nat->Prop}(h:CP a b v w A)(hb:Below w.heap.size w w'):CP a b v w' A:=Qcq.Keeps.below (CP.keeps a b) hb h
def Qja{X:World}{o:Obj}{n i:Nat}(h:n<X.heap.size):(X.alloc o).cell? ⟨n,i,none⟩=X.cell? ⟨n,i,none⟩ :=
 ((Below.refl X.heap.size X).alloc lr o).cell (p:=⟨n,i,none⟩) h
def Qkl(X:World)(a:Addr)(v:Value):(X.setCell a v).heap.size=X.heap.size:=by simp[World.setCell]
def Khk(a b:Rat):Value:=.agg #[.bool (decide (a.num<0)),.string (Qcg a.num.natAbs),.bool false,.string (Qcg a.den),.bool (decide (b.num<0)),.string (Qcg b.num.natAbs),.bool false,.string (Qcg b.den)]
def Kaz(w:World)(x0 x1 x2 x3 x4 x5 x6 x7:Value)(T:TypeId){w1:World}(h:Below (w.alloc (.cells #[x0,x1,x2,x3,x4,x5,x6,x7] T)).heap.size (w.alloc (.cells #[x0,x1,x2,x3,x4,x5,x6,x7] T)) w1) :
  w1.cell? ⟨w.heap.size,0,none⟩=some x0/\w1.cell? ⟨w.heap.size,1,none⟩=some x1/\w1.cell? ⟨w.heap.size,2,none⟩=some x2/\w1.cell? ⟨w.heap.size,3,none⟩=some x3/\w1.cell? ⟨w.heap.size,4,none⟩=some x4/\w1.cell? ⟨w.heap.size,5,none⟩=some x5/\w1.cell? ⟨w.heap.size,6,none⟩=some x6/\w1.cell? ⟨w.heap.size,7,none⟩=some x7:=by
 have e:=(h.block w.heap.size (by simp)).trans (heap_alloc_new w _);simp[World.cell?,e]
def Qpr(w:World)(x0 x1 x2 x3 x4 x5 x6 x7:Value)(T:TypeId){w1:World}(h:Below (w.alloc (.cells #[x0,x1,x2,x3,x4,x5,x6,x7] T)).heap.size (w.alloc (.cells #[x0,x1,x2,x3,x4,x5,x6,x7] T)) w1) :
  w1.frozen? ⟨w.heap.size,0,none⟩=false/\w1.frozen? ⟨w.heap.size,1,none⟩=false/\w1.frozen? ⟨w.heap.size,2,none⟩=false/\w1.frozen? ⟨w.heap.size,3,none⟩=false/\w1.frozen? ⟨w.heap.size,4,none⟩=false/\w1.frozen? ⟨w.heap.size,5,none⟩=false/\w1.frozen? ⟨w.heap.size,6,none⟩=false/\w1.frozen? ⟨w.heap.size,7,none⟩=false:=by
 have e:=(h.block w.heap.size (by simp)).trans (heap_alloc_new w _);simp[World.frozen?,e]
def Kxi(i j:Int)(hi0:-9223372036854775808<=i)(hi1:i<9223372036854775808)(hj0:-9223372036854775808<=j)(hj1:j<9223372036854775808)(w:World) :
  Calls prog 73 #[.int .i64 i,.int .i64 j] w fun e w'=>e=.returned (Khk i j)/\Below w.heap.size w w':=by
 have hal:Below w.heap.size w (w.alloc (.cells #[.bool false,.string ⟨#[]⟩,.bool false,.string ⟨#[]⟩,.bool false,.string ⟨#[]⟩,.bool false,.string ⟨#[]⟩] 28)):=br.alloc lr _;have H1:=hid (fun w=>Kgi i hi0 hi1 w);have H2:=hid (fun w=>Kgi j hj0 hj1 w);obtain⟨b1,t1,t2,he1⟩:=Qxm (i:Rat);obtain⟨b2,t3,t4,he2⟩:=Qxm (j:Rat);have HE:=hid (show Khk i j=.agg #[.bool b1,.string t1,.bool false,.string t2,.bool b2,.string t3,.bool false,.string t4] by
  unfold Qew at he1 he2;simp only[Value.agg.injEq,Array.mk.injEq,List.cons.injEq,Value.bool.injEq,Value.string.injEq,and_true] at he1 he2;unfold Khk;rw[he1.1,he1.2.1,he1.2.2.2,he2.1,he2.2.1,he2.2.2.2])
 rw[he1] at H1;rw[he2] at H2;have HA:=hid hal;clear he1 he2 hal
 go_enter func73,Tryz.ntmps73
 go_wp2_with fail
 refine(H1.out _).mono ?_;rintro e w1 ⟨rfl,hb1⟩
 go_wp2_with fail
 refine(H2.out _).mono ?_;rintro e w2 ⟨rfl,hb2⟩;have hb12:=hb1.trans (hb2.mono hb1.size);obtain⟨c0,c1,c2,c3,c4,c5,c6,c7⟩:=Kaz w _ _ _ _ _ _ _ _ _ hb12;obtain⟨f0,f1,f2,f3,f4,f5,f6,f7⟩:=Qpr w _ _ _ _ _ _ _ _ _ hb12;have HB:=hid (HA.out.trans (hb12.mono (by simp)));clear hb1 hb2 hb12
 go_wp2_with fail
 refine bodyPost_ret (v:=.agg #[.bool b1,.string t1,.bool false,.string t2,.bool b2,.string t3,.bool false,.string t4]) (by simp[results,Tryz.results73,go_sem,c0,c1,c2,c3,c4,c5,c6,c7]) rfl ⟨by rw[HE.out],?_⟩;exact((((((((HB.out.setCell (p:=⟨w.heap.size,0,none⟩) lr _).setCell (p:=⟨w.heap.size,1,none⟩) lr _).setCell (p:=⟨w.heap.size,2,none⟩) lr _).setCell (p:=⟨w.heap.size,3,none⟩) lr _).setCell (p:=⟨w.heap.size,4,none⟩) lr _).setCell (p:=⟨w.heap.size,5,none⟩) lr _).setCell (p:=⟨w.heap.size,6,none⟩) lr _).setCell (p:=⟨w.heap.size,7,none⟩) lr _)
def zG:Value:=.agg #[.bool false,.string ⟨#[]⟩,.bool false,.string ⟨#[]⟩,.bool false,.string ⟨#[]⟩,.bool false,.string ⟨#[]⟩]
def Kzk(a b:Rat):Value:=if Qag a/\Qag b then Khk a b else zG
def Qyb(a b:Rat):Int:=if Qag a/\Qag b then 0 else 4
def Kbi(q:Rat):∃ b1 t1 b2 t2,Khz q=.agg #[.bool b1,.string t1,.bool b2,.string t2]:=by
 unfold Khz
 split
 .exact⟨_,_,_,_,rfl⟩
 .exact⟨_,_,_,_,rfl⟩
def Kbh{q:Rat}:Klr q=0↔Qag q:=by unfold Klr;split<;>simp[*]
def Uhq{a b:Rat}(ha:Qag a)(hb:Qag b){b1 b2 b3 b4:Bool}{t1 t2 t3 t4:ByteArray}(e1:Khz a=.agg #[.bool b1,.string t1,.bool b2,.string t2])(e2:Khz b=.agg #[.bool b3,.string t3,.bool b4,.string t4]):Kzk a b=.agg #[.bool b1,.string t1,.bool b2,.string t2,.bool b3,.string t3,.bool b4,.string t4]:=by
 unfold Khz at e1 e2;rw[if_pos ha] at e1;rw[if_pos hb] at e2;unfold Qew at e1 e2;simp only[Value.agg.injEq,Array.mk.injEq,List.cons.injEq,Value.bool.injEq,Value.string.injEq,and_true] at e1 e2;unfold Kzk;rw[if_pos ⟨ha,hb⟩];unfold Khk;rw[e1.1,e1.2.1,e1.2.2.1,e1.2.2.2,e2.1,e2.2.1,e2.2.2.2];rw[e1.2.2.1] at e2;rw[e2.2.2.1]
def PP(a b c d:Rat):Qcq:=fun v w A=>∃ u1 u2 u3 u4,v=.agg #[u1,u2,u3,u4]/\Qbk a u1 w A/\Qbk b u2 w A/\Qbk c u3 w A/\Qbk d u4 w A
def PP.keeps(a b c d:Rat):(PP a b c d).Keeps:=fun v w w' A A' hs hk ⟨u1,u2,u3,u4,h0,h1,h2,h3,h4⟩=>⟨u1,u2,u3,u4,h0,Qbk.keeps a _ _ _ _ _ hs hk h1,Qbk.keeps b _ _ _ _ _ hs hk h2,Qbk.keeps c _ _ _ _ _ hs hk h3,Qbk.keeps d _ _ _ _ _ hs hk h4⟩
structure QC where
 re:Rat
 im:Rat
 deriving DecidableEq
namespace QC
instance:Mul QC:=⟨fun x y=>⟨x.re*y.re-x.im*y.im,x.re*y.im+x.im*y.re⟩⟩
instance:Add QC:=⟨fun x y=>⟨x.re+y.re,x.im+y.im⟩⟩
instance:Sub QC:=⟨fun x y=>⟨x.re-y.re,x.im-y.im⟩⟩
end QC
def ZL(z:QC)(k:Nat):Prop:=RL z.re k/\RL z.im k
def ZL.mono{z:QC}{k l:Nat}(h:ZL z k)(hl:k<=l):ZL z l:=⟨h.1.mono hl,h.2.mono hl⟩
def Qct{x y:QC}{k l:Nat}(hx:ZL x k)(hy:ZL y l):ZL (x*y) (k+l+(k+l)+1):=⟨Qcb (Qad hx.1 hy.1) (Qad hx.2 hy.2),Qaz (Qad hx.1 hy.2) (Qad hx.2 hy.1)⟩
def Qht{x y:QC}{k l:Nat}(hx:ZL x k)(hy:ZL y l):ZL (x+y) (k+l+1):=⟨Qaz hx.1 hy.1,Qaz hx.2 hy.2⟩
def Qec{x y:QC}{k l:Nat}(hx:ZL x k)(hy:ZL y l):ZL (x-y) (k+l+1):=⟨Qcb hx.1 hy.1,Qcb hx.2 hy.2⟩
def CQ(z:QC):Qcq:=CP z.re z.im
def CQ.keeps(z:QC):(CQ z).Keeps:=CP.keeps _ _
def PQ(x y:QC):Qcq:=PP x.re x.im y.re y.im
def PQ.keeps(x y:QC):(PQ x y).Keeps:=PP.keeps _ _ _ _
end Go.Proofs.YtmimficdpfmfgaaGreat
namespace Go.Proofs.YtmimficdpfmfgaaGreat
open Go.RowKit Tr
def Qiw(a:Rat):0<=a*a:=by
 rcases Rat.nonneg_total a with h|h
 .exact Rat.mul_nonneg h h
 .have:=Rat.mul_nonneg h h;rwa[Rat.neg_mul,Rat.mul_neg,Rat.neg_neg] at this
def Ktd{a b:Rat}(h:a*a+b*b=0):a=0:=by
 have h1:-(a*a)=b*b:=by
  have:-(a*a)+(a*a+b*b)=-(a*a)+0:=by rw[h]
  rw[<-Rat.add_assoc,Rat.neg_add_cancel,Rat.zero_add,Rat.add_zero] at this;exact this.symm
 have h2:=Rat.nonneg_antisymm (Qiw a) (by rw[h1];exact Qiw b);rcases axt.1 h2 with h|h<;>exact h
def Kbc{a b:Rat}:a*a+b*b=0↔a=0/\b=0:=by
 constructor
 .intro h;exact⟨Ktd h,Ktd (by rw[Rat.add_comm];exact h)⟩
 .rintro⟨rfl,rfl⟩;decide +kernel
instance:Div QC:=⟨fun x y=>⟨(x.re*y.re-x.im*(-y.im))*(y.re*y.re+y.im*y.im)⁻¹,(x.re*(-y.im)+x.im*y.re)*(y.re*y.re+y.im*y.im)⁻¹⟩⟩
def Umn{x y:QC}{k l:Nat}(h0:y.re*y.re+y.im*y.im≠0)(hx:ZL x k)(hy:ZL y l):ZL (x/y) (k+l+(k+l)+1+(l+l+(l+l)+1)):=by
 have li:RL (y.re*y.re+y.im*y.im)⁻¹ (l+l+(l+l)+1):=Qca h0 (Qaz (Qad hy.1 hy.1) (Qad hy.2 hy.2));exact⟨Qad (Qcb (Qad hx.1 hy.1) (Qad hx.2 (Qah hy.2))) li,Qad (Qaz (Qad hx.1 (Qah hy.2)) (Qad hx.2 hy.1)) li⟩
def Qlq(z:QC):Value:=Khk z.re z.im
abbrev Pt:=Option QC
def Qaj(z:QC):Prop:=Qag z.re/\Qag z.im
def Qbu{q:Rat}(h:Qag q):RL q 1024:=by
 refine⟨?_,?_⟩
 .exact axw (Qts (Qdy _)) h.1
 .exact axw (Qts (Qdy _)) h.2
def Umi:RL 1 1024:=(Qml 1 (by decide) (by decide)).mono (by decide)
def Qab{z:QC}(h:Qaj z):ZL z 1024:=⟨Qbu h.1,Qbu h.2⟩
