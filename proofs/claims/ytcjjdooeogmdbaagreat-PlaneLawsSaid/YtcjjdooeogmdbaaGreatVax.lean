/- Laws. -/
import Derived.Test.YtcjjdooeogmdbaaGreatVaw
set_option linter.all false
set_option maxHeartbeats 4000000
set_option maxRecDepth 100000
open Go.Lib (hid)
namespace Go.Proofs.YtcjjdooeogmdbaaGreat
open Go.RowKit Tr Proofs.Tryz
def Qxx(w:World)(u1 u2 u3 u4:Value)(A:Nat->Prop)(hA:Rcv A w) :
  ∃ W,Hid (W=((w.alloc (.cells #[u1,u2] 96)).alloc (.cells #[u3,u4] 96)).alloc (.cells #[.pointer none,.pointer none] 96)/\Below w.heap.size w W/\Rcv (Mo A (w.heap.size+2)) W/\∀ w1,Below W.heap.size W w1->w1.cell? ⟨w.heap.size+2,0,none⟩=some (.pointer none)/\w1.cell? ⟨w.heap.size+2,1,none⟩=some (.pointer none)/\w1.frozen? ⟨w.heap.size+2,0,none⟩=false/\w1.frozen? ⟨w.heap.size+2,1,none⟩=false)/\w.heap.size<W.heap.size/\w.heap.size+1<W.heap.size/\W.cell? ⟨w.heap.size,0,none⟩=some u1/\W.cell? ⟨w.heap.size,1,none⟩=some u2/\W.cell? ⟨w.heap.size+1,0,none⟩=some u3/\W.cell? ⟨w.heap.size+1,1,none⟩=some u4:=by
 obtain⟨w1,hw1⟩:∃ w1,w1=w.alloc (.cells #[u1,u2] 96):=⟨_,rfl⟩
 have hz1:w1.heap.size=w.heap.size+1:=by rw[hw1];simp
 obtain⟨w2,hw2⟩:∃ w2,w2=w1.alloc (.cells #[u3,u4] 96):=⟨_,rfl⟩
 have hz2:w2.heap.size=w.heap.size+2:=by rw[hw2];simp[hz1]
 have hb01:Below w.heap.size w w1:=by rw[hw1];exact br.alloc lr _
 have hb12:Below w1.heap.size w1 w2:=by rw[hw2];exact br.alloc lr _
 have hb23:Below w2.heap.size w2 (w2.alloc (.cells #[.pointer none,.pointer none] 96)):=br.alloc lr _;have hb13:=hb12.trans (hb23.mono hb12.size);have hb:Below w.heap.size w (w2.alloc (.cells #[.pointer none,.pointer none] 96)):=hb01.trans (hb13.mono hb01.size);obtain⟨e0,e1,_⟩:=Qid w u1 u2 96 (by rw[<-hw1];exact hb13);obtain⟨e2,e3,_⟩:=Qid w1 u3 u4 96 (by rw[<-hw2];exact hb23);have hn:=heap_alloc_new w2 (.cells #[.pointer none,.pointer none] 96 (0,0));rw[hz2] at hn;rw[hz1] at e2 e3;refine⟨w2.alloc (.cells #[.pointer none,.pointer none] 96),hid ⟨by rw[hw2,hw1],hb,fun b h=>h.elim (fun h=>(hA.below hb) b h) (fun h=>by subst h;exact⟨_,hn,Qyn _ _ ⟨_,rfl⟩ ⟨_,rfl⟩ _⟩),fun w1 h=>?_⟩,by simp;omega,by simp;omega,e0,e1,e2,e3⟩;have:=Qid w2 (.pointer none) (.pointer none) 96 h;rw[hz2] at this;exact this
def Kqn(a b:Rat)(v:Value)(A:Nat->Prop)(w:World)(hv:Qir a b v w A)(hA:Rcv A w)(k:Nat)(hla:RL a k)(hlb:RL b k)(hkl:k+k+(k+k)<137438953472) :
  Calls prog 112 #[v] w fun e w'=>∃ u,e=.returned u/\Below w.heap.size w w'/\Qbl (a*a+b*b) u w' A:=by
 obtain⟨u1,u2,rfl,h1,h2⟩:=hv;obtain⟨W,hW⟩:∃ W,W=w.alloc (.cells #[u1,u2] 96):=⟨_,rfl⟩
 obtain⟨e0,e1,_⟩:=Qid w u1 u2 96 br;have hb:Below w.heap.size w W:=by rw[hW];exact br.alloc lr _
 have hs2:w.heap.size<W.heap.size:=by rw[hW];simp
 rw[<-hW] at e0 e1;have HV:=hid (And.intro hW (And.intro hb (hA.below hb)));have h1:=Qbd.start (Qfe.keeps a) (h1.below hb);have h2:=Qbd.start (Qfe.keeps b) (h2.below hb);clear hA hW hb
 go_enter func112,Tryz.ntmps112
 go_wp2_with fail
 rw[<-HV.out.1];refine Qat [(.new zR,[]),(.lit,[]),(.lit,[]),(.lit,[]),(.lit,[]),(.val,[]),(.lit,[]),(.lit,[]),(.lit,[]),(.lit,[]),(.val,[]),(.on 0 zR,[5,10])]
  (Qfv [(5,Qbd A (Qbl (a*a))),(10,Qbd A (Qbl (b*b))),(11,Qbd A (Qbl (a*a+b*b)))]) (by kernel_rfl) ?_ ?_ (by simp[Qcy]) (by simp) (by kernel_rfl)
 .exact Qbc (by simp only[List.mem_cons,List.not_mem_nil,or_false];rintro p (rfl|rfl|rfl)<;>exact Qbd.keeps (Qbl.keeps _))
 .refine⟨fun f w1=>by go_simp,?_⟩;refine⟨_,fun f w1 h1=>by(have d0:=ct h1 hs2 e0;have d1:=ct h1 hs2 e1;go_simp;rfl),?_⟩;refine⟨_,fun f w1 h1=>by(have d0:=ct h1 hs2 e0;have d1:=ct h1 hs2 e1;go_simp;rfl),?_⟩;refine⟨_,fun f w1 h1=>by(have d0:=ct h1 hs2 e0;have d1:=ct h1 hs2 e1;go_simp;rfl),?_⟩;refine⟨_,fun f w1 h1=>by(have d0:=ct h1 hs2 e0;have d1:=ct h1 hs2 e1;go_simp;rfl),?_⟩;simp only[Act.put,nrA,nrB,nrC,Nat.reduceAdd];refine⟨fun f w1 A1 k1 hA hN hd K hK=>by
   go_simp
   refine(Qhw a a u1 u1 (Un A A1) w1 (Qdp (Qbd.keeps (Qfe.keeps _)) h1 k1 hN) (Qdp (Qbd.keeps (Qfe.keeps _)) h1 k1 hN) (Qfj (HV.out.2.2.below (br.drew.trans k1)) hA) k k hla hla (by omega)).mono ?_;rintro e w' ⟨v,rfl,hb,hr⟩;exact hK _ _ hb hr,?_⟩
  refine⟨_,fun f w1 h1=>by(have d0:=ct h1 hs2 e0;have d1:=ct h1 hs2 e1;go_simp;rfl),?_⟩;refine⟨_,fun f w1 h1=>by(have d0:=ct h1 hs2 e0;have d1:=ct h1 hs2 e1;go_simp;rfl),?_⟩;refine⟨_,fun f w1 h1=>by(have d0:=ct h1 hs2 e0;have d1:=ct h1 hs2 e1;go_simp;rfl),?_⟩;refine⟨_,fun f w1 h1=>by(have d0:=ct h1 hs2 e0;have d1:=ct h1 hs2 e1;go_simp;rfl),?_⟩;simp only[Act.put,nrA,nrB,nrC,Nat.reduceAdd];refine⟨fun f w1 A1 k1 hA hN hd K hK=>by
   go_simp
   refine(Qhw b b u2 u2 (Un A A1) w1 (Qdp (Qbd.keeps (Qfe.keeps _)) h2 k1 hN) (Qdp (Qbd.keeps (Qfe.keeps _)) h2 k1 hN) (Qfj (HV.out.2.2.below (br.drew.trans k1)) hA) k k hlb hlb (by omega)).mono ?_;rintro e w' ⟨v,rfl,hb,hr⟩;exact hK _ _ hb hr,?_⟩
  simp only[Act.put,nrA,nrB,nrC,Nat.reduceAdd];refine⟨fun f w1 A1 m1 k1 hA hN hAm hm0 e hz hd K hK=>by
   simp only[e] at hK ⊢;have i1:Qbl (a*a) (f 5) w1 (Un A A1):=hd 5 (by simp);have i2:Qbl (b*b) (f 10) w1 (Un A A1):=hd 10 (by simp)
   go_simp
   refine(Qlu m1 _ _ _ _ _ _ w1 hz (by decide) Qcy i1 i2 (k+k) (k+k) (Qam hla hla) (Qam hlb hlb) (by omega)).mono ?_;rintro e w' ⟨rfl,hp⟩;exact hK _ w' hp.1 (hp.ratU (HV.out.2.2.below (br.drew.trans k1)) hA hm0 (fun b hb=>HV.out.2.2.lt hb)),?_⟩
  intro f w1 k1 hF;have i0:Qbl (a*a) (f 5) w1 (A):=Qbd.done (Qbl.keeps _) hF.1.1.2;have i1:Qbl (b*b) (f 10) w1 (A):=Qbd.done (Qbl.keeps _) hF.1.2;have i2:Qbl (a*a+b*b) (f 11) w1 (A):=Qbd.done (Qbl.keeps _) hF.2;clear hF;simp only[Act.put,nrA,nrB,nrC];generalize f 5=v0 at *
  generalize f 10=v1 at *
  generalize f 11=v2 at *
  have hb1:Below W.heap.size W w1:=br.drew.trans k1;have hbw:=HV.out.2.1.trans (hb1.mono HV.out.2.1.size);have HE:=hid (And.intro i2 hbw);clear e0 e1 h1 h2 i0 i1 i2 hbw hb1 k1
  go_wp2_with fail
  go_ret
  exact⟨v2,rfl,HE.out.2,HE.out.1⟩
def Kxv(a b c d:Rat)(v v':Value)(A:Nat->Prop)(w:World)(hv:Qir a b v w A)(hv':Qir c d v' w A)(hA:Rcv A w)(k l:Nat)(hla:RL a k)(hlb:RL b k)(hlc:RL c l)(hld:RL d l)(hkl:k+l+(k+l)<137438953472) :
  Calls prog 114 #[v,v'] w fun e w'=>∃ u,e=.returned u/\Below w.heap.size w w'/\Qir (a-c) (b-d) u w' A:=by
 obtain⟨u1,u2,rfl,h1,h2⟩:=hv;obtain⟨u3,u4,rfl,h3,h4⟩:=hv';obtain⟨W,HV,hs1,hs2,e0,e1,e2,e3⟩:=Qxx w u1 u2 u3 u4 A hA;have h1:=Qds (Qfe.keeps a) (n:=w.heap.size+2) HV.out.2.1 (by omega) h1;have h2:=Qds (Qfe.keeps b) (n:=w.heap.size+2) HV.out.2.1 (by omega) h2;have h3:=Qds (Qfe.keeps c) (n:=w.heap.size+2) HV.out.2.1 (by omega) h3;have h4:=Qds (Qfe.keeps d) (n:=w.heap.size+2) HV.out.2.1 (by omega) h4;clear hA
 go_enter func114,Tryz.ntmps114
 go_wp2_with fail
 rw[<-HV.out.1];refine Qat [(.new zR,[]),(.lit,[]),(.lit,[]),(.val,[]),(.lit,[]),(.lit,[]),(.val,[]),(.on 0 zR,[3,6]),(.new zR,[]),(.lit,[]),(.lit,[]),(.val,[]),(.lit,[]),(.lit,[]),(.val,[]),(.on 8 zR,[11,14])]
  (Qfv [(3,Qbd (Mo A (w.heap.size+2)) (Qbl (a))),(6,Qbd (Mo A (w.heap.size+2)) (Qbl (c))),(7,Qbd (Mo A (w.heap.size+2)) (Qbl (a-c))),(11,Qbd (Mo A (w.heap.size+2)) (Qbl (b))),(14,Qbd (Mo A (w.heap.size+2)) (Qbl (d))),(15,Qbd (Mo A (w.heap.size+2)) (Qbl (b-d)))]) (by kernel_rfl) ?_ ?_ (by simp[Qcy]) (by simp) (by kernel_rfl)
 .exact Qbc (by simp only[List.mem_cons,List.not_mem_nil,or_false];rintro p (rfl|rfl|rfl|rfl|rfl|rfl)<;>exact Qbd.keeps (Qbl.keeps _))
 .refine⟨fun f w1=>by go_simp,?_⟩;refine⟨_,fun f w1 h1=>by(have d0:=ct h1 hs1 e0;have d1:=ct h1 hs1 e1;have d2:=ct h1 hs2 e2;have d3:=ct h1 hs2 e3;go_simp;rfl),?_⟩;refine⟨_,fun f w1 h1=>by(have d0:=ct h1 hs1 e0;have d1:=ct h1 hs1 e1;have d2:=ct h1 hs2 e2;have d3:=ct h1 hs2 e3;go_simp;rfl),?_⟩;simp only[Act.put,nrA,nrB,nrC,Nat.reduceAdd];refine⟨fun f w1 A1 k1 hA hN hd K hK=>by
   go_simp
   refine(Qes a u1 (Un (Mo A (w.heap.size+2)) A1) w1 (Qdp (Qbd.keeps (Qfe.keeps _)) h1 k1 hN) (Qfj (HV.out.2.2.1.below (br.drew.trans k1)) hA)).mono ?_;rintro e w' ⟨v,rfl,hb,hr⟩;exact hK _ _ hb hr,?_⟩
  refine⟨_,fun f w1 h1=>by(have d0:=ct h1 hs1 e0;have d1:=ct h1 hs1 e1;have d2:=ct h1 hs2 e2;have d3:=ct h1 hs2 e3;go_simp;rfl),?_⟩;refine⟨_,fun f w1 h1=>by(have d0:=ct h1 hs1 e0;have d1:=ct h1 hs1 e1;have d2:=ct h1 hs2 e2;have d3:=ct h1 hs2 e3;go_simp;rfl),?_⟩;simp only[Act.put,nrA,nrB,nrC,Nat.reduceAdd];refine⟨fun f w1 A1 k1 hA hN hd K hK=>by
   go_simp
   refine(Qes c u3 (Un (Mo A (w.heap.size+2)) A1) w1 (Qdp (Qbd.keeps (Qfe.keeps _)) h3 k1 hN) (Qfj (HV.out.2.2.1.below (br.drew.trans k1)) hA)).mono ?_;rintro e w' ⟨v,rfl,hb,hr⟩;exact hK _ _ hb hr,?_⟩
  simp only[Act.put,nrA,nrB,nrC,Nat.reduceAdd];refine⟨fun f w1 A1 m1 k1 hA hN hAm hm0 e hz hd K hK=>by
   simp only[e] at hK ⊢;have i1:Qbl (a) (f 3) w1 (Un (Mo A (w.heap.size+2)) A1):=hd 3 (by simp);have i2:Qbl (c) (f 6) w1 (Un (Mo A (w.heap.size+2)) A1):=hd 6 (by simp)
   go_simp
   refine(Qrl m1 _ _ _ _ _ _ w1 hz (by decide) Qcy i1 i2 (k) (l) hla hlc (by omega)).mono ?_;rintro e w' ⟨rfl,hp⟩;exact hK _ w' hp.1 (hp.ratU (HV.out.2.2.1.below (br.drew.trans k1)) hA hm0 (fun b hb=>HV.out.2.2.1.lt hb)),?_⟩
  refine⟨fun f w1=>by go_simp,?_⟩;refine⟨_,fun f w1 h1=>by(have d0:=ct h1 hs1 e0;have d1:=ct h1 hs1 e1;have d2:=ct h1 hs2 e2;have d3:=ct h1 hs2 e3;go_simp;rfl),?_⟩;refine⟨_,fun f w1 h1=>by(have d0:=ct h1 hs1 e0;have d1:=ct h1 hs1 e1;have d2:=ct h1 hs2 e2;have d3:=ct h1 hs2 e3;go_simp;rfl),?_⟩;simp only[Act.put,nrA,nrB,nrC,Nat.reduceAdd];refine⟨fun f w1 A1 k1 hA hN hd K hK=>by
   go_simp
   refine(Qes b u2 (Un (Mo A (w.heap.size+2)) A1) w1 (Qdp (Qbd.keeps (Qfe.keeps _)) h2 k1 hN) (Qfj (HV.out.2.2.1.below (br.drew.trans k1)) hA)).mono ?_;rintro e w' ⟨v,rfl,hb,hr⟩;exact hK _ _ hb hr,?_⟩
  refine⟨_,fun f w1 h1=>by(have d0:=ct h1 hs1 e0;have d1:=ct h1 hs1 e1;have d2:=ct h1 hs2 e2;have d3:=ct h1 hs2 e3;go_simp;rfl),?_⟩;refine⟨_,fun f w1 h1=>by(have d0:=ct h1 hs1 e0;have d1:=ct h1 hs1 e1;have d2:=ct h1 hs2 e2;have d3:=ct h1 hs2 e3;go_simp;rfl),?_⟩;simp only[Act.put,nrA,nrB,nrC,Nat.reduceAdd];refine⟨fun f w1 A1 k1 hA hN hd K hK=>by
   go_simp
   refine(Qes d u4 (Un (Mo A (w.heap.size+2)) A1) w1 (Qdp (Qbd.keeps (Qfe.keeps _)) h4 k1 hN) (Qfj (HV.out.2.2.1.below (br.drew.trans k1)) hA)).mono ?_;rintro e w' ⟨v,rfl,hb,hr⟩;exact hK _ _ hb hr,?_⟩
  simp only[Act.put,nrA,nrB,nrC,Nat.reduceAdd];refine⟨fun f w1 A1 m1 k1 hA hN hAm hm0 e hz hd K hK=>by
   simp only[e] at hK ⊢;have i1:Qbl (b) (f 11) w1 (Un (Mo A (w.heap.size+2)) A1):=hd 11 (by simp);have i2:Qbl (d) (f 14) w1 (Un (Mo A (w.heap.size+2)) A1):=hd 14 (by simp)
   go_simp
   refine(Qrl m1 _ _ _ _ _ _ w1 hz (by decide) Qcy i1 i2 (k) (l) hlb hld (by omega)).mono ?_;rintro e w' ⟨rfl,hp⟩;exact hK _ w' hp.1 (hp.ratU (HV.out.2.2.1.below (br.drew.trans k1)) hA hm0 (fun b hb=>HV.out.2.2.1.lt hb)),?_⟩
  intro f w1 k1 hF;have i0:Qbl (a) (f 3) w1 ((Mo A (w.heap.size+2))):=Qbd.done (Qbl.keeps _) hF.1.1.1.1.1.2;have i1:Qbl (c) (f 6) w1 ((Mo A (w.heap.size+2))):=Qbd.done (Qbl.keeps _) hF.1.1.1.1.2;have i2:Qbl (a-c) (f 7) w1 ((Mo A (w.heap.size+2))):=Qbd.done (Qbl.keeps _) hF.1.1.1.2;have i3:Qbl (b) (f 11) w1 ((Mo A (w.heap.size+2))):=Qbd.done (Qbl.keeps _) hF.1.1.2;have i4:Qbl (d) (f 14) w1 ((Mo A (w.heap.size+2))):=Qbd.done (Qbl.keeps _) hF.1.2;have i5:Qbl (b-d) (f 15) w1 ((Mo A (w.heap.size+2))):=Qbd.done (Qbl.keeps _) hF.2;clear hF;simp only[Act.put,nrA,nrB,nrC];generalize f 3=v0 at *
  generalize f 6=v1 at *
  generalize f 7=v2 at *
  generalize f 11=v3 at *
  generalize f 14=v4 at *
  generalize f 15=v5 at *
  have hb1:Below W.heap.size W w1:=br.drew.trans k1;obtain⟨c0,c1,f0,f1⟩:=HV.out.2.2.2 w1 hb1;have hbw:=HV.out.2.1.trans (hb1.mono HV.out.2.1.size);have HE:=hid (And.intro i2 (And.intro i5 hbw));obtain⟨m1,rfl⟩:=i2.shape;obtain⟨m2,rfl⟩:=i5.shape;clear e0 e1 e2 e3 h1 h2 h3 h4 i0 i1 i2 i3 i4 i5 hbw hb1 k1
  go_wp2_with fail
  refine bodyPost_ret (v:=.agg #[.pointer (some ⟨m1,0,none⟩),.pointer (some ⟨m2,0,none⟩)]) (by simp[results,Tryz.results114,go_sem,c0,c1]) rfl ?_;exact Qqc HE.out.2.2 HE.out.1 HE.out.2.1 (by omega)
def Kic(a b c d:Rat)(v v':Value)(A:Nat->Prop)(w:World)(hv:Qir a b v w A)(hv':Qir c d v' w A)(hA:Rcv A w)(k l:Nat)(hla:RL a k)(hlb:RL b k)(hlc:RL c l)(hld:RL d l)(hkl:k+l+(k+l)<137438953472) :
  Calls prog 115 #[v,v'] w fun e w'=>∃ u,e=.returned u/\Below w.heap.size w w'/\Qir (a*c-b*d) (a*d+b*c) u w' A:=by
 obtain⟨u1,u2,rfl,h1,h2⟩:=hv;obtain⟨u3,u4,rfl,h3,h4⟩:=hv';obtain⟨W,HV,hs1,hs2,e0,e1,e2,e3⟩:=Qxx w u1 u2 u3 u4 A hA;have h1:=Qds (Qfe.keeps a) (n:=w.heap.size+2) HV.out.2.1 (by omega) h1;have h2:=Qds (Qfe.keeps b) (n:=w.heap.size+2) HV.out.2.1 (by omega) h2;have h3:=Qds (Qfe.keeps c) (n:=w.heap.size+2) HV.out.2.1 (by omega) h3;have h4:=Qds (Qfe.keeps d) (n:=w.heap.size+2) HV.out.2.1 (by omega) h4;clear hA
 go_enter func115,Tryz.ntmps115
 go_wp2_with fail
 rw[<-HV.out.1];refine Qat [(.new zR,[]),(.lit,[]),(.lit,[]),(.lit,[]),(.lit,[]),(.val,[]),(.lit,[]),(.lit,[]),(.lit,[]),(.lit,[]),(.val,[]),(.on 0 zR,[5,10]),(.new zR,[]),(.lit,[]),(.lit,[]),(.lit,[]),(.lit,[]),(.val,[]),(.lit,[]),(.lit,[]),(.lit,[]),(.lit,[]),(.val,[]),(.on 12 zR,[17,22])]
  (Qfv [(5,Qbd (Mo A (w.heap.size+2)) (Qbl (a*c))),(10,Qbd (Mo A (w.heap.size+2)) (Qbl (b*d))),(11,Qbd (Mo A (w.heap.size+2)) (Qbl (a*c-b*d))),(17,Qbd (Mo A (w.heap.size+2)) (Qbl (a*d))),(22,Qbd (Mo A (w.heap.size+2)) (Qbl (b*c))),(23,Qbd (Mo A (w.heap.size+2)) (Qbl (a*d+b*c)))]) (by kernel_rfl) ?_ ?_ (by simp[Qcy]) (by simp) (by kernel_rfl)
 .exact Qbc (by simp only[List.mem_cons,List.not_mem_nil,or_false];rintro p (rfl|rfl|rfl|rfl|rfl|rfl)<;>exact Qbd.keeps (Qbl.keeps _))
 .refine⟨fun f w1=>by go_simp,?_⟩;refine⟨_,fun f w1 h1=>by(have d0:=ct h1 hs1 e0;have d1:=ct h1 hs1 e1;have d2:=ct h1 hs2 e2;have d3:=ct h1 hs2 e3;go_simp;rfl),?_⟩;refine⟨_,fun f w1 h1=>by(have d0:=ct h1 hs1 e0;have d1:=ct h1 hs1 e1;have d2:=ct h1 hs2 e2;have d3:=ct h1 hs2 e3;go_simp;rfl),?_⟩;refine⟨_,fun f w1 h1=>by(have d0:=ct h1 hs1 e0;have d1:=ct h1 hs1 e1;have d2:=ct h1 hs2 e2;have d3:=ct h1 hs2 e3;go_simp;rfl),?_⟩;refine⟨_,fun f w1 h1=>by(have d0:=ct h1 hs1 e0;have d1:=ct h1 hs1 e1;have d2:=ct h1 hs2 e2;have d3:=ct h1 hs2 e3;go_simp;rfl),?_⟩;simp only[Act.put,nrA,nrB,nrC,Nat.reduceAdd];refine⟨fun f w1 A1 k1 hA hN hd K hK=>by
   go_simp
   refine(Qhw a c u1 u3 (Un (Mo A (w.heap.size+2)) A1) w1 (Qdp (Qbd.keeps (Qfe.keeps _)) h1 k1 hN) (Qdp (Qbd.keeps (Qfe.keeps _)) h3 k1 hN) (Qfj (HV.out.2.2.1.below (br.drew.trans k1)) hA) k l hla hlc (by omega)).mono ?_;rintro e w' ⟨v,rfl,hb,hr⟩;exact hK _ _ hb hr,?_⟩
  refine⟨_,fun f w1 h1=>by(have d0:=ct h1 hs1 e0;have d1:=ct h1 hs1 e1;have d2:=ct h1 hs2 e2;have d3:=ct h1 hs2 e3;go_simp;rfl),?_⟩;refine⟨_,fun f w1 h1=>by(have d0:=ct h1 hs1 e0;have d1:=ct h1 hs1 e1;have d2:=ct h1 hs2 e2;have d3:=ct h1 hs2 e3;go_simp;rfl),?_⟩;refine⟨_,fun f w1 h1=>by(have d0:=ct h1 hs1 e0;have d1:=ct h1 hs1 e1;have d2:=ct h1 hs2 e2;have d3:=ct h1 hs2 e3;go_simp;rfl),?_⟩;refine⟨_,fun f w1 h1=>by(have d0:=ct h1 hs1 e0;have d1:=ct h1 hs1 e1;have d2:=ct h1 hs2 e2;have d3:=ct h1 hs2 e3;go_simp;rfl),?_⟩;simp only[Act.put,nrA,nrB,nrC,Nat.reduceAdd];refine⟨fun f w1 A1 k1 hA hN hd K hK=>by
   go_simp
   refine(Qhw b d u2 u4 (Un (Mo A (w.heap.size+2)) A1) w1 (Qdp (Qbd.keeps (Qfe.keeps _)) h2 k1 hN) (Qdp (Qbd.keeps (Qfe.keeps _)) h4 k1 hN) (Qfj (HV.out.2.2.1.below (br.drew.trans k1)) hA) k l hlb hld (by omega)).mono ?_;rintro e w' ⟨v,rfl,hb,hr⟩;exact hK _ _ hb hr,?_⟩
  simp only[Act.put,nrA,nrB,nrC,Nat.reduceAdd];refine⟨fun f w1 A1 m1 k1 hA hN hAm hm0 e hz hd K hK=>by
   simp only[e] at hK ⊢;have i1:Qbl (a*c) (f 5) w1 (Un (Mo A (w.heap.size+2)) A1):=hd 5 (by simp);have i2:Qbl (b*d) (f 10) w1 (Un (Mo A (w.heap.size+2)) A1):=hd 10 (by simp)
   go_simp
   refine(Qrl m1 _ _ _ _ _ _ w1 hz (by decide) Qcy i1 i2 (k+l) (k+l) (Qam hla hlc) (Qam hlb hld) (by omega)).mono ?_;rintro e w' ⟨rfl,hp⟩;exact hK _ w' hp.1 (hp.ratU (HV.out.2.2.1.below (br.drew.trans k1)) hA hm0 (fun b hb=>HV.out.2.2.1.lt hb)),?_⟩
  refine⟨fun f w1=>by go_simp,?_⟩;refine⟨_,fun f w1 h1=>by(have d0:=ct h1 hs1 e0;have d1:=ct h1 hs1 e1;have d2:=ct h1 hs2 e2;have d3:=ct h1 hs2 e3;go_simp;rfl),?_⟩;refine⟨_,fun f w1 h1=>by(have d0:=ct h1 hs1 e0;have d1:=ct h1 hs1 e1;have d2:=ct h1 hs2 e2;have d3:=ct h1 hs2 e3;go_simp;rfl),?_⟩;refine⟨_,fun f w1 h1=>by(have d0:=ct h1 hs1 e0;have d1:=ct h1 hs1 e1;have d2:=ct h1 hs2 e2;have d3:=ct h1 hs2 e3;go_simp;rfl),?_⟩;refine⟨_,fun f w1 h1=>by(have d0:=ct h1 hs1 e0;have d1:=ct h1 hs1 e1;have d2:=ct h1 hs2 e2;have d3:=ct h1 hs2 e3;go_simp;rfl),?_⟩;simp only[Act.put,nrA,nrB,nrC,Nat.reduceAdd];refine⟨fun f w1 A1 k1 hA hN hd K hK=>by
   go_simp
   refine(Qhw a d u1 u4 (Un (Mo A (w.heap.size+2)) A1) w1 (Qdp (Qbd.keeps (Qfe.keeps _)) h1 k1 hN) (Qdp (Qbd.keeps (Qfe.keeps _)) h4 k1 hN) (Qfj (HV.out.2.2.1.below (br.drew.trans k1)) hA) k l hla hld (by omega)).mono ?_;rintro e w' ⟨v,rfl,hb,hr⟩;exact hK _ _ hb hr,?_⟩
  refine⟨_,fun f w1 h1=>by(have d0:=ct h1 hs1 e0;have d1:=ct h1 hs1 e1;have d2:=ct h1 hs2 e2;have d3:=ct h1 hs2 e3;go_simp;rfl),?_⟩;refine⟨_,fun f w1 h1=>by(have d0:=ct h1 hs1 e0;have d1:=ct h1 hs1 e1;have d2:=ct h1 hs2 e2;have d3:=ct h1 hs2 e3;go_simp;rfl),?_⟩;refine⟨_,fun f w1 h1=>by(have d0:=ct h1 hs1 e0;have d1:=ct h1 hs1 e1;have d2:=ct h1 hs2 e2;have d3:=ct h1 hs2 e3;go_simp;rfl),?_⟩;refine⟨_,fun f w1 h1=>by(have d0:=ct h1 hs1 e0;have d1:=ct h1 hs1 e1;have d2:=ct h1 hs2 e2;have d3:=ct h1 hs2 e3;go_simp;rfl),?_⟩;simp only[Act.put,nrA,nrB,nrC,Nat.reduceAdd];refine⟨fun f w1 A1 k1 hA hN hd K hK=>by
   go_simp
   refine(Qhw b c u2 u3 (Un (Mo A (w.heap.size+2)) A1) w1 (Qdp (Qbd.keeps (Qfe.keeps _)) h2 k1 hN) (Qdp (Qbd.keeps (Qfe.keeps _)) h3 k1 hN) (Qfj (HV.out.2.2.1.below (br.drew.trans k1)) hA) k l hlb hlc (by omega)).mono ?_;rintro e w' ⟨v,rfl,hb,hr⟩;exact hK _ _ hb hr,?_⟩
  simp only[Act.put,nrA,nrB,nrC,Nat.reduceAdd];refine⟨fun f w1 A1 m1 k1 hA hN hAm hm0 e hz hd K hK=>by
   simp only[e] at hK ⊢;have i1:Qbl (a*d) (f 17) w1 (Un (Mo A (w.heap.size+2)) A1):=hd 17 (by simp);have i2:Qbl (b*c) (f 22) w1 (Un (Mo A (w.heap.size+2)) A1):=hd 22 (by simp)
   go_simp
   refine(Qlu m1 _ _ _ _ _ _ w1 hz (by decide) Qcy i1 i2 (k+l) (k+l) (Qam hla hld) (Qam hlb hlc) (by omega)).mono ?_;rintro e w' ⟨rfl,hp⟩;exact hK _ w' hp.1 (hp.ratU (HV.out.2.2.1.below (br.drew.trans k1)) hA hm0 (fun b hb=>HV.out.2.2.1.lt hb)),?_⟩
  intro f w1 k1 hF;have i0:Qbl (a*c) (f 5) w1 ((Mo A (w.heap.size+2))):=Qbd.done (Qbl.keeps _) hF.1.1.1.1.1.2;have i1:Qbl (b*d) (f 10) w1 ((Mo A (w.heap.size+2))):=Qbd.done (Qbl.keeps _) hF.1.1.1.1.2;have i2:Qbl (a*c-b*d) (f 11) w1 ((Mo A (w.heap.size+2))):=Qbd.done (Qbl.keeps _) hF.1.1.1.2;have i3:Qbl (a*d) (f 17) w1 ((Mo A (w.heap.size+2))):=Qbd.done (Qbl.keeps _) hF.1.1.2;have i4:Qbl (b*c) (f 22) w1 ((Mo A (w.heap.size+2))):=Qbd.done (Qbl.keeps _) hF.1.2;have i5:Qbl (a*d+b*c) (f 23) w1 ((Mo A (w.heap.size+2))):=Qbd.done (Qbl.keeps _) hF.2;clear hF;simp only[Act.put,nrA,nrB,nrC];generalize f 5=v0 at *
  generalize f 10=v1 at *
  generalize f 11=v2 at *
  generalize f 17=v3 at *
  generalize f 22=v4 at *
  generalize f 23=v5 at *
  have hb1:Below W.heap.size W w1:=br.drew.trans k1;obtain⟨c0,c1,f0,f1⟩:=HV.out.2.2.2 w1 hb1;have hbw:=HV.out.2.1.trans (hb1.mono HV.out.2.1.size);have HE:=hid (And.intro i2 (And.intro i5 hbw));obtain⟨m1,rfl⟩:=i2.shape;obtain⟨m2,rfl⟩:=i5.shape;clear e0 e1 e2 e3 h1 h2 h3 h4 i0 i1 i2 i3 i4 i5 hbw hb1 k1
  go_wp2_with fail
  refine bodyPost_ret (v:=.agg #[.pointer (some ⟨m1,0,none⟩),.pointer (some ⟨m2,0,none⟩)]) (by simp[results,Tryz.results115,go_sem,c0,c1]) rfl ?_;exact Qqc HE.out.2.2 HE.out.1 HE.out.2.1 (by omega)
def Kbf(a b:Rat)(v:Value)(A:Nat->Prop)(w:World)(hv:Qir a b v w A)(hA:Rcv A w)(hlb:RL b 137438953472) :
  Calls prog 120 #[v] w fun e w'=>∃ u,e=.returned u/\Below w.heap.size w w'/\Qir a (-b) u w' A:=by
 obtain⟨u1,u2,rfl,h1,h2⟩:=hv;obtain⟨W,HV,hs2,e0,e1⟩:=Kre w u1 u2 A hA;have h1:=Qds (Qfe.keeps a) (n:=w.heap.size+1) HV.out.2.1 (by omega) h1;have h2:=Qds (Qfe.keeps b) (n:=w.heap.size+1) HV.out.2.1 (by omega) h2;clear hA
 go_enter func120,Tryz.ntmps120
 go_wp2_with fail
 rw[<-HV.out.1];refine Qat [(.lit,[]),(.lit,[]),(.val,[]),(.new zR,[]),(.lit,[]),(.lit,[]),(.val,[]),(.on 3 zR,[6])]
  (Qfv [(2,Qbd (Mo A (w.heap.size+1)) (Qbl (a))),(6,Qbd (Mo A (w.heap.size+1)) (Qbl (b))),(7,Qbd (Mo A (w.heap.size+1)) (Qbl (-b)))]) (by kernel_rfl) ?_ ?_ (by simp[Qcy]) (by simp) (by kernel_rfl)
 .exact Qbc (by simp only[List.mem_cons,List.not_mem_nil,or_false];rintro p (rfl|rfl|rfl)<;>exact Qbd.keeps (Qbl.keeps _))
 .refine⟨_,fun f w1 h1=>by(have d0:=ct h1 hs2 e0;have d1:=ct h1 hs2 e1;go_simp;rfl),?_⟩;refine⟨_,fun f w1 h1=>by(have d0:=ct h1 hs2 e0;have d1:=ct h1 hs2 e1;go_simp;rfl),?_⟩;simp only[Act.put,nrA,nrB,nrC,Nat.reduceAdd];refine⟨fun f w1 A1 k1 hA hN hd K hK=>by
   go_simp
   refine(Qes a u1 (Un (Mo A (w.heap.size+1)) A1) w1 (Qdp (Qbd.keeps (Qfe.keeps _)) h1 k1 hN) (Qfj (HV.out.2.2.1.below (br.drew.trans k1)) hA)).mono ?_;rintro e w' ⟨v,rfl,hb,hr⟩;exact hK _ _ hb hr,?_⟩
  refine⟨fun f w1=>by go_simp,?_⟩;refine⟨_,fun f w1 h1=>by(have d0:=ct h1 hs2 e0;have d1:=ct h1 hs2 e1;go_simp;rfl),?_⟩;refine⟨_,fun f w1 h1=>by(have d0:=ct h1 hs2 e0;have d1:=ct h1 hs2 e1;go_simp;rfl),?_⟩;simp only[Act.put,nrA,nrB,nrC,Nat.reduceAdd];refine⟨fun f w1 A1 k1 hA hN hd K hK=>by
   go_simp
   refine(Qes b u2 (Un (Mo A (w.heap.size+1)) A1) w1 (Qdp (Qbd.keeps (Qfe.keeps _)) h2 k1 hN) (Qfj (HV.out.2.2.1.below (br.drew.trans k1)) hA)).mono ?_;rintro e w' ⟨v,rfl,hb,hr⟩;exact hK _ _ hb hr,?_⟩
  simp only[Act.put,nrA,nrB,nrC,Nat.reduceAdd];refine⟨fun f w1 A1 m1 k1 hA hN hAm hm0 e hz hd K hK=>by
   simp only[e] at hK ⊢;have i1:Qbl (b) (f 6) w1 (Un (Mo A (w.heap.size+1)) A1):=hd 6 (by simp)
   go_simp
   refine(Qxr m1 _ _ _ _ w1 hz (by decide) Qcy i1 hlb).mono ?_;rintro e w' ⟨rfl,hp⟩;exact hK _ w' hp.1 (hp.ratU (HV.out.2.2.1.below (br.drew.trans k1)) hA hm0 (fun b hb=>HV.out.2.2.1.lt hb)),?_⟩
  intro f w1 k1 hF;have i0:Qbl (a) (f 2) w1 ((Mo A (w.heap.size+1))):=Qbd.done (Qbl.keeps _) hF.1.1.2;have i1:Qbl (b) (f 6) w1 ((Mo A (w.heap.size+1))):=Qbd.done (Qbl.keeps _) hF.1.2;have i2:Qbl (-b) (f 7) w1 ((Mo A (w.heap.size+1))):=Qbd.done (Qbl.keeps _) hF.2;clear hF;simp only[Act.put,nrA,nrB,nrC];generalize f 2=v0 at *
  generalize f 6=v1 at *
  generalize f 7=v2 at *
  have hb1:Below W.heap.size W w1:=br.drew.trans k1;obtain⟨c0,c1,f0,f1⟩:=HV.out.2.2.2 w1 hb1;have hbw:=HV.out.2.1.trans (hb1.mono HV.out.2.1.size);have HE:=hid (And.intro i0 (And.intro i2 hbw));obtain⟨m1,rfl⟩:=i0.shape;obtain⟨m2,rfl⟩:=i2.shape;clear e0 e1 h1 h2 i0 i1 i2 hbw hb1 k1
  go_wp2_with fail
  refine bodyPost_ret (v:=.agg #[.pointer (some ⟨m1,0,none⟩),.pointer (some ⟨m2,0,none⟩)]) (by simp[results,Tryz.results120,go_sem,c0,c1]) rfl ?_;exact Qqc HE.out.2.2 HE.out.1 HE.out.2.1 (by omega)
def Qph(i j:Int)(hi0:-9223372036854775808<=i)(hi1:i<9223372036854775808)(hj0:-9223372036854775808<=j)(hj1:j<9223372036854775808)(hj:j≠0)(w:World) :
  Calls prog 190 #[.int .i64 i,.int .i64 j] w fun e w'=>∃ v,e=.returned v/\Uch (Rat.divInt i j) v w w':=by
 have hal:=(Below.refl w.heap.size w).alloc lr zR;have H1:=hid (Qhx i hi0 hi1 (w.alloc zR));have HA:=hid hal;have HJ:=hid hj;have l1:(Qad i.natAbs).length<274877906944:=Nat.lt_of_le_of_lt (Qak (k:=2) (by omega)) (by decide);have l2:(Qad j.natAbs).length<274877906944:=Nat.lt_of_le_of_lt (Qak (k:=2) (by omega)) (by decide);have HL:=hid (And.intro l1 l2);clear hal hj l1 l2
 go_enter func190,Tryz.ntmps190
 go_wp2_with fail
 refine H1.out.mono ?_;rintro e w1 ⟨v1,rfl,hn1⟩;have H2:=hid (Qhx j hj0 hj1 w1);have HN1:=hid hn1;clear hn1
 go_wp2_with fail
 refine H2.out.mono ?_;rintro e w2 ⟨v2,rfl,hn2⟩;have hb1:=HN1.out.1;have hm:w2.heap[w.heap.size]?=some zR:=(hn2.1.block _ (by have:=hb1.size;simp at this;omega)).trans ((hb1.block _ (by simp)).trans (heap_alloc_new w _));have hb02:Below w.heap.size w w2:=HA.out.trans ((hb1.trans (hn2.1.mono hb1.size)).mono (by simp));have HS:=hid (Qfb w.heap.size _ i j HJ.out v1 v2 NoA w2 hm (by decide) Qcy ((HN1.out.2 NoA (Qbu _)).below hn2.1) (hn2.2 NoA (Qbu _)) HL.out.1 HL.out.2);have HB:=hid hb02;clear hb1 hm hb02 hn2 H1 H2
 go_wp2_with fail
 refine HS.out.mono ?_;rintro e w3 ⟨rfl,hp⟩;have HN:=hid (hp.newAt HB.out lr);clear hp HS
 go_wp2
 go_ret
 exact⟨_,rfl,HN.out⟩
def Qke{q:Rat}:q.num.sign=0↔q=0:=by
 rw[Int.sign_eq_zero_iff_zero,Rat.num_eq_zero]
def Kqo(a b:Rat)(v:Value)(A:Nat->Prop)(w:World)(hv:Qir a b v w A)(r:Bool)(hr:r=true↔a=0/\b=0) :
  Calls prog 174 #[v] w fun e w'=>e=.returned (.bool r)/\Below w.heap.size w w':=by
 obtain⟨u1,u2,rfl,h1,h2⟩:=hv;have hal:Below w.heap.size w (w.alloc (.cells #[u1,u2] 96)):=br.alloc lr _;have H1:=hid (Qes a u1 NoA (w.alloc (.cells #[u1,u2] 96)) ((Qcp.Keeps.noA (Qfe.keeps a) h1).below hal) (Qbu _));have HB:=hid (And.intro hal (And.intro hr (Qcp.Keeps.noA (Qfe.keeps b) h2)));clear hal hr h1 h2
 go_enter func174,Tryz.ntmps174
 go_wp2_with fail
 refine H1.out.mono ?_;rintro e w1 ⟨v1,rfl,hb1,hr1⟩;have HS:=hid (Qhz a v1 NoA w1 hr1);obtain⟨e0,e1,_⟩:=Qid w _ _ _ hb1;obtain⟨sg,hsg⟩:∃ sg,sg=a.num.sign:=⟨_,rfl⟩
 rw[<-hsg] at HS;have HG:=hid hsg;clear hsg hr1
 go_wp2_with fail
 refine HS.out.mono ?_;rintro e w2 ⟨rfl,rfl⟩
 by_cases c:sg=0
 .have ha:a=0:=Qke.1 (by rw[<-HG.out];exact c);subst c;have H2:=hid (Qes b u2 NoA w1 ((HB.out.2.2.below HB.out.1).below hb1) (Qbu _));have HB1:=hid (HB.out.1.trans (hb1.mono (by simp)));clear hb1
  go_wp2_with fail
  refine H2.out.mono ?_;rintro e w3 ⟨v3,rfl,hb3,hr3⟩;have HS2:=hid (Qhz b v3 NoA w3 hr3);obtain⟨sg2,hsg2⟩:∃ sg2,sg2=b.num.sign:=⟨_,rfl⟩
  rw[<-hsg2] at HS2;have HG2:=hid (And.intro hsg2 (HB1.out.trans (hb3.mono HB1.out.size)));clear hsg2 hr3 hb3 e0 e1
  go_wp2_with fail
  refine HS2.out.mono ?_;rintro e w4 ⟨rfl,rfl⟩
  go_wp2
  go_ret
  refine⟨?_,HG2.out.2⟩;have:r=decide (sg2=0):=by
   have h:=HB.out.2.1;rw[<-Qke (q:=b),<-HG2.out.1] at h
   by_cases h2:sg2=0
   .rw[decide_eq_true h2];exact h.2 ⟨ha,h2⟩
   .rw[decide_eq_false h2];cases hr:r
    .rfl
    .exact absurd (h.1 hr).2 h2
  rw[this]
  first|rfl|(simp;done)|(show Ending.returned (.bool (sg2==0))=_;rfl)
 .have hc:(sg==0)=false:=by simpa using c
  have hr:r=false:=by
   cases hr:r
   .rfl
   .exact absurd (by rw[HG.out];exact Qke.2 (HB.out.2.1.1 hr).1) c
  have HB1:=hid (HB.out.1.trans (hb1.mono (by simp)));clear hb1
  go_wp2
  all_goals go_ret
  all_goals exact⟨by rw[hr];rfl,HB1.out⟩
def BSl.below{w w':World}{v:Value}{s:ByteArray}(h:BSl w v s)(hb:Below w.heap.size w w'):BSl w' v s:=by
 obtain⟨b,off,cap,rfl,hlt,h⟩:=h;exact⟨b,off,cap,rfl,Nat.lt_of_lt_of_le hlt hb.size,fun i hi=>(hb.cell (p:=⟨b,off+i,none⟩) hlt).trans (h i hi)⟩
def Qvt(i:Int):Rat.divInt i 1=(i:Rat):=by
 have:=Rat.num_divInt_den (i:Rat);rw[Rat.num_intCast,Rat.den_intCast] at this;simpa using this
def Kxp(i j:Int)(hi0:-9223372036854775808<=i)(hi1:i<9223372036854775808)(hj0:-9223372036854775808<=j)(hj1:j<9223372036854775808)(A:Nat->Prop)(w:World)(hA:Rcv A w) :
  Calls prog 116 #[.int .i64 i,.int .i64 j] w fun e w'=>∃ u,e=.returned u/\Below w.heap.size w w'/\Qir i j u w' A:=by
 obtain⟨W,hW⟩:∃ W,W=w.alloc (.cells #[.pointer none,.pointer none] 96):=⟨_,rfl⟩
 have hBW:Below w.heap.size w W:=by rw[hW];exact br.alloc lr _
 have hAW:Rcv (Mo A w.heap.size) W:=fun b h=>h.elim (fun h=>(hA.below hBW) b h) (fun h=>by subst h;rw[hW];exact⟨_,heap_alloc_new w _,Qyn _ _ ⟨_,rfl⟩ ⟨_,rfl⟩ _⟩)
 have H1:=hid (Qph i 1 hi0 hi1 (by decide) (by decide) (by decide) W);rw[Qvt] at H1;have HA:=hid (And.intro hW (And.intro hBW hAW));clear hBW hAW hA
 go_enter func116,Tryz.ntmps116
 go_wp2_with fail
 rw[<-hW];clear hW;refine H1.out.mono ?_;rintro e w1 ⟨v1,rfl,hn1⟩;have H2:=hid (Qph j 1 hj0 hj1 (by decide) (by decide) (by decide) w1);rw[Qvt] at H2;have HN1:=hid hn1;clear hn1
 go_wp2_with fail
 refine H2.out.mono ?_;rintro e w2 ⟨v2,rfl,hn2⟩;have hr1:=(HN1.out.2 _ HA.out.2.2).below hn2.1;have hr2:=hn2.2 _ (HA.out.2.2.below HN1.out.1);have hb2:=HN1.out.1.trans (hn2.1.mono HN1.out.1.size);obtain⟨c0,c1,f0,f1⟩:=Qid w (.pointer none) (.pointer none) 96 (by rw[<-HA.out.1];exact hb2);have HE:=hid (And.intro hr1 (And.intro hr2 (HA.out.2.1.trans (hb2.mono HA.out.2.1.size))));obtain⟨m1,rfl⟩:=hr1.shape;obtain⟨m2,rfl⟩:=hr2.shape;clear hr1 hr2 hb2 hn2 H1 H2 HN1
 go_wp2_with fail
 refine bodyPost_ret (v:=.agg #[.pointer (some ⟨m1,0,none⟩),.pointer (some ⟨m2,0,none⟩)]) (by simp[results,Tryz.results116,go_sem,c0,c1]) rfl ?_;exact Qqc HE.out.2.2 HE.out.1 HE.out.2.1 lr
def Qar(q:Rat):Prop:=(Qcj q.num.natAbs).size<=1024/\(Qcj q.den).size<=1024
instance (q:Rat):Decidable (Qar q):=by unfold Qar;infer_instance
def zF:Value:=.agg #[.bool false,.string ⟨#[]⟩,.bool false,.string ⟨#[]⟩]
def Kpm(q:Rat):Value:=if Qar q then Qgf q else zF
def Ktc(q:Rat):Int:=if Qar q then 0 else 4
def Qsb(q:Rat)(v:Value)(A:Nat->Prop)(w:World)(hx:Qfe q v w A)(hl:RL q 137438953472) :
  Calls prog 84 #[v] w fun e w'=>e=.returned (.tuple #[Kpm q,.int .i64 (Ktc q)])/\Below w.heap.size w w':=by
 have hal:Below w.heap.size w (w.alloc (.cells #[.bool false,.string ⟨#[]⟩,.bool false,.string ⟨#[]⟩] 26)):=br.alloc lr _;have H1:=hid (Qes q v NoA _ ((Qcp.Keeps.noA (Qfe.keeps q) hx).below hal) (Qbu _));have hln:(Qad q.num.natAbs).length<274877906944:=by have:=hl.1;omega
 have hld:(Qad (q.den:Int).natAbs).length<274877906944:=by have:=hl.2;simp;omega
 have HL:=hid (And.intro hln hld);have HAL:=hid hal;clear hx hal hln hld
 go_enter func84,Tryz.ntmps84
 go_wp2_with fail
 refine H1.out.mono ?_;rintro e w1 ⟨u,rfl,hb1,hr1⟩;have HN:=hid (Qxq q u NoA w1 hr1 hl);have HR:=hid hr1;clear hr1
 go_wp2_with fail
 refine HN.out.mono ?_;rintro e w2 ⟨v2,rfl,hn2⟩;have HB:=hid (Qsa q.num v2 NoA w2 (hn2.2 NoA (Qbu _)) HL.out.1)
 go_wp2_with fail
 refine HB.out.mono ?_;rintro e w3 ⟨v3,rfl,hs3,hb3⟩;have hb13:=hn2.1.trans (hb3.mono hn2.1.size);have HD:=hid (Qnp q u NoA w3 (HR.out.below hb13) hl)
 go_wp2_with fail
 refine HD.out.mono ?_;rintro e w4 ⟨v4,rfl,hn4⟩;have HB2:=hid (Qsa q.den v4 NoA w4 (hn4.2 NoA (Qbu _)) HL.out.2)
 go_wp2_with fail
 refine HB2.out.mono ?_;rintro e w5 ⟨v5,rfl,hs5,hb5⟩;have hb35:=hn4.1.trans (hb5.mono hn4.1.size);have hb15:=hb13.trans (hb35.mono hb13.size);have hs3':=hs3.below hb35;obtain⟨c0,c1,c2,c3,f0,f1,f2,f3⟩:=Qgi w _ _ _ _ _ (hb1.trans (hb15.mono hb1.size));have hbw:Below w.heap.size w w5:=HAL.out.trans ((hb1.trans (hb15.mono hb1.size)).mono (by simp));obtain⟨t1,ht1⟩:∃ t1,t1=Qcj q.num.natAbs:=⟨_,rfl⟩
 obtain⟨t2,ht2⟩:∃ t2,t2=Qcj (q.den:Int).natAbs:=⟨_,rfl⟩
 rw[<-ht1] at hs3';rw[<-ht2] at hs5;have kc1:=Qiz w5.drew v3 t1 (hs3'.below (br.drew));have kc2:=Qiz w5.drew v5 t2 (hs5.below (br.drew));obtain⟨p1,o1,q1,rfl,_⟩:=hs3';obtain⟨p2,o2,q2,rfl,_⟩:=hs5;have HT:=hid (And.intro ht1 (And.intro ht2 hbw));have HSG:=hid (fun w (h:Qbl q u w NoA)=>Qhz q u NoA w h);have HR5:=hid (HR.out.below hb15);clear ht1 ht2 hs3 hb1 hb13 hb3 hb5 hb35 hb15 hn2 hn4 hbw HN HB HD HB2 H1;have HZ:=hid (fun(h:¬Qar q)=>show zF=Kpm q/\(4:Int)=Ktc q by unfold Kpm Ktc;rw[if_neg h,if_neg h];exact⟨rfl,rfl⟩);have HY:=hid (fun(h:Qar q)=>show Qgf q=Kpm q/\(0:Int)=Ktc q by unfold Kpm Ktc;rw[if_pos h,if_pos h];exact⟨rfl,rfl⟩)
 by_cases g1:(1024:Int)<(t1.size:Int)
 .have hno:¬Qar q:=fun h=>by have h1:=h.1;rw[<-HT.out.1] at h1;omega
  have HNO:=hid hno;clear hno
  go_wp2_with fail
  refine bodyPost_ret (v:=.tuple #[zF,.int .i64 4]) (by unfold zF;simp[results,Tryz.results84,go_sem,c0,c1,c2,c3]) rfl ⟨by rw[(HZ.out HNO.out).1,(HZ.out HNO.out).2],?_⟩;exact((((HT.out.2.2.setCell (p:=⟨w.heap.size,0,none⟩) lr _).setCell (p:=⟨w.heap.size,1,none⟩) lr _).setCell (p:=⟨w.heap.size,2,none⟩) lr _).setCell (p:=⟨w.heap.size,3,none⟩) lr _)
 .by_cases g2:(1024:Int)<(t2.size:Int)
  .have hno:¬Qar q:=fun h=>by have h2:=h.2;have h3:=HT.out.2.1;simp only[Int.natAbs_natCast] at h3;rw[<-h3] at h2;omega
   have HNO:=hid hno;clear hno
   go_wp2_with fail
   refine bodyPost_ret (v:=.tuple #[zF,.int .i64 4]) (by unfold zF;simp[results,Tryz.results84,go_sem,c0,c1,c2,c3]) rfl ⟨by rw[(HZ.out HNO.out).1,(HZ.out HNO.out).2],?_⟩;exact((((HT.out.2.2.setCell (p:=⟨w.heap.size,0,none⟩) lr _).setCell (p:=⟨w.heap.size,1,none⟩) lr _).setCell (p:=⟨w.heap.size,2,none⟩) lr _).setCell (p:=⟨w.heap.size,3,none⟩) lr _)
  .have hyes:Qar q:=⟨by rw[<-HT.out.1];omega,by have h3:=HT.out.2.1;simp only[Int.natAbs_natCast] at h3;rw[<-h3];omega⟩
   have HYES:=hid hyes;clear hyes;obtain⟨sg,hsg⟩:∃ sg,sg=q.num.sign:=⟨_,rfl⟩
   have HC:=hid (Qhz q u NoA w5.drew (HR5.out.below (br.drew)));rw[<-hsg] at HC;have HG:Hid (Qgf q=.agg #[.bool (decide (sg<0)),.string t1,.bool false,.string t2]):=hid (by unfold Qgf;rw[hsg,Kud,HT.out.1,HT.out.2.1];simp);clear hsg
   go_wp2_with fail
   refine Qhj 10 (by kernel_rfl) (by kernel_rfl) ?_;simp only[List.take_succ_cons,List.take_zero,List.drop_succ_cons,List.drop_zero]
   repeat (first|still_step|still_call (Ubg HC.out))
   refine wpStill_nil ?_
   go_wp2_with fail
   refine bodyPost_ret (v:=.tuple #[.agg #[.bool (decide (sg<0)),.string t1,.bool false,.string t2],.int .i64 0]) (by simp[results,Tryz.results84,go_sem,c0,c1,c2,c3]) rfl ⟨by rw[<-HG.out,(HY.out HYES.out).1,(HY.out HYES.out).2],?_⟩;exact((((HT.out.2.2.setCell (p:=⟨w.heap.size,0,none⟩) lr _).setCell (p:=⟨w.heap.size,1,none⟩) lr _).setCell (p:=⟨w.heap.size,2,none⟩) lr _).setCell (p:=⟨w.heap.size,3,none⟩) lr _).drew
