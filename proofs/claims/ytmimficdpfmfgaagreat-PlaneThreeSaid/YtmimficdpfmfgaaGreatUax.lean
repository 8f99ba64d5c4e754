/- Laws for the walk. -/
import Derived.Test.YtmimficdpfmfgaaGreatUaw
set_option linter.unusedVariables false
set_option maxHeartbeats 4000000
set_option maxRecDepth 100000
namespace Go.Proofs.YtmimficdpfmfgaaGreat
open Go.RowKit Tr
theorem box_two(w:World)(u1 u2 u3 u4:Value)(A:Nat→Prop)(hA:Rcv A w) :
  ∃ W,Hid (W=((w.alloc (.cells #[u1,u2] 116)).alloc (.cells #[u3,u4] 116)).alloc (.cells #[.pointer none,.pointer none] 116)∧Below w.heap.size w W∧Rcv (Mo A (w.heap.size+2)) W∧∀ w1,Below W.heap.size W w1→w1.cell? ⟨w.heap.size+2,0,none⟩=some (.pointer none)∧w1.cell? ⟨w.heap.size+2,1,none⟩=some (.pointer none)∧w1.frozen? ⟨w.heap.size+2,0,none⟩=false∧w1.frozen? ⟨w.heap.size+2,1,none⟩=false)∧w.heap.size<W.heap.size∧w.heap.size+1<W.heap.size∧W.cell? ⟨w.heap.size,0,none⟩=some u1∧W.cell? ⟨w.heap.size,1,none⟩=some u2∧W.cell? ⟨w.heap.size+1,0,none⟩=some u3∧W.cell? ⟨w.heap.size+1,1,none⟩=some u4:=by
 obtain⟨w1,hw1⟩:∃ w1,w1=w.alloc (.cells #[u1,u2] 116):=⟨_,rfl⟩
 have hz1:w1.heap.size=w.heap.size+1:=by rw[hw1]; simp
 obtain⟨w2,hw2⟩:∃ w2,w2=w1.alloc (.cells #[u3,u4] 116):=⟨_,rfl⟩
 have hz2:w2.heap.size=w.heap.size+2:=by rw[hw2]; simp[hz1]
 have hb01:Below w.heap.size w w1:=by rw[hw1]; exact br.alloc (Nat.le_refl _) _
 have hb12:Below w1.heap.size w1 w2:=by rw[hw2]; exact br.alloc (Nat.le_refl _) _
 have hb23:Below w2.heap.size w2 (w2.alloc (.cells #[.pointer none,.pointer none] 116)):=br.alloc (Nat.le_refl _) _
 have hb13:=hb12.trans (hb23.mono hb12.size)
 have hb:Below w.heap.size w (w2.alloc (.cells #[.pointer none,.pointer none] 116)):=hb01.trans (hb13.mono hb01.size)
 obtain⟨e0,e1,_⟩:=Qgh w u1 u2 116 (by rw[←hw1]; exact hb13)
 obtain⟨e2,e3,_⟩:=Qgh w1 u3 u4 116 (by rw[←hw2]; exact hb23)
 have hn:=heap_alloc_new w2 (.cells #[.pointer none,.pointer none] 116 (0,0))
 rw[hz2] at hn
 rw[hz1] at e2 e3
 refine⟨w2.alloc (.cells #[.pointer none,.pointer none] 116),Lib.hid ⟨by rw[hw2,hw1],hb,fun b h=>h.elim (fun h=>(hA.below hb) b h) (fun h=>by subst h; exact⟨_,hn,noW_num _ _ ⟨_,rfl⟩ ⟨_,rfl⟩ _⟩),fun w1 h=>?_⟩,by simp; omega,by simp; omega,e0,e1,e2,e3⟩
 have:=Qgh w2 (.pointer none) (.pointer none) 116 h
 rw[hz2] at this
 exact this
theorem NNorm_any(a b:Rat)(v:Value)(A:Nat→Prop)(w:World)(hv:Qgr a b v w A)(hA:Rcv A w)(k:Nat)(hla:RL a k)(hlb:RL b k)(hkl:k+k+(k+k)<137438953472) :
  Calls Tryz.prog 189 #[v] w fun e w'=>∃ u,e=.returned u∧Below w.heap.size w w'∧Qbl (a*a+b*b) u w' A:=by
 obtain⟨u1,u2,rfl,h1,h2⟩:=hv
 obtain⟨W,hW⟩:∃ W,W=w.alloc (.cells #[u1,u2] 116):=⟨_,rfl⟩
 obtain⟨e0,e1,_⟩:=Qgh w u1 u2 116 br
 have hb:Below w.heap.size w W:=by rw[hW]; exact br.alloc (Nat.le_refl _) _
 have hs2:w.heap.size<W.heap.size:=by rw[hW]; simp
 rw[←hW] at e0 e1
 have HV:=Lib.hid (And.intro hW (And.intro hb (hA.below hb)))
 have h1:=Qbe.start (Qdw.keeps a) (h1.below hb)
 have h2:=Qbe.start (Qdw.keeps b) (h2.below hb)
 clear hA hW hb
 go_enter Tryz.func189,Tryz.ntmps189
 go_wp2_with fail
 rw[←HV.out.1]
 refine Qas [(.new zR,[]),(.lit,[]),(.lit,[]),(.lit,[]),(.lit,[]),(.val,[]),(.lit,[]),(.lit,[]),(.lit,[]),(.lit,[]),(.val,[]),(.on 0 zR,[5,10])]
  (Qeg [(5,Qbe A (Qbl (a*a))),(10,Qbe A (Qbl (b*b))),(11,Qbe A (Qbl (a*a+b*b)))]) (by kernel_rfl) ?_ ?_ (by simp[Qcl]) (by simp) (by kernel_rfl)
 ·exact Qbd (by simp only[List.mem_cons,List.not_mem_nil,or_false]; rintro p (rfl|rfl|rfl)<;>exact Qbe.keeps (Qbl.keeps _))
 ·refine⟨fun f w1=>by go_simp,?_⟩
  refine⟨_,fun f w1 h1=>by(have d0:=ct h1 hs2 e0; have d1:=ct h1 hs2 e1; go_simp; rfl),?_⟩
  refine⟨_,fun f w1 h1=>by(have d0:=ct h1 hs2 e0; have d1:=ct h1 hs2 e1; go_simp; rfl),?_⟩
  refine⟨_,fun f w1 h1=>by(have d0:=ct h1 hs2 e0; have d1:=ct h1 hs2 e1; go_simp; rfl),?_⟩
  refine⟨_,fun f w1 h1=>by(have d0:=ct h1 hs2 e0; have d1:=ct h1 hs2 e1; go_simp; rfl),?_⟩
  simp only[Act.put,nrA,nrB,nrC,Nat.reduceAdd]
  refine⟨fun f w1 A1 k1 hA hN hd K hK=>by
   go_simp
   refine(Qga a a u1 u1 (Un A A1) w1 (Qcw (Qbe.keeps (Qdw.keeps _)) h1 k1 hN) (Qcw (Qbe.keeps (Qdw.keeps _)) h1 k1 hN) (Qdz (HV.out.2.2.below (br.drew.trans k1)) hA) k k hla hla (by omega)).mono ?_
   rintro e w' ⟨v,rfl,hb,hr⟩
   exact hK _ _ hb hr,?_⟩
  refine⟨_,fun f w1 h1=>by(have d0:=ct h1 hs2 e0; have d1:=ct h1 hs2 e1; go_simp; rfl),?_⟩
  refine⟨_,fun f w1 h1=>by(have d0:=ct h1 hs2 e0; have d1:=ct h1 hs2 e1; go_simp; rfl),?_⟩
  refine⟨_,fun f w1 h1=>by(have d0:=ct h1 hs2 e0; have d1:=ct h1 hs2 e1; go_simp; rfl),?_⟩
  refine⟨_,fun f w1 h1=>by(have d0:=ct h1 hs2 e0; have d1:=ct h1 hs2 e1; go_simp; rfl),?_⟩
  simp only[Act.put,nrA,nrB,nrC,Nat.reduceAdd]
  refine⟨fun f w1 A1 k1 hA hN hd K hK=>by
   go_simp
   refine(Qga b b u2 u2 (Un A A1) w1 (Qcw (Qbe.keeps (Qdw.keeps _)) h2 k1 hN) (Qcw (Qbe.keeps (Qdw.keeps _)) h2 k1 hN) (Qdz (HV.out.2.2.below (br.drew.trans k1)) hA) k k hlb hlb (by omega)).mono ?_
   rintro e w' ⟨v,rfl,hb,hr⟩
   exact hK _ _ hb hr,?_⟩
  simp only[Act.put,nrA,nrB,nrC,Nat.reduceAdd]
  refine⟨fun f w1 A1 m1 k1 hA hN hAm hm0 e hz hd K hK=>by
   simp only[e] at hK ⊢
   have i1:Qbl (a*a) (f 5) w1 (Un A A1):=hd 5 (by simp)
   have i2:Qbl (b*b) (f 10) w1 (Un A A1):=hd 10 (by simp)
   go_simp
   refine(RAdd_any m1 _ _ _ _ _ _ w1 hz (by decide) Qcl i1 i2 (k+k) (k+k) (Qat hla hla) (Qat hlb hlb) (by omega)).mono ?_
   rintro e w' ⟨rfl,hp⟩
   exact hK _ w' hp.1 (hp.ratU (HV.out.2.2.below (br.drew.trans k1)) hA hm0 (fun b hb=>HV.out.2.2.lt hb)),?_⟩
  intro f w1 k1 hF
  have i0:Qbl (a*a) (f 5) w1 (A):=Qbe.done (Qbl.keeps _) hF.1.1.2
  have i1:Qbl (b*b) (f 10) w1 (A):=Qbe.done (Qbl.keeps _) hF.1.2
  have i2:Qbl (a*a+b*b) (f 11) w1 (A):=Qbe.done (Qbl.keeps _) hF.2
  clear hF
  simp only[Act.put,nrA,nrB,nrC]
  generalize f 5=v0 at *
  generalize f 10=v1 at *
  generalize f 11=v2 at *
  have hb1:Below W.heap.size W w1:=br.drew.trans k1
  have hbw:=HV.out.2.1.trans (hb1.mono HV.out.2.1.size)
  have HE:=Lib.hid (And.intro i2 hbw)
  clear e0 e1 h1 h2 i0 i1 i2 hbw hb1 k1
  go_wp2_with fail
  go_ret
  exact⟨v2,rfl,HE.out.2,HE.out.1⟩
theorem NSub_any(a b c d:Rat)(v v':Value)(A:Nat→Prop)(w:World)(hv:Qgr a b v w A)(hv':Qgr c d v' w A)(hA:Rcv A w)(k l:Nat)(hla:RL a k)(hlb:RL b k)(hlc:RL c l)(hld:RL d l)(hkl:k+l+(k+l)<137438953472) :
  Calls Tryz.prog 128 #[v,v'] w fun e w'=>∃ u,e=.returned u∧Below w.heap.size w w'∧Qgr (a - c) (b - d) u w' A:=by
 obtain⟨u1,u2,rfl,h1,h2⟩:=hv
 obtain⟨u3,u4,rfl,h3,h4⟩:=hv'
 obtain⟨W,HV,hs1,hs2,e0,e1,e2,e3⟩:=box_two w u1 u2 u3 u4 A hA
 have h1:=Qcx (Qdw.keeps a) (n:=w.heap.size+2) HV.out.2.1 (by omega) h1
 have h2:=Qcx (Qdw.keeps b) (n:=w.heap.size+2) HV.out.2.1 (by omega) h2
 have h3:=Qcx (Qdw.keeps c) (n:=w.heap.size+2) HV.out.2.1 (by omega) h3
 have h4:=Qcx (Qdw.keeps d) (n:=w.heap.size+2) HV.out.2.1 (by omega) h4
 clear hA
 go_enter Tryz.func128,Tryz.ntmps128
 go_wp2_with fail
 rw[←HV.out.1]
 refine Qas [(.new zR,[]),(.lit,[]),(.lit,[]),(.val,[]),(.lit,[]),(.lit,[]),(.val,[]),(.on 0 zR,[3,6]),(.new zR,[]),(.lit,[]),(.lit,[]),(.val,[]),(.lit,[]),(.lit,[]),(.val,[]),(.on 8 zR,[11,14])]
  (Qeg [(3,Qbe (Mo A (w.heap.size+2)) (Qbl (a))),(6,Qbe (Mo A (w.heap.size+2)) (Qbl (c))),(7,Qbe (Mo A (w.heap.size+2)) (Qbl (a - c))),(11,Qbe (Mo A (w.heap.size+2)) (Qbl (b))),(14,Qbe (Mo A (w.heap.size+2)) (Qbl (d))),(15,Qbe (Mo A (w.heap.size+2)) (Qbl (b - d)))]) (by kernel_rfl) ?_ ?_ (by simp[Qcl]) (by simp) (by kernel_rfl)
 ·exact Qbd (by simp only[List.mem_cons,List.not_mem_nil,or_false]; rintro p (rfl|rfl|rfl|rfl|rfl|rfl)<;>exact Qbe.keeps (Qbl.keeps _))
 ·refine⟨fun f w1=>by go_simp,?_⟩
  refine⟨_,fun f w1 h1=>by(have d0:=ct h1 hs1 e0; have d1:=ct h1 hs1 e1; have d2:=ct h1 hs2 e2; have d3:=ct h1 hs2 e3; go_simp; rfl),?_⟩
  refine⟨_,fun f w1 h1=>by(have d0:=ct h1 hs1 e0; have d1:=ct h1 hs1 e1; have d2:=ct h1 hs2 e2; have d3:=ct h1 hs2 e3; go_simp; rfl),?_⟩
  simp only[Act.put,nrA,nrB,nrC,Nat.reduceAdd]
  refine⟨fun f w1 A1 k1 hA hN hd K hK=>by
   go_simp
   refine(Qdo a u1 (Un (Mo A (w.heap.size+2)) A1) w1 (Qcw (Qbe.keeps (Qdw.keeps _)) h1 k1 hN) (Qdz (HV.out.2.2.1.below (br.drew.trans k1)) hA)).mono ?_
   rintro e w' ⟨v,rfl,hb,hr⟩
   exact hK _ _ hb hr,?_⟩
  refine⟨_,fun f w1 h1=>by(have d0:=ct h1 hs1 e0; have d1:=ct h1 hs1 e1; have d2:=ct h1 hs2 e2; have d3:=ct h1 hs2 e3; go_simp; rfl),?_⟩
  refine⟨_,fun f w1 h1=>by(have d0:=ct h1 hs1 e0; have d1:=ct h1 hs1 e1; have d2:=ct h1 hs2 e2; have d3:=ct h1 hs2 e3; go_simp; rfl),?_⟩
  simp only[Act.put,nrA,nrB,nrC,Nat.reduceAdd]
  refine⟨fun f w1 A1 k1 hA hN hd K hK=>by
   go_simp
   refine(Qdo c u3 (Un (Mo A (w.heap.size+2)) A1) w1 (Qcw (Qbe.keeps (Qdw.keeps _)) h3 k1 hN) (Qdz (HV.out.2.2.1.below (br.drew.trans k1)) hA)).mono ?_
   rintro e w' ⟨v,rfl,hb,hr⟩
   exact hK _ _ hb hr,?_⟩
  simp only[Act.put,nrA,nrB,nrC,Nat.reduceAdd]
  refine⟨fun f w1 A1 m1 k1 hA hN hAm hm0 e hz hd K hK=>by
   simp only[e] at hK ⊢
   have i1:Qbl (a) (f 3) w1 (Un (Mo A (w.heap.size+2)) A1):=hd 3 (by simp)
   have i2:Qbl (c) (f 6) w1 (Un (Mo A (w.heap.size+2)) A1):=hd 6 (by simp)
   go_simp
   refine(RSub_any m1 _ _ _ _ _ _ w1 hz (by decide) Qcl i1 i2 (k) (l) hla hlc (by omega)).mono ?_
   rintro e w' ⟨rfl,hp⟩
   exact hK _ w' hp.1 (hp.ratU (HV.out.2.2.1.below (br.drew.trans k1)) hA hm0 (fun b hb=>HV.out.2.2.1.lt hb)),?_⟩
  refine⟨fun f w1=>by go_simp,?_⟩
  refine⟨_,fun f w1 h1=>by(have d0:=ct h1 hs1 e0; have d1:=ct h1 hs1 e1; have d2:=ct h1 hs2 e2; have d3:=ct h1 hs2 e3; go_simp; rfl),?_⟩
  refine⟨_,fun f w1 h1=>by(have d0:=ct h1 hs1 e0; have d1:=ct h1 hs1 e1; have d2:=ct h1 hs2 e2; have d3:=ct h1 hs2 e3; go_simp; rfl),?_⟩
  simp only[Act.put,nrA,nrB,nrC,Nat.reduceAdd]
  refine⟨fun f w1 A1 k1 hA hN hd K hK=>by
   go_simp
   refine(Qdo b u2 (Un (Mo A (w.heap.size+2)) A1) w1 (Qcw (Qbe.keeps (Qdw.keeps _)) h2 k1 hN) (Qdz (HV.out.2.2.1.below (br.drew.trans k1)) hA)).mono ?_
   rintro e w' ⟨v,rfl,hb,hr⟩
   exact hK _ _ hb hr,?_⟩
  refine⟨_,fun f w1 h1=>by(have d0:=ct h1 hs1 e0; have d1:=ct h1 hs1 e1; have d2:=ct h1 hs2 e2; have d3:=ct h1 hs2 e3; go_simp; rfl),?_⟩
  refine⟨_,fun f w1 h1=>by(have d0:=ct h1 hs1 e0; have d1:=ct h1 hs1 e1; have d2:=ct h1 hs2 e2; have d3:=ct h1 hs2 e3; go_simp; rfl),?_⟩
  simp only[Act.put,nrA,nrB,nrC,Nat.reduceAdd]
  refine⟨fun f w1 A1 k1 hA hN hd K hK=>by
   go_simp
   refine(Qdo d u4 (Un (Mo A (w.heap.size+2)) A1) w1 (Qcw (Qbe.keeps (Qdw.keeps _)) h4 k1 hN) (Qdz (HV.out.2.2.1.below (br.drew.trans k1)) hA)).mono ?_
   rintro e w' ⟨v,rfl,hb,hr⟩
   exact hK _ _ hb hr,?_⟩
  simp only[Act.put,nrA,nrB,nrC,Nat.reduceAdd]
  refine⟨fun f w1 A1 m1 k1 hA hN hAm hm0 e hz hd K hK=>by
   simp only[e] at hK ⊢
   have i1:Qbl (b) (f 11) w1 (Un (Mo A (w.heap.size+2)) A1):=hd 11 (by simp)
   have i2:Qbl (d) (f 14) w1 (Un (Mo A (w.heap.size+2)) A1):=hd 14 (by simp)
   go_simp
   refine(RSub_any m1 _ _ _ _ _ _ w1 hz (by decide) Qcl i1 i2 (k) (l) hlb hld (by omega)).mono ?_
   rintro e w' ⟨rfl,hp⟩
   exact hK _ w' hp.1 (hp.ratU (HV.out.2.2.1.below (br.drew.trans k1)) hA hm0 (fun b hb=>HV.out.2.2.1.lt hb)),?_⟩
  intro f w1 k1 hF
  have i0:Qbl (a) (f 3) w1 ((Mo A (w.heap.size+2))):=Qbe.done (Qbl.keeps _) hF.1.1.1.1.1.2
  have i1:Qbl (c) (f 6) w1 ((Mo A (w.heap.size+2))):=Qbe.done (Qbl.keeps _) hF.1.1.1.1.2
  have i2:Qbl (a - c) (f 7) w1 ((Mo A (w.heap.size+2))):=Qbe.done (Qbl.keeps _) hF.1.1.1.2
  have i3:Qbl (b) (f 11) w1 ((Mo A (w.heap.size+2))):=Qbe.done (Qbl.keeps _) hF.1.1.2
  have i4:Qbl (d) (f 14) w1 ((Mo A (w.heap.size+2))):=Qbe.done (Qbl.keeps _) hF.1.2
  have i5:Qbl (b - d) (f 15) w1 ((Mo A (w.heap.size+2))):=Qbe.done (Qbl.keeps _) hF.2
  clear hF
  simp only[Act.put,nrA,nrB,nrC]
  generalize f 3=v0 at *
  generalize f 6=v1 at *
  generalize f 7=v2 at *
  generalize f 11=v3 at *
  generalize f 14=v4 at *
  generalize f 15=v5 at *
  have hb1:Below W.heap.size W w1:=br.drew.trans k1
  obtain⟨c0,c1,f0,f1⟩:=HV.out.2.2.2 w1 hb1
  have hbw:=HV.out.2.1.trans (hb1.mono HV.out.2.1.size)
  have HE:=Lib.hid (And.intro i2 (And.intro i5 hbw))
  obtain⟨m1,rfl⟩:=i2.shape
  obtain⟨m2,rfl⟩:=i5.shape
  clear e0 e1 e2 e3 h1 h2 h3 h4 i0 i1 i2 i3 i4 i5 hbw hb1 k1
  go_wp2_with fail
  refine bodyPost_ret (v:=.agg #[.pointer (some ⟨m1,0,none⟩),.pointer (some ⟨m2,0,none⟩)]) (by simp[results,Tryz.results128,go_sem,c0,c1]) rfl ?_
  exact put_num HE.out.2.2 HE.out.1 HE.out.2.1 (by omega)
theorem NMul_any(a b c d:Rat)(v v':Value)(A:Nat→Prop)(w:World)(hv:Qgr a b v w A)(hv':Qgr c d v' w A)(hA:Rcv A w)(k l:Nat)(hla:RL a k)(hlb:RL b k)(hlc:RL c l)(hld:RL d l)(hkl:k+l+(k+l)<137438953472) :
  Calls Tryz.prog 129 #[v,v'] w fun e w'=>∃ u,e=.returned u∧Below w.heap.size w w'∧Qgr (a*c - b*d) (a*d+b*c) u w' A:=by
 obtain⟨u1,u2,rfl,h1,h2⟩:=hv
 obtain⟨u3,u4,rfl,h3,h4⟩:=hv'
 obtain⟨W,HV,hs1,hs2,e0,e1,e2,e3⟩:=box_two w u1 u2 u3 u4 A hA
 have h1:=Qcx (Qdw.keeps a) (n:=w.heap.size+2) HV.out.2.1 (by omega) h1
 have h2:=Qcx (Qdw.keeps b) (n:=w.heap.size+2) HV.out.2.1 (by omega) h2
 have h3:=Qcx (Qdw.keeps c) (n:=w.heap.size+2) HV.out.2.1 (by omega) h3
 have h4:=Qcx (Qdw.keeps d) (n:=w.heap.size+2) HV.out.2.1 (by omega) h4
 clear hA
 go_enter Tryz.func129,Tryz.ntmps129
 go_wp2_with fail
 rw[←HV.out.1]
 refine Qas [(.new zR,[]),(.lit,[]),(.lit,[]),(.lit,[]),(.lit,[]),(.val,[]),(.lit,[]),(.lit,[]),(.lit,[]),(.lit,[]),(.val,[]),(.on 0 zR,[5,10]),(.new zR,[]),(.lit,[]),(.lit,[]),(.lit,[]),(.lit,[]),(.val,[]),(.lit,[]),(.lit,[]),(.lit,[]),(.lit,[]),(.val,[]),(.on 12 zR,[17,22])]
  (Qeg [(5,Qbe (Mo A (w.heap.size+2)) (Qbl (a*c))),(10,Qbe (Mo A (w.heap.size+2)) (Qbl (b*d))),(11,Qbe (Mo A (w.heap.size+2)) (Qbl (a*c - b*d))),(17,Qbe (Mo A (w.heap.size+2)) (Qbl (a*d))),(22,Qbe (Mo A (w.heap.size+2)) (Qbl (b*c))),(23,Qbe (Mo A (w.heap.size+2)) (Qbl (a*d+b*c)))]) (by kernel_rfl) ?_ ?_ (by simp[Qcl]) (by simp) (by kernel_rfl)
 ·exact Qbd (by simp only[List.mem_cons,List.not_mem_nil,or_false]; rintro p (rfl|rfl|rfl|rfl|rfl|rfl)<;>exact Qbe.keeps (Qbl.keeps _))
 ·refine⟨fun f w1=>by go_simp,?_⟩
  refine⟨_,fun f w1 h1=>by(have d0:=ct h1 hs1 e0; have d1:=ct h1 hs1 e1; have d2:=ct h1 hs2 e2; have d3:=ct h1 hs2 e3; go_simp; rfl),?_⟩
  refine⟨_,fun f w1 h1=>by(have d0:=ct h1 hs1 e0; have d1:=ct h1 hs1 e1; have d2:=ct h1 hs2 e2; have d3:=ct h1 hs2 e3; go_simp; rfl),?_⟩
  refine⟨_,fun f w1 h1=>by(have d0:=ct h1 hs1 e0; have d1:=ct h1 hs1 e1; have d2:=ct h1 hs2 e2; have d3:=ct h1 hs2 e3; go_simp; rfl),?_⟩
  refine⟨_,fun f w1 h1=>by(have d0:=ct h1 hs1 e0; have d1:=ct h1 hs1 e1; have d2:=ct h1 hs2 e2; have d3:=ct h1 hs2 e3; go_simp; rfl),?_⟩
  simp only[Act.put,nrA,nrB,nrC,Nat.reduceAdd]
  refine⟨fun f w1 A1 k1 hA hN hd K hK=>by
   go_simp
   refine(Qga a c u1 u3 (Un (Mo A (w.heap.size+2)) A1) w1 (Qcw (Qbe.keeps (Qdw.keeps _)) h1 k1 hN) (Qcw (Qbe.keeps (Qdw.keeps _)) h3 k1 hN) (Qdz (HV.out.2.2.1.below (br.drew.trans k1)) hA) k l hla hlc (by omega)).mono ?_
   rintro e w' ⟨v,rfl,hb,hr⟩
   exact hK _ _ hb hr,?_⟩
  refine⟨_,fun f w1 h1=>by(have d0:=ct h1 hs1 e0; have d1:=ct h1 hs1 e1; have d2:=ct h1 hs2 e2; have d3:=ct h1 hs2 e3; go_simp; rfl),?_⟩
  refine⟨_,fun f w1 h1=>by(have d0:=ct h1 hs1 e0; have d1:=ct h1 hs1 e1; have d2:=ct h1 hs2 e2; have d3:=ct h1 hs2 e3; go_simp; rfl),?_⟩
  refine⟨_,fun f w1 h1=>by(have d0:=ct h1 hs1 e0; have d1:=ct h1 hs1 e1; have d2:=ct h1 hs2 e2; have d3:=ct h1 hs2 e3; go_simp; rfl),?_⟩
  refine⟨_,fun f w1 h1=>by(have d0:=ct h1 hs1 e0; have d1:=ct h1 hs1 e1; have d2:=ct h1 hs2 e2; have d3:=ct h1 hs2 e3; go_simp; rfl),?_⟩
  simp only[Act.put,nrA,nrB,nrC,Nat.reduceAdd]
  refine⟨fun f w1 A1 k1 hA hN hd K hK=>by
   go_simp
   refine(Qga b d u2 u4 (Un (Mo A (w.heap.size+2)) A1) w1 (Qcw (Qbe.keeps (Qdw.keeps _)) h2 k1 hN) (Qcw (Qbe.keeps (Qdw.keeps _)) h4 k1 hN) (Qdz (HV.out.2.2.1.below (br.drew.trans k1)) hA) k l hlb hld (by omega)).mono ?_
   rintro e w' ⟨v,rfl,hb,hr⟩
   exact hK _ _ hb hr,?_⟩
  simp only[Act.put,nrA,nrB,nrC,Nat.reduceAdd]
  refine⟨fun f w1 A1 m1 k1 hA hN hAm hm0 e hz hd K hK=>by
   simp only[e] at hK ⊢
   have i1:Qbl (a*c) (f 5) w1 (Un (Mo A (w.heap.size+2)) A1):=hd 5 (by simp)
   have i2:Qbl (b*d) (f 10) w1 (Un (Mo A (w.heap.size+2)) A1):=hd 10 (by simp)
   go_simp
   refine(RSub_any m1 _ _ _ _ _ _ w1 hz (by decide) Qcl i1 i2 (k+l) (k+l) (Qat hla hlc) (Qat hlb hld) (by omega)).mono ?_
   rintro e w' ⟨rfl,hp⟩
   exact hK _ w' hp.1 (hp.ratU (HV.out.2.2.1.below (br.drew.trans k1)) hA hm0 (fun b hb=>HV.out.2.2.1.lt hb)),?_⟩
  refine⟨fun f w1=>by go_simp,?_⟩
  refine⟨_,fun f w1 h1=>by(have d0:=ct h1 hs1 e0; have d1:=ct h1 hs1 e1; have d2:=ct h1 hs2 e2; have d3:=ct h1 hs2 e3; go_simp; rfl),?_⟩
  refine⟨_,fun f w1 h1=>by(have d0:=ct h1 hs1 e0; have d1:=ct h1 hs1 e1; have d2:=ct h1 hs2 e2; have d3:=ct h1 hs2 e3; go_simp; rfl),?_⟩
  refine⟨_,fun f w1 h1=>by(have d0:=ct h1 hs1 e0; have d1:=ct h1 hs1 e1; have d2:=ct h1 hs2 e2; have d3:=ct h1 hs2 e3; go_simp; rfl),?_⟩
  refine⟨_,fun f w1 h1=>by(have d0:=ct h1 hs1 e0; have d1:=ct h1 hs1 e1; have d2:=ct h1 hs2 e2; have d3:=ct h1 hs2 e3; go_simp; rfl),?_⟩
  simp only[Act.put,nrA,nrB,nrC,Nat.reduceAdd]
  refine⟨fun f w1 A1 k1 hA hN hd K hK=>by
   go_simp
   refine(Qga a d u1 u4 (Un (Mo A (w.heap.size+2)) A1) w1 (Qcw (Qbe.keeps (Qdw.keeps _)) h1 k1 hN) (Qcw (Qbe.keeps (Qdw.keeps _)) h4 k1 hN) (Qdz (HV.out.2.2.1.below (br.drew.trans k1)) hA) k l hla hld (by omega)).mono ?_
   rintro e w' ⟨v,rfl,hb,hr⟩
   exact hK _ _ hb hr,?_⟩
  refine⟨_,fun f w1 h1=>by(have d0:=ct h1 hs1 e0; have d1:=ct h1 hs1 e1; have d2:=ct h1 hs2 e2; have d3:=ct h1 hs2 e3; go_simp; rfl),?_⟩
  refine⟨_,fun f w1 h1=>by(have d0:=ct h1 hs1 e0; have d1:=ct h1 hs1 e1; have d2:=ct h1 hs2 e2; have d3:=ct h1 hs2 e3; go_simp; rfl),?_⟩
  refine⟨_,fun f w1 h1=>by(have d0:=ct h1 hs1 e0; have d1:=ct h1 hs1 e1; have d2:=ct h1 hs2 e2; have d3:=ct h1 hs2 e3; go_simp; rfl),?_⟩
  refine⟨_,fun f w1 h1=>by(have d0:=ct h1 hs1 e0; have d1:=ct h1 hs1 e1; have d2:=ct h1 hs2 e2; have d3:=ct h1 hs2 e3; go_simp; rfl),?_⟩
  simp only[Act.put,nrA,nrB,nrC,Nat.reduceAdd]
  refine⟨fun f w1 A1 k1 hA hN hd K hK=>by
   go_simp
   refine(Qga b c u2 u3 (Un (Mo A (w.heap.size+2)) A1) w1 (Qcw (Qbe.keeps (Qdw.keeps _)) h2 k1 hN) (Qcw (Qbe.keeps (Qdw.keeps _)) h3 k1 hN) (Qdz (HV.out.2.2.1.below (br.drew.trans k1)) hA) k l hlb hlc (by omega)).mono ?_
   rintro e w' ⟨v,rfl,hb,hr⟩
   exact hK _ _ hb hr,?_⟩
  simp only[Act.put,nrA,nrB,nrC,Nat.reduceAdd]
  refine⟨fun f w1 A1 m1 k1 hA hN hAm hm0 e hz hd K hK=>by
   simp only[e] at hK ⊢
   have i1:Qbl (a*d) (f 17) w1 (Un (Mo A (w.heap.size+2)) A1):=hd 17 (by simp)
   have i2:Qbl (b*c) (f 22) w1 (Un (Mo A (w.heap.size+2)) A1):=hd 22 (by simp)
   go_simp
   refine(RAdd_any m1 _ _ _ _ _ _ w1 hz (by decide) Qcl i1 i2 (k+l) (k+l) (Qat hla hld) (Qat hlb hlc) (by omega)).mono ?_
   rintro e w' ⟨rfl,hp⟩
   exact hK _ w' hp.1 (hp.ratU (HV.out.2.2.1.below (br.drew.trans k1)) hA hm0 (fun b hb=>HV.out.2.2.1.lt hb)),?_⟩
  intro f w1 k1 hF
  have i0:Qbl (a*c) (f 5) w1 ((Mo A (w.heap.size+2))):=Qbe.done (Qbl.keeps _) hF.1.1.1.1.1.2
  have i1:Qbl (b*d) (f 10) w1 ((Mo A (w.heap.size+2))):=Qbe.done (Qbl.keeps _) hF.1.1.1.1.2
  have i2:Qbl (a*c - b*d) (f 11) w1 ((Mo A (w.heap.size+2))):=Qbe.done (Qbl.keeps _) hF.1.1.1.2
  have i3:Qbl (a*d) (f 17) w1 ((Mo A (w.heap.size+2))):=Qbe.done (Qbl.keeps _) hF.1.1.2
  have i4:Qbl (b*c) (f 22) w1 ((Mo A (w.heap.size+2))):=Qbe.done (Qbl.keeps _) hF.1.2
  have i5:Qbl (a*d+b*c) (f 23) w1 ((Mo A (w.heap.size+2))):=Qbe.done (Qbl.keeps _) hF.2
  clear hF
  simp only[Act.put,nrA,nrB,nrC]
  generalize f 5=v0 at *
  generalize f 10=v1 at *
  generalize f 11=v2 at *
  generalize f 17=v3 at *
  generalize f 22=v4 at *
  generalize f 23=v5 at *
  have hb1:Below W.heap.size W w1:=br.drew.trans k1
  obtain⟨c0,c1,f0,f1⟩:=HV.out.2.2.2 w1 hb1
  have hbw:=HV.out.2.1.trans (hb1.mono HV.out.2.1.size)
  have HE:=Lib.hid (And.intro i2 (And.intro i5 hbw))
  obtain⟨m1,rfl⟩:=i2.shape
  obtain⟨m2,rfl⟩:=i5.shape
  clear e0 e1 e2 e3 h1 h2 h3 h4 i0 i1 i2 i3 i4 i5 hbw hb1 k1
  go_wp2_with fail
  refine bodyPost_ret (v:=.agg #[.pointer (some ⟨m1,0,none⟩),.pointer (some ⟨m2,0,none⟩)]) (by simp[results,Tryz.results129,go_sem,c0,c1]) rfl ?_
  exact put_num HE.out.2.2 HE.out.1 HE.out.2.1 (by omega)
theorem NConj_any(a b:Rat)(v:Value)(A:Nat→Prop)(w:World)(hv:Qgr a b v w A)(hA:Rcv A w)(hlb:RL b 137438953472) :
  Calls Tryz.prog 173 #[v] w fun e w'=>∃ u,e=.returned u∧Below w.heap.size w w'∧Qgr a (-b) u w' A:=by
 obtain⟨u1,u2,rfl,h1,h2⟩:=hv
 obtain⟨W,HV,hs2,e0,e1⟩:=box_one w u1 u2 A hA
 have h1:=Qcx (Qdw.keeps a) (n:=w.heap.size+1) HV.out.2.1 (by omega) h1
 have h2:=Qcx (Qdw.keeps b) (n:=w.heap.size+1) HV.out.2.1 (by omega) h2
 clear hA
 go_enter Tryz.func173,Tryz.ntmps173
 go_wp2_with fail
 rw[←HV.out.1]
 refine Qas [(.lit,[]),(.lit,[]),(.val,[]),(.new zR,[]),(.lit,[]),(.lit,[]),(.val,[]),(.on 3 zR,[6])]
  (Qeg [(2,Qbe (Mo A (w.heap.size+1)) (Qbl (a))),(6,Qbe (Mo A (w.heap.size+1)) (Qbl (b))),(7,Qbe (Mo A (w.heap.size+1)) (Qbl (-b)))]) (by kernel_rfl) ?_ ?_ (by simp[Qcl]) (by simp) (by kernel_rfl)
 ·exact Qbd (by simp only[List.mem_cons,List.not_mem_nil,or_false]; rintro p (rfl|rfl|rfl)<;>exact Qbe.keeps (Qbl.keeps _))
 ·refine⟨_,fun f w1 h1=>by(have d0:=ct h1 hs2 e0; have d1:=ct h1 hs2 e1; go_simp; rfl),?_⟩
  refine⟨_,fun f w1 h1=>by(have d0:=ct h1 hs2 e0; have d1:=ct h1 hs2 e1; go_simp; rfl),?_⟩
  simp only[Act.put,nrA,nrB,nrC,Nat.reduceAdd]
  refine⟨fun f w1 A1 k1 hA hN hd K hK=>by
   go_simp
   refine(Qdo a u1 (Un (Mo A (w.heap.size+1)) A1) w1 (Qcw (Qbe.keeps (Qdw.keeps _)) h1 k1 hN) (Qdz (HV.out.2.2.1.below (br.drew.trans k1)) hA)).mono ?_
   rintro e w' ⟨v,rfl,hb,hr⟩
   exact hK _ _ hb hr,?_⟩
  refine⟨fun f w1=>by go_simp,?_⟩
  refine⟨_,fun f w1 h1=>by(have d0:=ct h1 hs2 e0; have d1:=ct h1 hs2 e1; go_simp; rfl),?_⟩
  refine⟨_,fun f w1 h1=>by(have d0:=ct h1 hs2 e0; have d1:=ct h1 hs2 e1; go_simp; rfl),?_⟩
  simp only[Act.put,nrA,nrB,nrC,Nat.reduceAdd]
  refine⟨fun f w1 A1 k1 hA hN hd K hK=>by
   go_simp
   refine(Qdo b u2 (Un (Mo A (w.heap.size+1)) A1) w1 (Qcw (Qbe.keeps (Qdw.keeps _)) h2 k1 hN) (Qdz (HV.out.2.2.1.below (br.drew.trans k1)) hA)).mono ?_
   rintro e w' ⟨v,rfl,hb,hr⟩
   exact hK _ _ hb hr,?_⟩
  simp only[Act.put,nrA,nrB,nrC,Nat.reduceAdd]
  refine⟨fun f w1 A1 m1 k1 hA hN hAm hm0 e hz hd K hK=>by
   simp only[e] at hK ⊢
   have i1:Qbl (b) (f 6) w1 (Un (Mo A (w.heap.size+1)) A1):=hd 6 (by simp)
   go_simp
   refine(RNeg_any m1 _ _ _ _ w1 hz (by decide) Qcl i1 hlb).mono ?_
   rintro e w' ⟨rfl,hp⟩
   exact hK _ w' hp.1 (hp.ratU (HV.out.2.2.1.below (br.drew.trans k1)) hA hm0 (fun b hb=>HV.out.2.2.1.lt hb)),?_⟩
  intro f w1 k1 hF
  have i0:Qbl (a) (f 2) w1 ((Mo A (w.heap.size+1))):=Qbe.done (Qbl.keeps _) hF.1.1.2
  have i1:Qbl (b) (f 6) w1 ((Mo A (w.heap.size+1))):=Qbe.done (Qbl.keeps _) hF.1.2
  have i2:Qbl (-b) (f 7) w1 ((Mo A (w.heap.size+1))):=Qbe.done (Qbl.keeps _) hF.2
  clear hF
  simp only[Act.put,nrA,nrB,nrC]
  generalize f 2=v0 at *
  generalize f 6=v1 at *
  generalize f 7=v2 at *
  have hb1:Below W.heap.size W w1:=br.drew.trans k1
  obtain⟨c0,c1,f0,f1⟩:=HV.out.2.2.2 w1 hb1
  have hbw:=HV.out.2.1.trans (hb1.mono HV.out.2.1.size)
  have HE:=Lib.hid (And.intro i0 (And.intro i2 hbw))
  obtain⟨m1,rfl⟩:=i0.shape
  obtain⟨m2,rfl⟩:=i2.shape
  clear e0 e1 h1 h2 i0 i1 i2 hbw hb1 k1
  go_wp2_with fail
  refine bodyPost_ret (v:=.agg #[.pointer (some ⟨m1,0,none⟩),.pointer (some ⟨m2,0,none⟩)]) (by simp[results,Tryz.results173,go_sem,c0,c1]) rfl ?_
  exact put_num HE.out.2.2 HE.out.1 HE.out.2.1 (by omega)
theorem NewRat_any(i j:Int)(hi0:-9223372036854775808≤i)(hi1:i<9223372036854775808)(hj0:-9223372036854775808≤j)(hj1:j<9223372036854775808)(hj:j≠0)(w:World) :
  Calls Tryz.prog 177 #[.int .i64 i,.int .i64 j] w fun e w'=>∃ v,e=.returned v∧NewR (Rat.divInt i j) v w w':=by
 have hal:=(Below.refl w.heap.size w).alloc (Nat.le_refl _) zR
 have H1:=Lib.hid (Qgb i hi0 hi1 (w.alloc zR))
 have HA:=Lib.hid hal
 have HJ:=Lib.hid hj
 have l1:(Qac i.natAbs).length<274877906944:=Nat.lt_of_le_of_lt (Qaj (k:=2) (by omega)) (by decide)
 have l2:(Qac j.natAbs).length<274877906944:=Nat.lt_of_le_of_lt (Qaj (k:=2) (by omega)) (by decide)
 have HL:=Lib.hid (And.intro l1 l2)
 clear hal hj l1 l2
 go_enter Tryz.func177,Tryz.ntmps177
 go_wp2_with fail
 refine H1.out.mono ?_
 rintro e w1 ⟨v1,rfl,hn1⟩
 have H2:=Lib.hid (Qgb j hj0 hj1 w1)
 have HN1:=Lib.hid hn1
 clear hn1
 go_wp2_with fail
 refine H2.out.mono ?_
 rintro e w2 ⟨v2,rfl,hn2⟩
 have hb1:=HN1.out.1
 have hm:w2.heap[w.heap.size]?=some zR:=(hn2.1.block _ (by have:=hb1.size; simp at this; omega)).trans ((hb1.block _ (by simp)).trans (heap_alloc_new w _))
 have hb02:Below w.heap.size w w2:=HA.out.trans ((hb1.trans (hn2.1.mono hb1.size)).mono (by simp))
 have HS:=Lib.hid (Qdu w.heap.size _ i j HJ.out v1 v2 NoA w2 hm (by decide) Qcl ((HN1.out.2 NoA (Qbo _)).below hn2.1) (hn2.2 NoA (Qbo _)) HL.out.1 HL.out.2)
 have HB:=Lib.hid hb02
 clear hb1 hm hb02 hn2 H1 H2
 go_wp2_with fail
 refine HS.out.mono ?_
 rintro e w3 ⟨rfl,hp⟩
 have HN:=Lib.hid (hp.newAt HB.out (Nat.le_refl _))
 clear hp HS
 go_wp2
 go_ret
 exact⟨_,rfl,HN.out⟩
theorem Qij{q:Rat}:q.num.sign=0↔q=0:=by
 rw[Int.sign_eq_zero_iff_zero,Rat.num_eq_zero]
theorem NZero_any(a b:Rat)(v:Value)(A:Nat→Prop)(w:World)(hv:Qgr a b v w A)(r:Bool)(hr:r=true↔a=0∧b=0) :
  Calls Tryz.prog 170 #[v] w fun e w'=>e=.returned (.bool r)∧Below w.heap.size w w':=by
 obtain⟨u1,u2,rfl,h1,h2⟩:=hv
 have hal:Below w.heap.size w (w.alloc (.cells #[u1,u2] 116)):=br.alloc (Nat.le_refl _) _
 have H1:=Lib.hid (Qdo a u1 NoA (w.alloc (.cells #[u1,u2] 116)) ((Qck.Keeps.noA (Qdw.keeps a) h1).below hal) (Qbo _))
 have HB:=Lib.hid (And.intro hal (And.intro hr (Qck.Keeps.noA (Qdw.keeps b) h2)))
 clear hal hr h1 h2
 go_enter Tryz.func170,Tryz.ntmps170
 go_wp2_with fail
 refine H1.out.mono ?_
 rintro e w1 ⟨v1,rfl,hb1,hr1⟩
 have HS:=Lib.hid (Qge a v1 NoA w1 hr1)
 obtain⟨e0,e1,_⟩:=Qgh w _ _ _ hb1
 obtain⟨sg,hsg⟩:∃ sg,sg=a.num.sign:=⟨_,rfl⟩
 rw[←hsg] at HS
 have HG:=Lib.hid hsg
 clear hsg hr1
 go_wp2_with fail
 refine HS.out.mono ?_
 rintro e w2 ⟨rfl,rfl⟩
 by_cases c:sg=0
 ·have ha:a=0:=Qij.1 (by rw[←HG.out]; exact c)
  subst c
  have H2:=Lib.hid (Qdo b u2 NoA w1 ((HB.out.2.2.below HB.out.1).below hb1) (Qbo _))
  have HB1:=Lib.hid (HB.out.1.trans (hb1.mono (by simp)))
  clear hb1
  go_wp2_with fail
  refine H2.out.mono ?_
  rintro e w3 ⟨v3,rfl,hb3,hr3⟩
  have HS2:=Lib.hid (Qge b v3 NoA w3 hr3)
  obtain⟨sg2,hsg2⟩:∃ sg2,sg2=b.num.sign:=⟨_,rfl⟩
  rw[←hsg2] at HS2
  have HG2:=Lib.hid (And.intro hsg2 (HB1.out.trans (hb3.mono HB1.out.size)))
  clear hsg2 hr3 hb3 e0 e1
  go_wp2_with fail
  refine HS2.out.mono ?_
  rintro e w4 ⟨rfl,rfl⟩
  go_wp2
  go_ret
  refine⟨?_,HG2.out.2⟩
  have:r=decide (sg2=0):=by
   have h:=HB.out.2.1
   rw[←Qij (q:=b),←HG2.out.1] at h
   by_cases h2:sg2=0
   ·rw[decide_eq_true h2]; exact h.2 ⟨ha,h2⟩
   ·rw[decide_eq_false h2]; cases hr:r
    ·rfl
    ·exact absurd (h.1 hr).2 h2
  rw[this]
  first|rfl|(simp; done)|(show Ending.returned (.bool (sg2 == 0))=_; rfl)
 ·have hc:(sg == 0)=false:=by simpa using c
  have hr:r=false:=by
   cases hr:r
   ·rfl
   ·exact absurd (by rw[HG.out]; exact Qij.2 (HB.out.2.1.1 hr).1) c
  have HB1:=Lib.hid (HB.out.1.trans (hb1.mono (by simp)))
  clear hb1
  go_wp2
  all_goals go_ret
  all_goals exact⟨by rw[hr]; rfl,HB1.out⟩
theorem BSl.below{w w':World}{v:Value}{s:ByteArray}(h:BSl w v s)(hb:Below w.heap.size w w'):BSl w' v s:=by
 obtain⟨b,off,cap,rfl,hlt,h⟩:=h
 exact⟨b,off,cap,rfl,Nat.lt_of_lt_of_le hlt hb.size,fun i hi=>(hb.cell (p:=⟨b,off+i,none⟩) hlt).trans (h i hi)⟩
theorem divInt_one(i:Int):Rat.divInt i 1=(i:Rat):=by
 have:=Rat.num_divInt_den (i:Rat)
 rw[Rat.num_intCast,Rat.den_intCast] at this
 simpa using this
theorem EInt_any(i j:Int)(hi0:-9223372036854775808≤i)(hi1:i<9223372036854775808)(hj0:-9223372036854775808≤j)(hj1:j<9223372036854775808)(A:Nat→Prop)(w:World)(hA:Rcv A w) :
  Calls Tryz.prog 79 #[.int .i64 i,.int .i64 j] w fun e w'=>∃ u,e=.returned u∧Below w.heap.size w w'∧Qgr i j u w' A:=by
 obtain⟨W,hW⟩:∃ W,W=w.alloc (.cells #[.pointer none,.pointer none] 116):=⟨_,rfl⟩
 have hBW:Below w.heap.size w W:=by rw[hW]; exact br.alloc (Nat.le_refl _) _
 have hAW:Rcv (Mo A w.heap.size) W:=fun b h=>h.elim (fun h=>(hA.below hBW) b h) (fun h=>by subst h; rw[hW]; exact⟨_,heap_alloc_new w _,noW_num _ _ ⟨_,rfl⟩ ⟨_,rfl⟩ _⟩)
 have H1:=Lib.hid (NewRat_any i 1 hi0 hi1 (by decide) (by decide) (by decide) W)
 rw[divInt_one] at H1
 have HA:=Lib.hid (And.intro hW (And.intro hBW hAW))
 clear hBW hAW hA
 go_enter Tryz.func79,Tryz.ntmps79
 go_wp2_with fail
 rw[←hW]
 clear hW
 refine H1.out.mono ?_
 rintro e w1 ⟨v1,rfl,hn1⟩
 have H2:=Lib.hid (NewRat_any j 1 hj0 hj1 (by decide) (by decide) (by decide) w1)
 rw[divInt_one] at H2
 have HN1:=Lib.hid hn1
 clear hn1
 go_wp2_with fail
 refine H2.out.mono ?_
 rintro e w2 ⟨v2,rfl,hn2⟩
 have hr1:=(HN1.out.2 _ HA.out.2.2).below hn2.1
 have hr2:=hn2.2 _ (HA.out.2.2.below HN1.out.1)
 have hb2:=HN1.out.1.trans (hn2.1.mono HN1.out.1.size)
 obtain⟨c0,c1,f0,f1⟩:=Qgh w (.pointer none) (.pointer none) 116 (by rw[←HA.out.1]; exact hb2)
 have HE:=Lib.hid (And.intro hr1 (And.intro hr2 (HA.out.2.1.trans (hb2.mono HA.out.2.1.size))))
 obtain⟨m1,rfl⟩:=hr1.shape
 obtain⟨m2,rfl⟩:=hr2.shape
 clear hr1 hr2 hb2 hn2 H1 H2 HN1
 go_wp2_with fail
 refine bodyPost_ret (v:=.agg #[.pointer (some ⟨m1,0,none⟩),.pointer (some ⟨m2,0,none⟩)]) (by simp[results,Tryz.results79,go_sem,c0,c1]) rfl ?_
 exact put_num HE.out.2.2 HE.out.1 HE.out.2.1 (Nat.le_refl _)
def Qap(q:Rat):Prop:=(Qcf q.num.natAbs).size≤1024∧(Qcf q.den).size≤1024
instance (q:Rat):Decidable (Qap q):=by unfold Qap; infer_instance
def zF:Value:=.agg #[.bool false,.string ⟨#[]⟩,.bool false,.string ⟨#[]⟩]
def outF(q:Rat):Value:=if Qap q then Qep q else zF
def outC(q:Rat):Int:=if Qap q then 0 else 4
theorem EFrac_any(q:Rat)(v:Value)(A:Nat→Prop)(w:World)(hx:Qdw q v w A)(hl:RL q 137438953472) :
  Calls Tryz.prog 120 #[v] w fun e w'=>e=.returned (.tuple #[outF q,.int .i64 (outC q)])∧Below w.heap.size w w':=by
 have hal:Below w.heap.size w (w.alloc (.cells #[.bool false,.string ⟨#[]⟩,.bool false,.string ⟨#[]⟩] 26)):=br.alloc (Nat.le_refl _) _
 have H1:=Lib.hid (Qdo q v NoA _ ((Qck.Keeps.noA (Qdw.keeps q) hx).below hal) (Qbo _))
 have hln:(Qac q.num.natAbs).length<274877906944:=by have:=hl.1; omega
 have hld:(Qac (q.den:Int).natAbs).length<274877906944:=by have:=hl.2; simp; omega
 have HL:=Lib.hid (And.intro hln hld)
 have HAL:=Lib.hid hal
 clear hx hal hln hld
 go_enter Tryz.func120,Tryz.ntmps120
 go_wp2_with fail
 refine H1.out.mono ?_
 rintro e w1 ⟨u,rfl,hb1,hr1⟩
 have HN:=Lib.hid (Num_any q u NoA w1 hr1 hl)
 have HR:=Lib.hid hr1
 clear hr1
 go_wp2_with fail
 refine HN.out.mono ?_
 rintro e w2 ⟨v2,rfl,hn2⟩
 have HB:=Lib.hid (Bytes_any q.num v2 NoA w2 (hn2.2 NoA (Qbo _)) HL.out.1)
 go_wp2_with fail
 refine HB.out.mono ?_
 rintro e w3 ⟨v3,rfl,hs3,hb3⟩
 have hb13:=hn2.1.trans (hb3.mono hn2.1.size)
 have HD:=Lib.hid (Denom_any q u NoA w3 (HR.out.below hb13) hl)
 go_wp2_with fail
 refine HD.out.mono ?_
 rintro e w4 ⟨v4,rfl,hn4⟩
 have HB2:=Lib.hid (Bytes_any q.den v4 NoA w4 (hn4.2 NoA (Qbo _)) HL.out.2)
 go_wp2_with fail
 refine HB2.out.mono ?_
 rintro e w5 ⟨v5,rfl,hs5,hb5⟩
 have hb35:=hn4.1.trans (hb5.mono hn4.1.size)
 have hb15:=hb13.trans (hb35.mono hb13.size)
 have hs3':=hs3.below hb35
 obtain⟨c0,c1,c2,c3,f0,f1,f2,f3⟩:=Qeq w _ _ _ _ _ (hb1.trans (hb15.mono hb1.size))
 have hbw:Below w.heap.size w w5:=HAL.out.trans ((hb1.trans (hb15.mono hb1.size)).mono (by simp))
 obtain⟨t1,ht1⟩:∃ t1,t1=Qcf q.num.natAbs:=⟨_,rfl⟩
 obtain⟨t2,ht2⟩:∃ t2,t2=Qcf (q.den:Int).natAbs:=⟨_,rfl⟩
 rw[←ht1] at hs3'
 rw[←ht2] at hs5
 have kc1:=Qhb w5.drew v3 t1 (hs3'.below (br.drew))
 have kc2:=Qhb w5.drew v5 t2 (hs5.below (br.drew))
 obtain⟨p1,o1,q1,rfl,_⟩:=hs3'
 obtain⟨p2,o2,q2,rfl,_⟩:=hs5
 have HT:=Lib.hid (And.intro ht1 (And.intro ht2 hbw))
 have HSG:=Lib.hid (fun w (h:Qbl q u w NoA)=>Qge q u NoA w h)
 have HR5:=Lib.hid (HR.out.below hb15)
 clear ht1 ht2 hs3 hb1 hb13 hb3 hb5 hb35 hb15 hn2 hn4 hbw HN HB HD HB2 H1
 have HZ:=Lib.hid (fun(h:¬Qap q)=>show zF=outF q∧(4:Int)=outC q by unfold outF outC; rw[if_neg h,if_neg h]; exact⟨rfl,rfl⟩)
 have HY:=Lib.hid (fun(h:Qap q)=>show Qep q=outF q∧(0:Int)=outC q by unfold outF outC; rw[if_pos h,if_pos h]; exact⟨rfl,rfl⟩)
 by_cases g1:(1024:Int)<(t1.size:Int)
 ·have hno:¬Qap q:=fun h=>by have h1:=h.1; rw[←HT.out.1] at h1; omega
  have HNO:=Lib.hid hno
  clear hno
  go_wp2_with fail
  refine bodyPost_ret (v:=.tuple #[zF,.int .i64 4]) (by unfold zF; simp[results,Tryz.results120,go_sem,c0,c1,c2,c3]) rfl ⟨by rw[(HZ.out HNO.out).1,(HZ.out HNO.out).2],?_⟩
  exact((((HT.out.2.2.setCell (p:=⟨w.heap.size,0,none⟩) (Nat.le_refl _) _).setCell (p:=⟨w.heap.size,1,none⟩) (Nat.le_refl _) _).setCell (p:=⟨w.heap.size,2,none⟩) (Nat.le_refl _) _).setCell (p:=⟨w.heap.size,3,none⟩) (Nat.le_refl _) _)
 ·by_cases g2:(1024:Int)<(t2.size:Int)
  ·have hno:¬Qap q:=fun h=>by have h2:=h.2; have h3:=HT.out.2.1; simp only[Int.natAbs_natCast] at h3; rw[←h3] at h2; omega
   have HNO:=Lib.hid hno
   clear hno
   go_wp2_with fail
   refine bodyPost_ret (v:=.tuple #[zF,.int .i64 4]) (by unfold zF; simp[results,Tryz.results120,go_sem,c0,c1,c2,c3]) rfl ⟨by rw[(HZ.out HNO.out).1,(HZ.out HNO.out).2],?_⟩
   exact((((HT.out.2.2.setCell (p:=⟨w.heap.size,0,none⟩) (Nat.le_refl _) _).setCell (p:=⟨w.heap.size,1,none⟩) (Nat.le_refl _) _).setCell (p:=⟨w.heap.size,2,none⟩) (Nat.le_refl _) _).setCell (p:=⟨w.heap.size,3,none⟩) (Nat.le_refl _) _)
  ·have hyes:Qap q:=⟨by rw[←HT.out.1]; omega,by have h3:=HT.out.2.1; simp only[Int.natAbs_natCast] at h3; rw[←h3]; omega⟩
   have HYES:=Lib.hid hyes
   clear hyes
   obtain⟨sg,hsg⟩:∃ sg,sg=q.num.sign:=⟨_,rfl⟩
   have HC:=Lib.hid (Qge q u NoA w5.drew (HR5.out.below (br.drew)))
   rw[←hsg] at HC
   have HG:Hid (Qep q=.agg #[.bool (decide (sg<0)),.string t1,.bool false,.string t2]):=Lib.hid (by unfold Qep; rw[hsg,sign_lt,HT.out.1,HT.out.2.1]; simp)
   clear hsg
   go_wp2_with fail
   refine Qfp 10 (by kernel_rfl) (by kernel_rfl) ?_
   simp only[List.take_succ_cons,List.take_zero,List.drop_succ_cons,List.drop_zero]
   repeat (first|still_step|still_call (still_eq HC.out))
   refine wpStill_nil ?_
   go_wp2_with fail
   refine bodyPost_ret (v:=.tuple #[.agg #[.bool (decide (sg<0)),.string t1,.bool false,.string t2],.int .i64 0]) (by simp[results,Tryz.results120,go_sem,c0,c1,c2,c3]) rfl ⟨by rw[←HG.out,(HY.out HYES.out).1,(HY.out HYES.out).2],?_⟩
   exact((((HT.out.2.2.setCell (p:=⟨w.heap.size,0,none⟩) (Nat.le_refl _) _).setCell (p:=⟨w.heap.size,1,none⟩) (Nat.le_refl _) _).setCell (p:=⟨w.heap.size,2,none⟩) (Nat.le_refl _) _).setCell (p:=⟨w.heap.size,3,none⟩) (Nat.le_refl _) _).drew
end Go.Proofs.YtmimficdpfmfgaaGreat
