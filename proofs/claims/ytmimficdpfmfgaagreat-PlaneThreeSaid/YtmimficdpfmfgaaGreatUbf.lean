/- Laws for the walk. -/
import Derived.Test.YtmimficdpfmfgaaGreatUbe
set_option linter.unusedVariables false
set_option maxHeartbeats 4000000
set_option maxRecDepth 100000
namespace Go.Proofs.YtmimficdpfmfgaaGreat
open Go.RowKit Tr
theorem NAdd_any(a b c d:Rat)(v v':Value)(A:Nat→Prop)(w:World)(hv:Qgr a b v w A)(hv':Qgr c d v' w A)(hA:Rcv A w)(k l:Nat)(hla:RL a k)(hlb:RL b k)(hlc:RL c l)(hld:RL d l)(hkl:k+l+(k+l)<137438953472) :
  Calls Tryz.prog 174 #[v,v'] w fun e w'=>∃ u,e=.returned u∧Below w.heap.size w w'∧Qgr (a+c) (b+d) u w' A:=by
 obtain⟨u1,u2,rfl,h1,h2⟩:=hv
 obtain⟨u3,u4,rfl,h3,h4⟩:=hv'
 obtain⟨W,HV,hs1,hs2,e0,e1,e2,e3⟩:=box_two w u1 u2 u3 u4 A hA
 have h1:=Qcx (Qdw.keeps a) (n:=w.heap.size+2) HV.out.2.1 (by omega) h1
 have h2:=Qcx (Qdw.keeps b) (n:=w.heap.size+2) HV.out.2.1 (by omega) h2
 have h3:=Qcx (Qdw.keeps c) (n:=w.heap.size+2) HV.out.2.1 (by omega) h3
 have h4:=Qcx (Qdw.keeps d) (n:=w.heap.size+2) HV.out.2.1 (by omega) h4
 clear hA
 go_enter Tryz.func174,Tryz.ntmps174
 go_wp2_with fail
 rw[←HV.out.1]
 refine Qas [(.new zR,[]),(.lit,[]),(.lit,[]),(.val,[]),(.lit,[]),(.lit,[]),(.val,[]),(.on 0 zR,[3,6]),(.new zR,[]),(.lit,[]),(.lit,[]),(.val,[]),(.lit,[]),(.lit,[]),(.val,[]),(.on 8 zR,[11,14])]
  (Qeg [(3,Qbe (Mo A (w.heap.size+2)) (Qbl (a))),(6,Qbe (Mo A (w.heap.size+2)) (Qbl (c))),(7,Qbe (Mo A (w.heap.size+2)) (Qbl (a+c))),(11,Qbe (Mo A (w.heap.size+2)) (Qbl (b))),(14,Qbe (Mo A (w.heap.size+2)) (Qbl (d))),(15,Qbe (Mo A (w.heap.size+2)) (Qbl (b+d)))]) (by kernel_rfl) ?_ ?_ (by simp[Qcl]) (by simp) (by kernel_rfl)
 ·exact Qbd (by simp only[List.mem_cons,List.not_mem_nil,or_false]; rintro p (rfl|rfl|rfl|rfl|rfl|rfl)<;>exact Qbe.keeps (Qbl.keeps _))
 ·refine⟨fun f w1=>by go_simp,?_⟩
  refine⟨_,fun f w1 h1=>by(have d0:=ct h1 hs1 e0; have d1:=ct h1 hs1 e1; have d2:=ct h1 hs2 e2; have d3:=ct h1 hs2 e3; go_simp; rfl),?_⟩
  refine⟨_,fun f w1 h1=>by(have d0:=ct h1 hs1 e0; have d1:=ct h1 hs1 e1; have d2:=ct h1 hs2 e2; have d3:=ct h1 hs2 e3; go_simp; rfl),?_⟩
  simp only[Act.put,nrA,nrB,nrC,Nat.reduceAdd]
  refine⟨fun f w1 A1 k1 hA hN hd K hK=>by
   go_simp
   refine(Qdo a u1 (Un (Mo A (w.heap.size+2)) A1) w1 (Qcw (Qbe.keeps (Qdw.keeps _)) h1 k1 hN) (Qdz (HV.out.2.2.1.below (br.drew.trans k1)) hA)).mono ?_
   rintro e w' ⟨v,rfl,hb,hr⟩
   exact hK _ _ hb hr,?_⟩
  refine⟨_,fun f w1 h1=>by(have d0:=ct h1 hs1 e0; have d1:=ct h1 hs1 e1; have d2:=ct h1 hs2 e2; have d3:=ct h1 hs2 e3; go_simp; rfl),?_⟩
  refine⟨_,fun f w1 h1=>by(have d0:=ct h1 hs1 e0; have d1:=ct h1 hs1 e1; have d2:=ct h1 hs2 e2; have d3:=ct h1 hs2 e3; go_simp; rfl),?_⟩
  simp only[Act.put,nrA,nrB,nrC,Nat.reduceAdd]
  refine⟨fun f w1 A1 k1 hA hN hd K hK=>by
   go_simp
   refine(Qdo c u3 (Un (Mo A (w.heap.size+2)) A1) w1 (Qcw (Qbe.keeps (Qdw.keeps _)) h3 k1 hN) (Qdz (HV.out.2.2.1.below (br.drew.trans k1)) hA)).mono ?_
   rintro e w' ⟨v,rfl,hb,hr⟩
   exact hK _ _ hb hr,?_⟩
  simp only[Act.put,nrA,nrB,nrC,Nat.reduceAdd]
  refine⟨fun f w1 A1 m1 k1 hA hN hAm hm0 e hz hd K hK=>by
   simp only[e] at hK ⊢
   have i1:Qbl (a) (f 3) w1 (Un (Mo A (w.heap.size+2)) A1):=hd 3 (by simp)
   have i2:Qbl (c) (f 6) w1 (Un (Mo A (w.heap.size+2)) A1):=hd 6 (by simp)
   go_simp
   refine(RAdd_any m1 _ _ _ _ _ _ w1 hz (by decide) Qcl i1 i2 (k) (l) hla hlc (by omega)).mono ?_
   rintro e w' ⟨rfl,hp⟩
   exact hK _ w' hp.1 (hp.ratU (HV.out.2.2.1.below (br.drew.trans k1)) hA hm0 (fun b hb=>HV.out.2.2.1.lt hb)),?_⟩
  refine⟨fun f w1=>by go_simp,?_⟩
  refine⟨_,fun f w1 h1=>by(have d0:=ct h1 hs1 e0; have d1:=ct h1 hs1 e1; have d2:=ct h1 hs2 e2; have d3:=ct h1 hs2 e3; go_simp; rfl),?_⟩
  refine⟨_,fun f w1 h1=>by(have d0:=ct h1 hs1 e0; have d1:=ct h1 hs1 e1; have d2:=ct h1 hs2 e2; have d3:=ct h1 hs2 e3; go_simp; rfl),?_⟩
  simp only[Act.put,nrA,nrB,nrC,Nat.reduceAdd]
  refine⟨fun f w1 A1 k1 hA hN hd K hK=>by
   go_simp
   refine(Qdo b u2 (Un (Mo A (w.heap.size+2)) A1) w1 (Qcw (Qbe.keeps (Qdw.keeps _)) h2 k1 hN) (Qdz (HV.out.2.2.1.below (br.drew.trans k1)) hA)).mono ?_
   rintro e w' ⟨v,rfl,hb,hr⟩
   exact hK _ _ hb hr,?_⟩
  refine⟨_,fun f w1 h1=>by(have d0:=ct h1 hs1 e0; have d1:=ct h1 hs1 e1; have d2:=ct h1 hs2 e2; have d3:=ct h1 hs2 e3; go_simp; rfl),?_⟩
  refine⟨_,fun f w1 h1=>by(have d0:=ct h1 hs1 e0; have d1:=ct h1 hs1 e1; have d2:=ct h1 hs2 e2; have d3:=ct h1 hs2 e3; go_simp; rfl),?_⟩
  simp only[Act.put,nrA,nrB,nrC,Nat.reduceAdd]
  refine⟨fun f w1 A1 k1 hA hN hd K hK=>by
   go_simp
   refine(Qdo d u4 (Un (Mo A (w.heap.size+2)) A1) w1 (Qcw (Qbe.keeps (Qdw.keeps _)) h4 k1 hN) (Qdz (HV.out.2.2.1.below (br.drew.trans k1)) hA)).mono ?_
   rintro e w' ⟨v,rfl,hb,hr⟩
   exact hK _ _ hb hr,?_⟩
  simp only[Act.put,nrA,nrB,nrC,Nat.reduceAdd]
  refine⟨fun f w1 A1 m1 k1 hA hN hAm hm0 e hz hd K hK=>by
   simp only[e] at hK ⊢
   have i1:Qbl (b) (f 11) w1 (Un (Mo A (w.heap.size+2)) A1):=hd 11 (by simp)
   have i2:Qbl (d) (f 14) w1 (Un (Mo A (w.heap.size+2)) A1):=hd 14 (by simp)
   go_simp
   refine(RAdd_any m1 _ _ _ _ _ _ w1 hz (by decide) Qcl i1 i2 (k) (l) hlb hld (by omega)).mono ?_
   rintro e w' ⟨rfl,hp⟩
   exact hK _ w' hp.1 (hp.ratU (HV.out.2.2.1.below (br.drew.trans k1)) hA hm0 (fun b hb=>HV.out.2.2.1.lt hb)),?_⟩
  intro f w1 k1 hF
  have i0:Qbl (a) (f 3) w1 ((Mo A (w.heap.size+2))):=Qbe.done (Qbl.keeps _) hF.1.1.1.1.1.2
  have i1:Qbl (c) (f 6) w1 ((Mo A (w.heap.size+2))):=Qbe.done (Qbl.keeps _) hF.1.1.1.1.2
  have i2:Qbl (a+c) (f 7) w1 ((Mo A (w.heap.size+2))):=Qbe.done (Qbl.keeps _) hF.1.1.1.2
  have i3:Qbl (b) (f 11) w1 ((Mo A (w.heap.size+2))):=Qbe.done (Qbl.keeps _) hF.1.1.2
  have i4:Qbl (d) (f 14) w1 ((Mo A (w.heap.size+2))):=Qbe.done (Qbl.keeps _) hF.1.2
  have i5:Qbl (b+d) (f 15) w1 ((Mo A (w.heap.size+2))):=Qbe.done (Qbl.keeps _) hF.2
  clear hF
  simp only[Act.put,nrA,nrB,nrC]
  generalize f 3=v0 at *
  generalize f 6=v1 at *
  generalize f 7=v2 at *
  generalize f 11=v3 at *
  generalize f 14=v4 at *
  generalize f 15=v5 at *
  have hb1:Below W.heap.size W w1:=br.drew.trans k1
  obtain⟨c0,c1,f0,f1⟩:=HV.out.2.2.2 w1 hb1
  have hbw:=HV.out.2.1.trans (hb1.mono HV.out.2.1.size)
  have HE:=Lib.hid (And.intro i2 (And.intro i5 hbw))
  obtain⟨m1,rfl⟩:=i2.shape
  obtain⟨m2,rfl⟩:=i5.shape
  clear e0 e1 e2 e3 h1 h2 h3 h4 i0 i1 i2 i3 i4 i5 hbw hb1 k1
  go_wp2_with fail
  refine bodyPost_ret (v:=.agg #[.pointer (some ⟨m1,0,none⟩),.pointer (some ⟨m2,0,none⟩)]) (by simp[results,Tryz.results174,go_sem,c0,c1]) rfl ?_
  exact put_num HE.out.2.2 HE.out.1 HE.out.2.1 (by omega)
theorem pNAdd(x y:QC){m l:Nat}(hx:ZL x m)(hy:ZL y l)(hb:m+l+(m+l)<137438953472):Qbm Tryz.prog true 174 [N1 x,N1 y] (.r (N1 (x+y))) :=
 spec2 eo174 fun w A u v hR _ hu hv=>(NAdd_any x.re x.im y.re y.im u v A w (Qey.1 hu) (Qey.1 hv) (hR rfl) m l hx.1 hx.2 hy.1 hy.2 hb).mono fun e w' ⟨z,h1,h2,h3⟩=>⟨z,h1,Qey.2 h3,h2⟩
open Classical
theorem eSame(x y:QC)(b_x:ZL x 2000000)(b_y:ZL y 2000000) :Qbm Tryz.prog true 172 [.row (cn x),.row (cn y)] (if(x - y)=(⟨0,0⟩:QC) then .r (.c (gl (.bool true))) else .r (.c (gl (.bool false)))) :=
  have t1:=Qfr x y b_x b_y (by decide)
  have t2:=pNZero (x - y)
  (Classical.em ((x - y) = (⟨0,0⟩ : QC))).elim (fun h0 => .it h0 (Qdb (L := [cn x,cn y,cn (x - y)].flatten) Qad Qag
     [gs (t1) [sy [0,1],sy [2,3]] (.r (sy [4,5])),gs (t2 true (tI h0)) [sy [4,5]] (.r (.c (.lit (.bool true))))]
     [] [] Tryz.func172 eo172 2000 [sy [0,1],sy [2,3]] (.r (.c (.lit (.bool true))))))
   (fun h0=>.ie (fun h=>h0 h) (Qdb (L:=[cn x,cn y,cn (x - y)].flatten) Qad Qag
     [gs (t1) [sy [0,1],sy [2,3]] (.r (sy [4,5])),gs (t2 false (fI h0)) [sy [4,5]] (.r (.c (.lit (.bool false))))]
     [] [] Tryz.func172 eo172 2000 [sy [0,1],sy [2,3]] (.r (.c (.lit (.bool false))))))
theorem pNSame(x y:QC){m l:Nat}(hx:ZL x m)(hy:ZL y l)(hb:m+l<2000000)(r:Bool)(hr:r=true↔x=y):Qbm Tryz.prog true 172 [N1 x,N1 y] (B1 r):=by
 have h:=eSame x y (hx.mono (by omega)) (hy.mono (by omega))
 cases r
 ·exact h.f (fun e=>by cases hr.2 (qc_sub0.1 e))
 ·exact h.t (qc_sub0.2 (hr.1 rfl))
theorem eDet(a b c d:QC)(t:Bool)(b_a:ZL a 2000000)(b_b:ZL b 2000000)(b_c:ZL c 2000000)(b_d:ZL d 2000000) :Qbm Tryz.prog true 169 [.row (cn a++cn b++cn c++cn d++[gx (.bool t)])] (.r (.row (cn ((a*d) - (b*c))))) :=
  Qdb (L := [cn a,cn b,cn c,cn d,[gx (.bool t)],cn (a * d),cn (b * c),cn ((a * d) - (b * c))].flatten) Qad Qag
     [gs (pNMul a d b_a b_d (by decide)) [sy [0,1],sy [6,7]] (.r (sy [9,10])),gs (pNMul b c b_b b_c (by decide)) [sy [2,3],sy [4,5]] (.r (sy [11,12])),gs (Qfr (a*d) (b*c) (ZL_mul b_a b_d) (ZL_mul b_b b_c) (by decide)) [sy [9,10],sy [11,12]] (.r (sy [13,14]))]
     [] [] Tryz.func169 eo169 2000 [.row (Qav 0 9)] (.r (sy [13,14]))
theorem eOpen(a b c d:QC)(t:Bool)(b_a:Qab a)(b_b:Qab b)(b_c:Qab c)(b_d:Qab d) :Qbm Tryz.prog true 75 [.row ((Qae a).cells++(Qae b).cells++(Qae c).cells++(Qae d).cells++[gx (.bool t)])] (if((a*d) - (b*c))=(⟨0,0⟩:QC) then .tup [.row ([gl .nilp,gl .nilp,gl .nilp,gl .nilp,gl .nilp,gl .nilp,gl .nilp,gl .nilp,gl (.bool false)]),.c (gl (.bool false))] else if c=(⟨1,0⟩:QC) then .tup [.row (cn a++cn b++cn c++cn d++[gx (.bool t)]),.c (gl (.bool true))] else if c=(⟨0,0⟩:QC)∧d=(⟨1,0⟩:QC) then .tup [.row (cn a++cn b++cn c++cn d++[gx (.bool t)]),.c (gl (.bool true))] else .tup [.row (cn a++cn b++cn c++cn d++[gx (.bool t)]),.c (gl (.bool false))]) :=
  have t1:=eDet a b c d t ((Qaa b_a).mono (by omega)) ((Qaa b_b).mono (by omega)) ((Qaa b_c).mono (by omega)) ((Qaa b_d).mono (by omega))
  have t2:=pNZero ((a*d) - (b*c))
  have t3:=pNInt 1 0 (by decide) (by decide) (by decide) (by decide)
  have t4:=pNSame c (⟨1,0⟩:QC) (Qaa b_c) (ZL_int 1 0 (by decide) (by decide) (by decide) (by decide)) (by decide)
  have t5:=pNSame d (⟨1,0⟩:QC) (Qaa b_d) (ZL_int 1 0 (by decide) (by decide) (by decide) (by decide)) (by decide)
  (Classical.em (((a * d) - (b * c)) = (⟨0,0⟩ : QC))).elim (fun h0 => .it h0 (Qdb (L := [(Qae a).cells,(Qae b).cells,(Qae c).cells,(Qae d).cells,[gx (.bool t)],cn a,cn b,cn c,cn d,cn ((a * d) - (b * c))].flatten) Qad Qag
     [gs (Qcg a b_a) [.row (Qav 0 8)] (.tup [sy [33,34],.c (.lit (.bool true))]),gs (Qcg b b_b) [.row (Qav 8 8)] (.tup [sy [35,36],.c (.lit (.bool true))]),gs (Qcg c b_c) [.row (Qav 16 8)] (.tup [sy [37,38],.c (.lit (.bool true))]),gs (Qcg d b_d) [.row (Qav 24 8)] (.tup [sy [39,40],.c (.lit (.bool true))]),gs (t1) [.row (flA [Qav 33 8,[.sym 32]])] (.r (sy [41,42])),gs (t2 true (tI h0)) [sy [41,42]] (.r (.c (.lit (.bool true))))]
     [] [] Tryz.func75 eo75 2000 [.row (Qav 0 33)] (.tup [.row [.lit .nilp,.lit .nilp,.lit .nilp,.lit .nilp,.lit .nilp,.lit .nilp,.lit .nilp,.lit .nilp,.lit (.bool false)],.c (.lit (.bool false))])))
   (fun h0=>.ie h0 ((Classical.em (c=(⟨1,0⟩:QC))).elim (fun h1=>.it h1 (Qdb (L:=[(Qae a).cells,(Qae b).cells,(Qae c).cells,(Qae d).cells,[gx (.bool t)],cn a,cn b,cn c,cn d,cn ((a*d) - (b*c)),cn (⟨1,0⟩:QC)].flatten) Qad Qag
     [gs (Qcg a b_a) [.row (Qav 0 8)] (.tup [sy [33,34],.c (.lit (.bool true))]),gs (Qcg b b_b) [.row (Qav 8 8)] (.tup [sy [35,36],.c (.lit (.bool true))]),gs (Qcg c b_c) [.row (Qav 16 8)] (.tup [sy [37,38],.c (.lit (.bool true))]),gs (Qcg d b_d) [.row (Qav 24 8)] (.tup [sy [39,40],.c (.lit (.bool true))]),gs (t1) [.row (flA [Qav 33 8,[.sym 32]])] (.r (sy [41,42])),gs (t2 false (fI h0)) [sy [41,42]] (.r (.c (.lit (.bool false)))),gs (t3) [.c (.lit (.int .i64 1)),.c (.lit (.int .i64 0))] (.r (sy [43,44])),gs (t4 true (tI h1)) [sy [37,38],sy [43,44]] (.r (.c (.lit (.bool true))))]
     [] [] Tryz.func75 eo75 2000 [.row (Qav 0 33)] (.tup [.row (flA [Qav 33 8,[.sym 32]]),.c (.lit (.bool true))])))
   (fun h1=>.ie h1 ((Classical.em (c=(⟨0,0⟩:QC))).elim (fun h2=>(Classical.em (d=(⟨1,0⟩:QC))).elim (fun h3=>.it ⟨h2,h3⟩ (Qdb (L:=[(Qae a).cells,(Qae b).cells,(Qae c).cells,(Qae d).cells,[gx (.bool t)],cn a,cn b,cn c,cn d,cn ((a*d) - (b*c)),cn (⟨1,0⟩:QC)].flatten) Qad Qag
     [gs (Qcg a b_a) [.row (Qav 0 8)] (.tup [sy [33,34],.c (.lit (.bool true))]),gs (Qcg b b_b) [.row (Qav 8 8)] (.tup [sy [35,36],.c (.lit (.bool true))]),gs (Qcg c b_c) [.row (Qav 16 8)] (.tup [sy [37,38],.c (.lit (.bool true))]),gs (Qcg d b_d) [.row (Qav 24 8)] (.tup [sy [39,40],.c (.lit (.bool true))]),gs (t1) [.row (flA [Qav 33 8,[.sym 32]])] (.r (sy [41,42])),gs (t2 false (fI h0)) [sy [41,42]] (.r (.c (.lit (.bool false)))),gs (t3) [.c (.lit (.int .i64 1)),.c (.lit (.int .i64 0))] (.r (sy [43,44])),gs (t4 false (fI h1)) [sy [37,38],sy [43,44]] (.r (.c (.lit (.bool false)))),gs (pNZero c true (tI h2)) [sy [37,38]] (.r (.c (.lit (.bool true)))),gs (t5 true (tI h3)) [sy [39,40],sy [43,44]] (.r (.c (.lit (.bool true))))]
     [] [] Tryz.func75 eo75 2000 [.row (Qav 0 33)] (.tup [.row (flA [Qav 33 8,[.sym 32]]),.c (.lit (.bool true))])))
   (fun h3=>.ie (fun h=>h3 h.2) (Qdb (L:=[(Qae a).cells,(Qae b).cells,(Qae c).cells,(Qae d).cells,[gx (.bool t)],cn a,cn b,cn c,cn d,cn ((a*d) - (b*c)),cn (⟨1,0⟩:QC)].flatten) Qad Qag
     [gs (Qcg a b_a) [.row (Qav 0 8)] (.tup [sy [33,34],.c (.lit (.bool true))]),gs (Qcg b b_b) [.row (Qav 8 8)] (.tup [sy [35,36],.c (.lit (.bool true))]),gs (Qcg c b_c) [.row (Qav 16 8)] (.tup [sy [37,38],.c (.lit (.bool true))]),gs (Qcg d b_d) [.row (Qav 24 8)] (.tup [sy [39,40],.c (.lit (.bool true))]),gs (t1) [.row (flA [Qav 33 8,[.sym 32]])] (.r (sy [41,42])),gs (t2 false (fI h0)) [sy [41,42]] (.r (.c (.lit (.bool false)))),gs (t3) [.c (.lit (.int .i64 1)),.c (.lit (.int .i64 0))] (.r (sy [43,44])),gs (t4 false (fI h1)) [sy [37,38],sy [43,44]] (.r (.c (.lit (.bool false)))),gs (pNZero c true (tI h2)) [sy [37,38]] (.r (.c (.lit (.bool true)))),gs (t5 false (fI h3)) [sy [39,40],sy [43,44]] (.r (.c (.lit (.bool false))))]
     [] [] Tryz.func75 eo75 2000 [.row (Qav 0 33)] (.tup [.row (flA [Qav 33 8,[.sym 32]]),.c (.lit (.bool false))]))))
   (fun h2=>.ie (fun h=>h2 h.1) (Qdb (L:=[(Qae a).cells,(Qae b).cells,(Qae c).cells,(Qae d).cells,[gx (.bool t)],cn a,cn b,cn c,cn d,cn ((a*d) - (b*c)),cn (⟨1,0⟩:QC)].flatten) Qad Qag
     [gs (Qcg a b_a) [.row (Qav 0 8)] (.tup [sy [33,34],.c (.lit (.bool true))]),gs (Qcg b b_b) [.row (Qav 8 8)] (.tup [sy [35,36],.c (.lit (.bool true))]),gs (Qcg c b_c) [.row (Qav 16 8)] (.tup [sy [37,38],.c (.lit (.bool true))]),gs (Qcg d b_d) [.row (Qav 24 8)] (.tup [sy [39,40],.c (.lit (.bool true))]),gs (t1) [.row (flA [Qav 33 8,[.sym 32]])] (.r (sy [41,42])),gs (t2 false (fI h0)) [sy [41,42]] (.r (.c (.lit (.bool false)))),gs (t3) [.c (.lit (.int .i64 1)),.c (.lit (.int .i64 0))] (.r (sy [43,44])),gs (t4 false (fI h1)) [sy [37,38],sy [43,44]] (.r (.c (.lit (.bool false)))),gs (pNZero c false (fI h2)) [sy [37,38]] (.r (.c (.lit (.bool false))))]
     [] [] Tryz.func75 eo75 2000 [.row (Qav 0 33)] (.tup [.row (flA [Qav 33 8,[.sym 32]]),.c (.lit (.bool false))])))))))
end Go.Proofs.YtmimficdpfmfgaaGreat
set_option linter.unusedSimpArgs false
namespace Go.Proofs.YtmimficdpfmfgaaGreat
open Go.RowKit Tr
open Classical
theorem eNormCf(a b c d:QC)(b_a:ZL a 2000000000)(b_b:ZL b 2000000000)(b_c:ZL c 2000000000)(b_d:ZL d 2000000000)(hc:¬(c=(⟨0,0⟩:QC))):Qbm Tryz.prog true 213 [.row (cn a++cn b++cn c++cn d++[gl (.bool false)])] (.r (.row (cn (a / c)++cn (b / c)++cn (c / c)++cn (d / c)++[gl (.bool false)]))) :=
  Qdb (L := [cn a,cn b,cn c,cn d,cn (a / c),cn (b / c),cn (c / c),cn (d / c)].flatten) Qad Qag
     [gs (pNZero c false (fI hc)) [sy [4,5]] (.r (.c (.lit (.bool false)))),gs (pNDiv a c hc b_a b_c (by decide)) [sy [0,1],sy [4,5]] (.r (sy [8,9])),gs (pNDiv b c hc b_b b_c (by decide)) [sy [2,3],sy [4,5]] (.r (sy [10,11])),gs (pNDiv c c hc b_c b_c (by decide)) [sy [4,5],sy [4,5]] (.r (sy [12,13])),gs (pNDiv d c hc b_d b_c (by decide)) [sy [6,7],sy [4,5]] (.r (sy [14,15]))]
     [] [] Tryz.func213 eo213 2000 [.row (flA [Qav 0 8,[.lit (.bool false)]])] (.r (.row (flA [Qav 8 8,[.lit (.bool false)]])))
theorem Qfq(a b c d:QC){k:Nat}(b_a:ZL a k)(b_b:ZL b k)(b_c:ZL c k)(b_d:ZL d k)(hc:¬(c=(⟨0,0⟩:QC))):ZL (a / c) (8*k+2):=(ZL_dv hc b_a b_c).mono (by omega)
theorem Qgv(a b c d:QC){k:Nat}(b_a:ZL a k)(b_b:ZL b k)(b_c:ZL c k)(b_d:ZL d k)(hc:¬(c=(⟨0,0⟩:QC))):ZL (b / c) (8*k+2):=(ZL_dv hc b_b b_c).mono (by omega)
theorem eNormCf_b0_3(a b c d:QC){k:Nat}(b_a:ZL a k)(b_b:ZL b k)(b_c:ZL c k)(b_d:ZL d k)(hc:¬(c=(⟨0,0⟩:QC))):ZL (c / c) (8*k+2):=(ZL_dv hc b_c b_c).mono (by omega)
theorem eNormCf_b0_4(a b c d:QC){k:Nat}(b_a:ZL a k)(b_b:ZL b k)(b_c:ZL c k)(b_d:ZL d k)(hc:¬(c=(⟨0,0⟩:QC))):ZL (d / c) (8*k+2):=(ZL_dv hc b_d b_c).mono (by omega)
theorem eToldCf(a b c d:QC)(b_a:ZL a 200000000)(b_b:ZL b 200000000)(b_c:ZL c 200000000)(b_d:ZL d 200000000)(hc:¬(c=(⟨0,0⟩:QC))):Qbm Tryz.prog true 125 [.row (cn a++cn b++cn c++cn d++[gl (.bool false)])] (if Qab (a / c)∧Qab (b / c)∧Qab (c / c)∧Qab (d / c) then .tup [.row ((Qae (a / c)).cells++(Qae (b / c)).cells++(Qae (c / c)).cells++(Qae (d / c)).cells++[gl (.bool false)]),.c (gl (.int .i64 0))] else .tup [.row (zGG++zGG++zGG++zGG++[gl (.bool false)]),.c (gl (.int .i64 4))]) :=
  have t1:=eNormCf a b c d (b_a.mono (by omega)) (b_b.mono (by omega)) (b_c.mono (by omega)) (b_d.mono (by omega)) hc
  (Classical.em (Qab (a / c))).elim (fun h0 => (Classical.em (Qab (b / c))).elim (fun h1 => (Classical.em (Qab (c / c))).elim (fun h2 => (Classical.em (Qab (d / c))).elim (fun h3 => .it ⟨h0,h1,h2,h3⟩ (Qdb (L := [cn a,cn b,cn c,cn d,cn (a / c),cn (b / c),cn (c / c),cn (d / c),(Qae (a / c)).cells,(Qae (b / c)).cells,(Qae (c / c)).cells,(Qae (d / c)).cells].flatten) Qad Qag
     [gs (t1) [.row (flA [Qav 0 8,[.lit (.bool false)]])] (.r (.row (flA [Qav 8 8,[.lit (.bool false)]]))),gs (pNTold (a / c) ((Qfq a b c d b_a b_b b_c b_d hc).mono (by omega)) h0) [sy [8,9]] (.tup [.row (Qav 16 8),.c (.lit (.int .i64 0))]),gs (pNTold (b / c) ((Qgv a b c d b_a b_b b_c b_d hc).mono (by omega)) h1) [sy [10,11]] (.tup [.row (Qav 24 8),.c (.lit (.int .i64 0))]),gs (pNTold (c / c) ((eNormCf_b0_3 a b c d b_a b_b b_c b_d hc).mono (by omega)) h2) [sy [12,13]] (.tup [.row (Qav 32 8),.c (.lit (.int .i64 0))]),gs (pNTold (d / c) ((eNormCf_b0_4 a b c d b_a b_b b_c b_d hc).mono (by omega)) h3) [sy [14,15]] (.tup [.row (Qav 40 8),.c (.lit (.int .i64 0))])]
     [] [] Tryz.func125 eo125 2000 [.row (flA [Qav 0 8,[.lit (.bool false)]])] (.tup [.row (flA [Qav 16 32,[.lit (.bool false)]]),.c (.lit (.int .i64 0))])))
   (fun h3=>.ie (fun h=>h3 h.2.2.2) (Qdb (L:=[cn a,cn b,cn c,cn d,cn (a / c),cn (b / c),cn (c / c),cn (d / c),(Qae (a / c)).cells,(Qae (b / c)).cells,(Qae (c / c)).cells].flatten) Qad Qag
     [gs (t1) [.row (flA [Qav 0 8,[.lit (.bool false)]])] (.r (.row (flA [Qav 8 8,[.lit (.bool false)]]))),gs (pNTold (a / c) ((Qfq a b c d b_a b_b b_c b_d hc).mono (by omega)) h0) [sy [8,9]] (.tup [.row (Qav 16 8),.c (.lit (.int .i64 0))]),gs (pNTold (b / c) ((Qgv a b c d b_a b_b b_c b_d hc).mono (by omega)) h1) [sy [10,11]] (.tup [.row (Qav 24 8),.c (.lit (.int .i64 0))]),gs (pNTold (c / c) ((eNormCf_b0_3 a b c d b_a b_b b_c b_d hc).mono (by omega)) h2) [sy [12,13]] (.tup [.row (Qav 32 8),.c (.lit (.int .i64 0))]),gs (pNToldL (d / c) ((eNormCf_b0_4 a b c d b_a b_b b_c b_d hc).mono (by omega)) h3) [sy [14,15]] (.tup [.row (zGA),.c (.lit (.int .i64 4))])]
     [] [] Tryz.func125 eo125 2000 [.row (flA [Qav 0 8,[.lit (.bool false)]])] (.tup [.row (flA [zGA,zGA,zGA,zGA,[.lit (.bool false)]]),.c (.lit (.int .i64 4))]))))
   (fun h2=>.ie (fun h=>h2 h.2.2.1) (Qdb (L:=[cn a,cn b,cn c,cn d,cn (a / c),cn (b / c),cn (c / c),cn (d / c),(Qae (a / c)).cells,(Qae (b / c)).cells].flatten) Qad Qag
     [gs (t1) [.row (flA [Qav 0 8,[.lit (.bool false)]])] (.r (.row (flA [Qav 8 8,[.lit (.bool false)]]))),gs (pNTold (a / c) ((Qfq a b c d b_a b_b b_c b_d hc).mono (by omega)) h0) [sy [8,9]] (.tup [.row (Qav 16 8),.c (.lit (.int .i64 0))]),gs (pNTold (b / c) ((Qgv a b c d b_a b_b b_c b_d hc).mono (by omega)) h1) [sy [10,11]] (.tup [.row (Qav 24 8),.c (.lit (.int .i64 0))]),gs (pNToldL (c / c) ((eNormCf_b0_3 a b c d b_a b_b b_c b_d hc).mono (by omega)) h2) [sy [12,13]] (.tup [.row (zGA),.c (.lit (.int .i64 4))])]
     [] [] Tryz.func125 eo125 2000 [.row (flA [Qav 0 8,[.lit (.bool false)]])] (.tup [.row (flA [zGA,zGA,zGA,zGA,[.lit (.bool false)]]),.c (.lit (.int .i64 4))]))))
   (fun h1=>.ie (fun h=>h1 h.2.1) (Qdb (L:=[cn a,cn b,cn c,cn d,cn (a / c),cn (b / c),cn (c / c),cn (d / c),(Qae (a / c)).cells].flatten) Qad Qag
     [gs (t1) [.row (flA [Qav 0 8,[.lit (.bool false)]])] (.r (.row (flA [Qav 8 8,[.lit (.bool false)]]))),gs (pNTold (a / c) ((Qfq a b c d b_a b_b b_c b_d hc).mono (by omega)) h0) [sy [8,9]] (.tup [.row (Qav 16 8),.c (.lit (.int .i64 0))]),gs (pNToldL (b / c) ((Qgv a b c d b_a b_b b_c b_d hc).mono (by omega)) h1) [sy [10,11]] (.tup [.row (zGA),.c (.lit (.int .i64 4))])]
     [] [] Tryz.func125 eo125 2000 [.row (flA [Qav 0 8,[.lit (.bool false)]])] (.tup [.row (flA [zGA,zGA,zGA,zGA,[.lit (.bool false)]]),.c (.lit (.int .i64 4))]))))
   (fun h0=>.ie (fun h=>h0 h.1) (Qdb (L:=[cn a,cn b,cn c,cn d,cn (a / c),cn (b / c),cn (c / c),cn (d / c)].flatten) Qad Qag
     [gs (t1) [.row (flA [Qav 0 8,[.lit (.bool false)]])] (.r (.row (flA [Qav 8 8,[.lit (.bool false)]]))),gs (pNToldL (a / c) ((Qfq a b c d b_a b_b b_c b_d hc).mono (by omega)) h0) [sy [8,9]] (.tup [.row (zGA),.c (.lit (.int .i64 4))])]
     [] [] Tryz.func125 eo125 2000 [.row (flA [Qav 0 8,[.lit (.bool false)]])] (.tup [.row (flA [zGA,zGA,zGA,zGA,[.lit (.bool false)]]),.c (.lit (.int .i64 4))])))
end Go.Proofs.YtmimficdpfmfgaaGreat
