/- Laws for the walk. -/
import Derived.Test.YtmimficdpfmfgaaGreatZbe
set_option linter.unusedVariables false
set_option maxHeartbeats 4000000
namespace Go.Proofs.YtmimficdpfmfgaaGreat
open Go.RowKit Tr
theorem Qcl{q:Rat}(h:¬q.num.sign=0):q≠0:=fun e=>h (by rw[e]; rfl)
structure RawM where
 a:Qbr
 b:Qbr
 c:Qbr
 d:Qbr
 t:Bool
def RawM.val(m:RawM):Value:=.agg (m.a.vals++m.b.vals++m.c.vals++m.d.vals++[Value.bool m.t]).toArray
theorem ite_both{α:Type}{p q:Prop}[Decidable p][Decidable q](a b:α):(if p then(if q then a else b) else b)=if p∧q then a else b:=by
 by_cases hp:p<;>by_cases hq:q<;>simp[hp,hq]
set_option maxRecDepth 100000 in
theorem run_eql_rm(w:World)(p q:RawM)(r:Bool)(hr:r=true↔p=q):(binOp .eql 30 p.val q.val).run Tryz.prog w=.ok (.bool r) w:=by
 obtain⟨⟨i1,i2,i3,i4,x1,x2,x3,x4⟩,⟨i5,i6,i7,i8,x5,x6,x7,x8⟩,⟨j1,j2,j3,j4,x9,x10,x11,x12⟩,⟨j5,j6,j7,j8,x13,x14,x15,x16⟩,t⟩:=p
 obtain⟨⟨k1,k2,k3,k4,y1,y2,y3,y4⟩,⟨k5,k6,k7,k8,y5,y6,y7,y8⟩,⟨l1,l2,l3,l4,y9,y10,y11,y12⟩,⟨l5,l6,l7,l8,y13,y14,y15,y16⟩,u⟩:=q
 simp only[RawM.val,Qbr.vals,List.cons_append,List.nil_append]
 simp only[RawM.mk.injEq,Qbr.mk.injEq,and_assoc] at hr
 go_simp
 simp only[toL_iff]
 cases r
 ·have hn:=mt hr.2 Bool.false_ne_true
  clear hr
  simp only[ite_both]
  rw[if_neg]
  rintro⟨rfl,rfl,rfl,rfl,rfl,rfl,rfl,rfl,rfl,rfl,rfl,rfl,rfl,rfl,rfl,rfl,rfl,rfl,rfl,rfl,rfl,rfl,rfl,rfl,rfl,rfl,rfl,rfl,rfl,rfl,rfl,rfl,rfl⟩
  exact hn (by simp)
 ·obtain⟨rfl,rfl,rfl,rfl,rfl,rfl,rfl,rfl,rfl,rfl,rfl,rfl,rfl,rfl,rfl,rfl,rfl,rfl,rfl,rfl,rfl,rfl,rfl,rfl,rfl,rfl,rfl,rfl,rfl,rfl,rfl,rfl,rfl⟩:=hr.1 rfl
  simp
def bM{L:List GF}(x y:AR)(p q:RawM)(r:Bool)(hr:r=true↔p=q)(hx:x.gv L=some p.val:=by kernel_rfl)(hy:y.gv L=some q.val:=by kernel_rfl):GB Tryz.prog L :=
 gb .eql 30 x y (.lit (.bool r)) (agg_eql (by kernel_rfl) (fun w=>run_eql_rm w p q r hr)) hx hy rfl
set_option maxRecDepth 100000 in
theorem NAdd_any(a b c d:Rat)(v v':Value)(A:Nat→Prop)(w:World)(hv:NumO a b v w A)(hv':NumO c d v' w A)(hA:Rcv A w)(k l:Nat)(hla:RL a k)(hlb:RL b k)(hlc:RL c l)(hld:RL d l)(hkl:k+l+(k+l)<137438953472) :
  Calls Tryz.prog 174 #[v,v'] w fun e w'=>∃ u,e=.returned u∧Below w.heap.size w w'∧NumO (a+c) (b+d) u w' A:=by
 obtain⟨u1,u2,rfl,h1,h2⟩:=hv
 obtain⟨u3,u4,rfl,h3,h4⟩:=hv'
 obtain⟨W,HV,hs1,hs2,e0,e1,e2,e3⟩:=box_two w u1 u2 u3 u4 A hA
 have h1:=new_more (RatO.keeps a) (n:=w.heap.size+2) HV.out.2.1 (by omega) h1
 have h2:=new_more (RatO.keeps b) (n:=w.heap.size+2) HV.out.2.1 (by omega) h2
 have h3:=new_more (RatO.keeps c) (n:=w.heap.size+2) HV.out.2.1 (by omega) h3
 have h4:=new_more (RatO.keeps d) (n:=w.heap.size+2) HV.out.2.1 (by omega) h4
 clear hA
 go_enter Tryz.func174,Tryz.ntmps174
 go_wp2_with fail
 rw[←HV.out.1]
 refine wp_region_inv [(.new zR,[]),(.lit,[]),(.lit,[]),(.val,[]),(.lit,[]),(.lit,[]),(.val,[]),(.on 0 zR,[3,6]),(.new zR,[]),(.lit,[]),(.lit,[]),(.val,[]),(.lit,[]),(.lit,[]),(.val,[]),(.on 8 zR,[11,14])]
  (pickF [(3,FactU (Mo A (w.heap.size+2)) (RatP (a))),(6,FactU (Mo A (w.heap.size+2)) (RatP (c))),(7,FactU (Mo A (w.heap.size+2)) (RatP (a+c))),(11,FactU (Mo A (w.heap.size+2)) (RatP (b))),(14,FactU (Mo A (w.heap.size+2)) (RatP (d))),(15,FactU (Mo A (w.heap.size+2)) (RatP (b+d)))]) (by kernel_rfl) ?_ ?_ (by simp[noW_zRat]) (by simp) (by kernel_rfl)
 ·exact keeps_pick (by simp only[List.mem_cons,List.not_mem_nil,or_false]; rintro p (rfl|rfl|rfl|rfl|rfl|rfl)<;>exact FactU.keeps (RatP.keeps _))
 ·refine⟨fun f w1=>by go_simp,?_⟩
  refine⟨_,fun f w1 h1=>by(have d0:=ct h1 hs1 e0; have d1:=ct h1 hs1 e1; have d2:=ct h1 hs2 e2; have d3:=ct h1 hs2 e3; go_simp; rfl),?_⟩
  refine⟨_,fun f w1 h1=>by(have d0:=ct h1 hs1 e0; have d1:=ct h1 hs1 e1; have d2:=ct h1 hs2 e2; have d3:=ct h1 hs2 e3; go_simp; rfl),?_⟩
  simp only[Act.put,nrA,nrB,nrC,Nat.reduceAdd]
  refine⟨fun f w1 A1 k1 hA hN hd K hK=>by
   go_simp
   refine(erat_any a u1 (Un (Mo A (w.heap.size+2)) A1) w1 (later (FactU.keeps (RatO.keeps _)) h1 k1 hN) (rcv_un (HV.out.2.2.1.below (br.drew.trans k1)) hA)).mono ?_
   rintro e w' ⟨v,rfl,hb,hr⟩
   exact hK _ _ hb hr,?_⟩
  refine⟨_,fun f w1 h1=>by(have d0:=ct h1 hs1 e0; have d1:=ct h1 hs1 e1; have d2:=ct h1 hs2 e2; have d3:=ct h1 hs2 e3; go_simp; rfl),?_⟩
  refine⟨_,fun f w1 h1=>by(have d0:=ct h1 hs1 e0; have d1:=ct h1 hs1 e1; have d2:=ct h1 hs2 e2; have d3:=ct h1 hs2 e3; go_simp; rfl),?_⟩
  simp only[Act.put,nrA,nrB,nrC,Nat.reduceAdd]
  refine⟨fun f w1 A1 k1 hA hN hd K hK=>by
   go_simp
   refine(erat_any c u3 (Un (Mo A (w.heap.size+2)) A1) w1 (later (FactU.keeps (RatO.keeps _)) h3 k1 hN) (rcv_un (HV.out.2.2.1.below (br.drew.trans k1)) hA)).mono ?_
   rintro e w' ⟨v,rfl,hb,hr⟩
   exact hK _ _ hb hr,?_⟩
  simp only[Act.put,nrA,nrB,nrC,Nat.reduceAdd]
  refine⟨fun f w1 A1 m1 k1 hA hN hAm hm0 e hz hd K hK=>by
   simp only[e] at hK ⊢
   have i1:RatP (a) (f 3) w1 (Un (Mo A (w.heap.size+2)) A1):=hd 3 (by simp)
   have i2:RatP (c) (f 6) w1 (Un (Mo A (w.heap.size+2)) A1):=hd 6 (by simp)
   go_simp
   refine(RAdd_any m1 _ _ _ _ _ _ w1 hz (by decide) noW_zRat i1 i2 (k) (l) hla hlc (by omega)).mono ?_
   rintro e w' ⟨rfl,hp⟩
   exact hK _ w' hp.1 (hp.ratU (HV.out.2.2.1.below (br.drew.trans k1)) hA hm0 (fun b hb=>HV.out.2.2.1.lt hb)),?_⟩
  refine⟨fun f w1=>by go_simp,?_⟩
  refine⟨_,fun f w1 h1=>by(have d0:=ct h1 hs1 e0; have d1:=ct h1 hs1 e1; have d2:=ct h1 hs2 e2; have d3:=ct h1 hs2 e3; go_simp; rfl),?_⟩
  refine⟨_,fun f w1 h1=>by(have d0:=ct h1 hs1 e0; have d1:=ct h1 hs1 e1; have d2:=ct h1 hs2 e2; have d3:=ct h1 hs2 e3; go_simp; rfl),?_⟩
  simp only[Act.put,nrA,nrB,nrC,Nat.reduceAdd]
  refine⟨fun f w1 A1 k1 hA hN hd K hK=>by
   go_simp
   refine(erat_any b u2 (Un (Mo A (w.heap.size+2)) A1) w1 (later (FactU.keeps (RatO.keeps _)) h2 k1 hN) (rcv_un (HV.out.2.2.1.below (br.drew.trans k1)) hA)).mono ?_
   rintro e w' ⟨v,rfl,hb,hr⟩
   exact hK _ _ hb hr,?_⟩
  refine⟨_,fun f w1 h1=>by(have d0:=ct h1 hs1 e0; have d1:=ct h1 hs1 e1; have d2:=ct h1 hs2 e2; have d3:=ct h1 hs2 e3; go_simp; rfl),?_⟩
  refine⟨_,fun f w1 h1=>by(have d0:=ct h1 hs1 e0; have d1:=ct h1 hs1 e1; have d2:=ct h1 hs2 e2; have d3:=ct h1 hs2 e3; go_simp; rfl),?_⟩
  simp only[Act.put,nrA,nrB,nrC,Nat.reduceAdd]
  refine⟨fun f w1 A1 k1 hA hN hd K hK=>by
   go_simp
   refine(erat_any d u4 (Un (Mo A (w.heap.size+2)) A1) w1 (later (FactU.keeps (RatO.keeps _)) h4 k1 hN) (rcv_un (HV.out.2.2.1.below (br.drew.trans k1)) hA)).mono ?_
   rintro e w' ⟨v,rfl,hb,hr⟩
   exact hK _ _ hb hr,?_⟩
  simp only[Act.put,nrA,nrB,nrC,Nat.reduceAdd]
  refine⟨fun f w1 A1 m1 k1 hA hN hAm hm0 e hz hd K hK=>by
   simp only[e] at hK ⊢
   have i1:RatP (b) (f 11) w1 (Un (Mo A (w.heap.size+2)) A1):=hd 11 (by simp)
   have i2:RatP (d) (f 14) w1 (Un (Mo A (w.heap.size+2)) A1):=hd 14 (by simp)
   go_simp
   refine(RAdd_any m1 _ _ _ _ _ _ w1 hz (by decide) noW_zRat i1 i2 (k) (l) hlb hld (by omega)).mono ?_
   rintro e w' ⟨rfl,hp⟩
   exact hK _ w' hp.1 (hp.ratU (HV.out.2.2.1.below (br.drew.trans k1)) hA hm0 (fun b hb=>HV.out.2.2.1.lt hb)),?_⟩
  intro f w1 k1 hF
  have i0:RatP (a) (f 3) w1 ((Mo A (w.heap.size+2))):=FactU.done (RatP.keeps _) hF.1.1.1.1.1.2
  have i1:RatP (c) (f 6) w1 ((Mo A (w.heap.size+2))):=FactU.done (RatP.keeps _) hF.1.1.1.1.2
  have i2:RatP (a+c) (f 7) w1 ((Mo A (w.heap.size+2))):=FactU.done (RatP.keeps _) hF.1.1.1.2
  have i3:RatP (b) (f 11) w1 ((Mo A (w.heap.size+2))):=FactU.done (RatP.keeps _) hF.1.1.2
  have i4:RatP (d) (f 14) w1 ((Mo A (w.heap.size+2))):=FactU.done (RatP.keeps _) hF.1.2
  have i5:RatP (b+d) (f 15) w1 ((Mo A (w.heap.size+2))):=FactU.done (RatP.keeps _) hF.2
  clear hF
  simp only[Act.put,nrA,nrB,nrC]
  generalize f 3=v0 at *
  generalize f 6=v1 at *
  generalize f 7=v2 at *
  generalize f 11=v3 at *
  generalize f 14=v4 at *
  generalize f 15=v5 at *
  have hb1:Below W.heap.size W w1:=br.drew.trans k1
  obtain⟨c0,c1,f0,f1⟩:=HV.out.2.2.2 w1 hb1
  have hbw:=HV.out.2.1.trans (hb1.mono HV.out.2.1.size)
  have HE:=Lib.hid (And.intro i2 (And.intro i5 hbw))
  obtain⟨m1,rfl⟩:=i2.shape
  obtain⟨m2,rfl⟩:=i5.shape
  clear e0 e1 e2 e3 h1 h2 h3 h4 i0 i1 i2 i3 i4 i5 hbw hb1 k1
  go_wp2_with fail
  refine bodyPost_ret (v:=.agg #[.pointer (some ⟨m1,0,none⟩),.pointer (some ⟨m2,0,none⟩)]) (by simp[results,Tryz.results174,go_sem,c0,c1]) rfl ?_
  exact put_num HE.out.2.2 HE.out.1 HE.out.2.1 (by omega)
theorem pNAdd(x y:QC){m l:Nat}(hx:ZL x m)(hy:ZL y l)(hb:m+l+(m+l)<137438953472):Qae Tryz.prog true 174 [N1 x,N1 y] (.r (N1 (x+y))) :=
 spec2 eo174 fun w A u v hR _ hu hv=>(NAdd_any x.re x.im y.re y.im u v A w (Qby.1 hu) (Qby.1 hv) (hR rfl) m l hx.1 hx.2 hy.1 hy.2 hb).mono fun e w' ⟨z,h1,h2,h3⟩=>⟨z,h1,Qby.2 h3,h2⟩
open Classical
theorem eSame(x y:QC)(b_x:ZL x 2000000)(b_y:ZL y 2000000) :Qae Tryz.prog true 172 [.row (cn x),.row (cn y)] (if(x - y)=(⟨0,0⟩:QC) then .r (.c (gl (.bool true))) else .r (.c (gl (.bool false)))) :=
  have t1:=pNSub x y b_x b_y (by decide)
  have t2:=Qcj (x - y)
  (Classical.em ((x - y) = (⟨0,0⟩ : QC))).elim (fun h0 => .it h0 (Qam (L := [cn x,cn y,cn (x - y)].flatten) tys_ok mixed
     [gs (t1) [sy [0,1],sy [2,3]] (.r (sy [4,5])),gs (t2 true (tI h0)) [sy [4,5]] (.r (.c (.lit (.bool true))))]
     [] [] Tryz.func172 eo172 2000 [sy [0,1],sy [2,3]] (.r (.c (.lit (.bool true))))))
   (fun h0=>.ie (fun h=>h0 h) (Qam (L:=[cn x,cn y,cn (x - y)].flatten) tys_ok mixed
     [gs (t1) [sy [0,1],sy [2,3]] (.r (sy [4,5])),gs (t2 false (fI h0)) [sy [4,5]] (.r (.c (.lit (.bool false))))]
     [] [] Tryz.func172 eo172 2000 [sy [0,1],sy [2,3]] (.r (.c (.lit (.bool false))))))
theorem pNSame(x y:QC){m l:Nat}(hx:ZL x m)(hy:ZL y l)(hb:m+l<2000000)(r:Bool)(hr:r=true↔x=y):Qae Tryz.prog true 172 [N1 x,N1 y] (B1 r):=by
 have h:=eSame x y (hx.mono (by omega)) (hy.mono (by omega))
 cases r
 ·exact h.f (fun e=>by cases hr.2 (qc_sub0.1 e))
 ·exact h.t (qc_sub0.2 (hr.1 rfl))
theorem eDet(a b c d:QC)(t:Bool)(b_a:ZL a 2000000)(b_b:ZL b 2000000)(b_c:ZL c 2000000)(b_d:ZL d 2000000) :Qae Tryz.prog true 169 [.row (cn a++cn b++cn c++cn d++[gx (.bool t)])] (.r (.row (cn ((a*d) - (b*c))))) :=
  Qam (L := [cn a,cn b,cn c,cn d,[gx (.bool t)],cn (a * d),cn (b * c),cn ((a * d) - (b * c))].flatten) tys_ok mixed
     [gs (pNMul a d b_a b_d (by decide)) [sy [0,1],sy [6,7]] (.r (sy [9,10])),gs (pNMul b c b_b b_c (by decide)) [sy [2,3],sy [4,5]] (.r (sy [11,12])),gs (pNSub (a*d) (b*c) (Qah b_a b_d) (Qah b_b b_c) (by decide)) [sy [9,10],sy [11,12]] (.r (sy [13,14]))]
     [] [] Tryz.func169 eo169 2000 [.row (Qab 0 9)] (.r (sy [13,14]))
theorem eOpen(a b c d:QC)(t:Bool)(b_a:Qad a)(b_b:Qad b)(b_c:Qad c)(b_d:Qad d) :Qae Tryz.prog true 75 [.row ((Qac a).cells++(Qac b).cells++(Qac c).cells++(Qac d).cells++[gx (.bool t)])] (if((a*d) - (b*c))=(⟨0,0⟩:QC) then .tup [.row ([gl .nilp,gl .nilp,gl .nilp,gl .nilp,gl .nilp,gl .nilp,gl .nilp,gl .nilp,gl (.bool false)]),.c (gl (.bool false))] else if c=(⟨1,0⟩:QC) then .tup [.row (cn a++cn b++cn c++cn d++[gx (.bool t)]),.c (gl (.bool true))] else if c=(⟨0,0⟩:QC)∧d=(⟨1,0⟩:QC) then .tup [.row (cn a++cn b++cn c++cn d++[gx (.bool t)]),.c (gl (.bool true))] else .tup [.row (cn a++cn b++cn c++cn d++[gx (.bool t)]),.c (gl (.bool false))]) :=
  have t1:=eDet a b c d t ((Qaa b_a).mono (by omega)) ((Qaa b_b).mono (by omega)) ((Qaa b_c).mono (by omega)) ((Qaa b_d).mono (by omega))
  have t2:=Qcj ((a*d) - (b*c))
  have t3:=Qas 1 0 (by decide) (by decide) (by decide) (by decide)
  have t4:=pNSame c (⟨1,0⟩:QC) (Qaa b_c) (Qag 1 0 (by decide) (by decide) (by decide) (by decide)) (by decide)
  have t5:=pNSame d (⟨1,0⟩:QC) (Qaa b_d) (Qag 1 0 (by decide) (by decide) (by decide) (by decide)) (by decide)
  (Classical.em (((a * d) - (b * c)) = (⟨0,0⟩ : QC))).elim (fun h0 => .it h0 (Qam (L := [(Qac a).cells,(Qac b).cells,(Qac c).cells,(Qac d).cells,[gx (.bool t)],cn a,cn b,cn c,cn d,cn ((a * d) - (b * c))].flatten) tys_ok mixed
     [gs (Qbw a b_a) [.row (Qab 0 8)] (.tup [sy [33,34],.c (.lit (.bool true))]),gs (Qbw b b_b) [.row (Qab 8 8)] (.tup [sy [35,36],.c (.lit (.bool true))]),gs (Qbw c b_c) [.row (Qab 16 8)] (.tup [sy [37,38],.c (.lit (.bool true))]),gs (Qbw d b_d) [.row (Qab 24 8)] (.tup [sy [39,40],.c (.lit (.bool true))]),gs (t1) [.row (flA [Qab 33 8,[.sym 32]])] (.r (sy [41,42])),gs (t2 true (tI h0)) [sy [41,42]] (.r (.c (.lit (.bool true))))]
     [] [] Tryz.func75 eo75 2000 [.row (Qab 0 33)] (.tup [.row [.lit .nilp,.lit .nilp,.lit .nilp,.lit .nilp,.lit .nilp,.lit .nilp,.lit .nilp,.lit .nilp,.lit (.bool false)],.c (.lit (.bool false))])))
   (fun h0=>.ie h0 ((Classical.em (c=(⟨1,0⟩:QC))).elim (fun h1=>.it h1 (Qam (L:=[(Qac a).cells,(Qac b).cells,(Qac c).cells,(Qac d).cells,[gx (.bool t)],cn a,cn b,cn c,cn d,cn ((a*d) - (b*c)),cn (⟨1,0⟩:QC)].flatten) tys_ok mixed
     [gs (Qbw a b_a) [.row (Qab 0 8)] (.tup [sy [33,34],.c (.lit (.bool true))]),gs (Qbw b b_b) [.row (Qab 8 8)] (.tup [sy [35,36],.c (.lit (.bool true))]),gs (Qbw c b_c) [.row (Qab 16 8)] (.tup [sy [37,38],.c (.lit (.bool true))]),gs (Qbw d b_d) [.row (Qab 24 8)] (.tup [sy [39,40],.c (.lit (.bool true))]),gs (t1) [.row (flA [Qab 33 8,[.sym 32]])] (.r (sy [41,42])),gs (t2 false (fI h0)) [sy [41,42]] (.r (.c (.lit (.bool false)))),gs (t3) [.c (.lit (.int .i64 1)),.c (.lit (.int .i64 0))] (.r (sy [43,44])),gs (t4 true (tI h1)) [sy [37,38],sy [43,44]] (.r (.c (.lit (.bool true))))]
     [] [] Tryz.func75 eo75 2000 [.row (Qab 0 33)] (.tup [.row (flA [Qab 33 8,[.sym 32]]),.c (.lit (.bool true))])))
   (fun h1=>.ie h1 ((Classical.em (c=(⟨0,0⟩:QC))).elim (fun h2=>(Classical.em (d=(⟨1,0⟩:QC))).elim (fun h3=>.it ⟨h2,h3⟩ (Qam (L:=[(Qac a).cells,(Qac b).cells,(Qac c).cells,(Qac d).cells,[gx (.bool t)],cn a,cn b,cn c,cn d,cn ((a*d) - (b*c)),cn (⟨1,0⟩:QC)].flatten) tys_ok mixed
     [gs (Qbw a b_a) [.row (Qab 0 8)] (.tup [sy [33,34],.c (.lit (.bool true))]),gs (Qbw b b_b) [.row (Qab 8 8)] (.tup [sy [35,36],.c (.lit (.bool true))]),gs (Qbw c b_c) [.row (Qab 16 8)] (.tup [sy [37,38],.c (.lit (.bool true))]),gs (Qbw d b_d) [.row (Qab 24 8)] (.tup [sy [39,40],.c (.lit (.bool true))]),gs (t1) [.row (flA [Qab 33 8,[.sym 32]])] (.r (sy [41,42])),gs (t2 false (fI h0)) [sy [41,42]] (.r (.c (.lit (.bool false)))),gs (t3) [.c (.lit (.int .i64 1)),.c (.lit (.int .i64 0))] (.r (sy [43,44])),gs (t4 false (fI h1)) [sy [37,38],sy [43,44]] (.r (.c (.lit (.bool false)))),gs (Qcj c true (tI h2)) [sy [37,38]] (.r (.c (.lit (.bool true)))),gs (t5 true (tI h3)) [sy [39,40],sy [43,44]] (.r (.c (.lit (.bool true))))]
     [] [] Tryz.func75 eo75 2000 [.row (Qab 0 33)] (.tup [.row (flA [Qab 33 8,[.sym 32]]),.c (.lit (.bool true))])))
   (fun h3=>.ie (fun h=>h3 h.2) (Qam (L:=[(Qac a).cells,(Qac b).cells,(Qac c).cells,(Qac d).cells,[gx (.bool t)],cn a,cn b,cn c,cn d,cn ((a*d) - (b*c)),cn (⟨1,0⟩:QC)].flatten) tys_ok mixed
     [gs (Qbw a b_a) [.row (Qab 0 8)] (.tup [sy [33,34],.c (.lit (.bool true))]),gs (Qbw b b_b) [.row (Qab 8 8)] (.tup [sy [35,36],.c (.lit (.bool true))]),gs (Qbw c b_c) [.row (Qab 16 8)] (.tup [sy [37,38],.c (.lit (.bool true))]),gs (Qbw d b_d) [.row (Qab 24 8)] (.tup [sy [39,40],.c (.lit (.bool true))]),gs (t1) [.row (flA [Qab 33 8,[.sym 32]])] (.r (sy [41,42])),gs (t2 false (fI h0)) [sy [41,42]] (.r (.c (.lit (.bool false)))),gs (t3) [.c (.lit (.int .i64 1)),.c (.lit (.int .i64 0))] (.r (sy [43,44])),gs (t4 false (fI h1)) [sy [37,38],sy [43,44]] (.r (.c (.lit (.bool false)))),gs (Qcj c true (tI h2)) [sy [37,38]] (.r (.c (.lit (.bool true)))),gs (t5 false (fI h3)) [sy [39,40],sy [43,44]] (.r (.c (.lit (.bool false))))]
     [] [] Tryz.func75 eo75 2000 [.row (Qab 0 33)] (.tup [.row (flA [Qab 33 8,[.sym 32]]),.c (.lit (.bool false))]))))
   (fun h2=>.ie (fun h=>h2 h.1) (Qam (L:=[(Qac a).cells,(Qac b).cells,(Qac c).cells,(Qac d).cells,[gx (.bool t)],cn a,cn b,cn c,cn d,cn ((a*d) - (b*c)),cn (⟨1,0⟩:QC)].flatten) tys_ok mixed
     [gs (Qbw a b_a) [.row (Qab 0 8)] (.tup [sy [33,34],.c (.lit (.bool true))]),gs (Qbw b b_b) [.row (Qab 8 8)] (.tup [sy [35,36],.c (.lit (.bool true))]),gs (Qbw c b_c) [.row (Qab 16 8)] (.tup [sy [37,38],.c (.lit (.bool true))]),gs (Qbw d b_d) [.row (Qab 24 8)] (.tup [sy [39,40],.c (.lit (.bool true))]),gs (t1) [.row (flA [Qab 33 8,[.sym 32]])] (.r (sy [41,42])),gs (t2 false (fI h0)) [sy [41,42]] (.r (.c (.lit (.bool false)))),gs (t3) [.c (.lit (.int .i64 1)),.c (.lit (.int .i64 0))] (.r (sy [43,44])),gs (t4 false (fI h1)) [sy [37,38],sy [43,44]] (.r (.c (.lit (.bool false)))),gs (Qcj c false (fI h2)) [sy [37,38]] (.r (.c (.lit (.bool false))))]
     [] [] Tryz.func75 eo75 2000 [.row (Qab 0 33)] (.tup [.row (flA [Qab 33 8,[.sym 32]]),.c (.lit (.bool false))])))))))
theorem eStill  :Qae Tryz.prog true 168 [] (.r (.row (cn (⟨1,0⟩:QC)++[gl .nilp,gl .nilp,gl .nilp,gl .nilp]++cn (⟨1,0⟩:QC)++[gl (.bool false)]))) :=
  Qam (L := [cn (⟨1,0⟩ : QC)].flatten) tys_ok mixed
     [gs (Qas 1 0 (by decide) (by decide) (by decide) (by decide)) [.c (.lit (.int .i64 1)),.c (.lit (.int .i64 0))] (.r (sy [0,1]))]
     [] [] Tryz.func168 eo168 2000 [] (.r (.row [.sym 0,.sym 1,.lit .nilp,.lit .nilp,.lit .nilp,.lit .nilp,.sym 0,.sym 1,.lit (.bool false)]))
theorem eNorm1  :Qae Tryz.prog true 213 [.row (cn (⟨1,0⟩:QC)++cn (⟨0,0⟩:QC)++cn (⟨0,0⟩:QC)++cn (⟨1,0⟩:QC)++[gl (.bool false)])] (.r (.row (cn (⟨1,0⟩:QC)++cn (⟨0,0⟩:QC)++cn (⟨0,0⟩:QC)++cn (⟨1,0⟩:QC)++[gl (.bool false)]))) :=
  have t1:=Qcz (⟨1,0⟩:QC) (⟨1,0⟩:QC) (by decide +kernel) (Qag 1 0 (by decide) (by decide) (by decide) (by decide)) (Qag 1 0 (by decide) (by decide) (by decide) (by decide)) (by decide)
  have t2:=Qcz (⟨0,0⟩:QC) (⟨1,0⟩:QC) (by decide +kernel) (Qag 0 0 (by decide) (by decide) (by decide) (by decide)) (Qag 1 0 (by decide) (by decide) (by decide) (by decide)) (by decide)
  Qam (L := [cn (⟨1,0⟩ : QC),cn (⟨0,0⟩ : QC),cn (⟨0,0⟩ : QC),cn (⟨1,0⟩ : QC),cn (⟨1,0⟩ : QC),cn (⟨0,0⟩ : QC),cn (⟨0,0⟩ : QC),cn (⟨1,0⟩ : QC)].flatten) tys_ok mixed
     [gs (Qcj (⟨0,0⟩:QC) true (tI (by decide +kernel))) [sy [4,5]] (.r (.c (.lit (.bool true)))),gs (t1) [sy [0,1],sy [6,7]] (.r (sy [8,9])),gs (t2) [sy [2,3],sy [6,7]] (.r (sy [10,11])),gs (t2) [sy [4,5],sy [6,7]] (.r (sy [12,13])),gs (t1) [sy [6,7],sy [6,7]] (.r (sy [14,15]))]
     [] [] Tryz.func213 eo213 2000 [.row (flA [Qab 0 8,[.lit (.bool false)]])] (.r (.row (flA [Qab 8 8,[.lit (.bool false)]])))
theorem eTold1  :Qae Tryz.prog true 125 [.row (cn (⟨1,0⟩:QC)++cn (⟨0,0⟩:QC)++cn (⟨0,0⟩:QC)++cn (⟨1,0⟩:QC)++[gl (.bool false)])] (.tup [.row ((Qac (⟨1,0⟩:QC)).cells++(Qac (⟨0,0⟩:QC)).cells++(Qac (⟨0,0⟩:QC)).cells++(Qac (⟨1,0⟩:QC)).cells++[gl (.bool false)]),.c (gl (.int .i64 0))]) :=
  have t1:=Qat (⟨1,0⟩:QC) ((Qag 1 0 (by decide) (by decide) (by decide) (by decide)).mono (by omega)) (Qaf (by decide +kernel))
  have t2:=Qat (⟨0,0⟩:QC) ((Qag 0 0 (by decide) (by decide) (by decide) (by decide)).mono (by omega)) (Qaf (by decide +kernel))
  Qam (L := [cn (⟨1,0⟩ : QC),cn (⟨0,0⟩ : QC),cn (⟨0,0⟩ : QC),cn (⟨1,0⟩ : QC),cn (⟨1,0⟩ : QC),cn (⟨0,0⟩ : QC),cn (⟨0,0⟩ : QC),cn (⟨1,0⟩ : QC),(Qac (⟨1,0⟩ : QC)).cells,(Qac (⟨0,0⟩ : QC)).cells,(Qac (⟨0,0⟩ : QC)).cells,(Qac (⟨1,0⟩ : QC)).cells].flatten) tys_ok mixed
     [gs (eNorm1) [.row (flA [Qab 0 8,[.lit (.bool false)]])] (.r (.row (flA [Qab 8 8,[.lit (.bool false)]]))),gs (t1) [sy [8,9]] (.tup [.row (Qab 16 8),.c (.lit (.int .i64 0))]),gs (t2) [sy [10,11]] (.tup [.row (Qab 24 8),.c (.lit (.int .i64 0))]),gs (t2) [sy [12,13]] (.tup [.row (Qab 32 8),.c (.lit (.int .i64 0))]),gs (t1) [sy [14,15]] (.tup [.row (Qab 40 8),.c (.lit (.int .i64 0))])]
     [] [] Tryz.func125 eo125 2000 [.row (flA [Qab 0 8,[.lit (.bool false)]])] (.tup [.row (flA [Qab 16 32,[.lit (.bool false)]]),.c (.lit (.int .i64 0))])
theorem okg_nil0{x y:QC}{g:GF}{vs:List Value}{w:World}{A:Nat→Prop}(h:okg (cn x++[gl .nilp,gl .nilp,gl .nilp,gl .nilp]++cn y++[g]) vs w A):okg (cn x++cn ⟨0,0⟩++cn ⟨0,0⟩++cn y++[g]) vs w A:=by
 obtain⟨u1,_,rfl,h1,h⟩:=Qcx.1 h
 obtain⟨u2,_,rfl,h2,h⟩:=Qcx.1 h
 obtain⟨u3,_,rfl,h3,h⟩:=Qcx.1 h
 obtain⟨u4,_,rfl,h4,h⟩:=Qcx.1 h
 obtain⟨u5,_,rfl,h5,h⟩:=Qcx.1 h
 obtain⟨u6,_,rfl,h6,h⟩:=Qcx.1 h
 exact⟨h1,h2,.inl ⟨h3,rfl⟩,.inl ⟨h4,rfl⟩,.inl ⟨h5,rfl⟩,.inl ⟨h6,rfl⟩,h⟩
theorem mat_nil{P:Program}{hp:Bool}{f:FuncId}{x y:QC}{g:GF}{r:FV}(h:Qae P hp f [.row (cn x++cn ⟨0,0⟩++cn ⟨0,0⟩++cn y++[g])] r):Qae P hp f [.row (cn x++[gl .nilp,gl .nilp,gl .nilp,gl .nilp]++cn y++[g])] r :=
 ⟨h.ent,fun w A us hR hA hu=>by
  match us,hu with
  | [u],hu =>
   obtain⟨⟨vs,e,k⟩,_⟩:=hu
   exact h.ok w A [u] hR hA ⟨⟨vs,e,okg_nil0 k⟩,trivial⟩⟩
theorem mOne  :Qae Tryz.prog true 71 [] (.r (.row ((Qac (⟨1,0⟩:QC)).cells++(Qac (⟨0,0⟩:QC)).cells++(Qac (⟨0,0⟩:QC)).cells++(Qac (⟨1,0⟩:QC)).cells++[gl (.bool false)]))) :=
  Qam (L := [cn (⟨1,0⟩ : QC),cn (⟨1,0⟩ : QC),cn (⟨0,0⟩ : QC),(Qac (⟨1,0⟩ : QC)).cells,(Qac (⟨0,0⟩ : QC)).cells,(Qac (⟨0,0⟩ : QC)).cells,(Qac (⟨1,0⟩ : QC)).cells].flatten) tys_ok mixed
     [gs (eStill) [] (.r (.row [.sym 0,.sym 1,.lit .nilp,.lit .nilp,.lit .nilp,.lit .nilp,.sym 2,.sym 3,.lit (.bool false)])),gs (mat_nil (eTold1)) [.row [.sym 0,.sym 1,.lit .nilp,.lit .nilp,.lit .nilp,.lit .nilp,.sym 2,.sym 3,.lit (.bool false)]] (.tup [.row (flA [Qab 6 32,[.lit (.bool false)]]),.c (.lit (.int .i64 0))])]
     [] [] Tryz.func71 eo71 2000 [] (.r (.row (flA [Qab 6 32,[.lit (.bool false)]])))
theorem eOpenB(g1 g2 g3 g4:Qbr)(t:Bool)(b_g1:Qbr.Sz g1)(b_g2:Qbr.Sz g2)(b_g3:Qbr.Sz g3)(b_g4:Qbr.Sz g4)(hbad:¬(GOk g1.val∧GOk g2.val∧GOk g3.val∧GOk g4.val)):Qae Tryz.prog true 75 [.row (g1.cells++g2.cells++g3.cells++g4.cells++[gx (.bool t)])] (.tup [.row ([gl .nilp,gl .nilp,gl .nilp,gl .nilp,gl .nilp,gl .nilp,gl .nilp,gl .nilp,gl (.bool false)]),.c (gl (.bool false))]) :=
  (Classical.em (GOk g1.val)).elim (fun h0=>(Classical.em (GOk g2.val)).elim (fun h1=>(Classical.em (GOk g3.val)).elim (fun h2=>(Classical.em (GOk g4.val)).elim (fun h3=>(hbad ⟨h0,h1,h2,h3⟩).elim)
   (fun h3=>Qam (L:=[g1.cells,g2.cells,g3.cells,g4.cells,[gx (.bool t)],[ga,ga],[ga,ga],[ga,ga],[ga,ga]].flatten) tys_ok mixed
     [gs (Qav g1 b_g1 true (tI h0)) [.row (Qab 0 8)] (.tup [sy [33,34],.c (.lit (.bool true))]),gs (Qav g2 b_g2 true (tI h1)) [.row (Qab 8 8)] (.tup [sy [35,36],.c (.lit (.bool true))]),gs (Qav g3 b_g3 true (tI h2)) [.row (Qab 16 8)] (.tup [sy [37,38],.c (.lit (.bool true))]),gs (Qav g4 b_g4 false (fI h3)) [.row (Qab 24 8)] (.tup [sy [39,40],.c (.lit (.bool false))])]
     [] [] Tryz.func75 eo75 2000 [.row (Qab 0 33)] (.tup [.row [.lit .nilp,.lit .nilp,.lit .nilp,.lit .nilp,.lit .nilp,.lit .nilp,.lit .nilp,.lit .nilp,.lit (.bool false)],.c (.lit (.bool false))])))
   (fun h2=>(Classical.em (GOk g4.val)).elim (fun h3=>Qam (L:=[g1.cells,g2.cells,g3.cells,g4.cells,[gx (.bool t)],[ga,ga],[ga,ga],[ga,ga],[ga,ga]].flatten) tys_ok mixed
     [gs (Qav g1 b_g1 true (tI h0)) [.row (Qab 0 8)] (.tup [sy [33,34],.c (.lit (.bool true))]),gs (Qav g2 b_g2 true (tI h1)) [.row (Qab 8 8)] (.tup [sy [35,36],.c (.lit (.bool true))]),gs (Qav g3 b_g3 false (fI h2)) [.row (Qab 16 8)] (.tup [sy [37,38],.c (.lit (.bool false))]),gs (Qav g4 b_g4 true (tI h3)) [.row (Qab 24 8)] (.tup [sy [39,40],.c (.lit (.bool true))])]
     [] [] Tryz.func75 eo75 2000 [.row (Qab 0 33)] (.tup [.row [.lit .nilp,.lit .nilp,.lit .nilp,.lit .nilp,.lit .nilp,.lit .nilp,.lit .nilp,.lit .nilp,.lit (.bool false)],.c (.lit (.bool false))]))
   (fun h3=>Qam (L:=[g1.cells,g2.cells,g3.cells,g4.cells,[gx (.bool t)],[ga,ga],[ga,ga],[ga,ga],[ga,ga]].flatten) tys_ok mixed
     [gs (Qav g1 b_g1 true (tI h0)) [.row (Qab 0 8)] (.tup [sy [33,34],.c (.lit (.bool true))]),gs (Qav g2 b_g2 true (tI h1)) [.row (Qab 8 8)] (.tup [sy [35,36],.c (.lit (.bool true))]),gs (Qav g3 b_g3 false (fI h2)) [.row (Qab 16 8)] (.tup [sy [37,38],.c (.lit (.bool false))]),gs (Qav g4 b_g4 false (fI h3)) [.row (Qab 24 8)] (.tup [sy [39,40],.c (.lit (.bool false))])]
     [] [] Tryz.func75 eo75 2000 [.row (Qab 0 33)] (.tup [.row [.lit .nilp,.lit .nilp,.lit .nilp,.lit .nilp,.lit .nilp,.lit .nilp,.lit .nilp,.lit .nilp,.lit (.bool false)],.c (.lit (.bool false))]))))
   (fun h1=>(Classical.em (GOk g3.val)).elim (fun h2=>(Classical.em (GOk g4.val)).elim (fun h3=>Qam (L:=[g1.cells,g2.cells,g3.cells,g4.cells,[gx (.bool t)],[ga,ga],[ga,ga],[ga,ga],[ga,ga]].flatten) tys_ok mixed
     [gs (Qav g1 b_g1 true (tI h0)) [.row (Qab 0 8)] (.tup [sy [33,34],.c (.lit (.bool true))]),gs (Qav g2 b_g2 false (fI h1)) [.row (Qab 8 8)] (.tup [sy [35,36],.c (.lit (.bool false))]),gs (Qav g3 b_g3 true (tI h2)) [.row (Qab 16 8)] (.tup [sy [37,38],.c (.lit (.bool true))]),gs (Qav g4 b_g4 true (tI h3)) [.row (Qab 24 8)] (.tup [sy [39,40],.c (.lit (.bool true))])]
     [] [] Tryz.func75 eo75 2000 [.row (Qab 0 33)] (.tup [.row [.lit .nilp,.lit .nilp,.lit .nilp,.lit .nilp,.lit .nilp,.lit .nilp,.lit .nilp,.lit .nilp,.lit (.bool false)],.c (.lit (.bool false))]))
   (fun h3=>Qam (L:=[g1.cells,g2.cells,g3.cells,g4.cells,[gx (.bool t)],[ga,ga],[ga,ga],[ga,ga],[ga,ga]].flatten) tys_ok mixed
     [gs (Qav g1 b_g1 true (tI h0)) [.row (Qab 0 8)] (.tup [sy [33,34],.c (.lit (.bool true))]),gs (Qav g2 b_g2 false (fI h1)) [.row (Qab 8 8)] (.tup [sy [35,36],.c (.lit (.bool false))]),gs (Qav g3 b_g3 true (tI h2)) [.row (Qab 16 8)] (.tup [sy [37,38],.c (.lit (.bool true))]),gs (Qav g4 b_g4 false (fI h3)) [.row (Qab 24 8)] (.tup [sy [39,40],.c (.lit (.bool false))])]
     [] [] Tryz.func75 eo75 2000 [.row (Qab 0 33)] (.tup [.row [.lit .nilp,.lit .nilp,.lit .nilp,.lit .nilp,.lit .nilp,.lit .nilp,.lit .nilp,.lit .nilp,.lit (.bool false)],.c (.lit (.bool false))])))
   (fun h2=>(Classical.em (GOk g4.val)).elim (fun h3=>Qam (L:=[g1.cells,g2.cells,g3.cells,g4.cells,[gx (.bool t)],[ga,ga],[ga,ga],[ga,ga],[ga,ga]].flatten) tys_ok mixed
     [gs (Qav g1 b_g1 true (tI h0)) [.row (Qab 0 8)] (.tup [sy [33,34],.c (.lit (.bool true))]),gs (Qav g2 b_g2 false (fI h1)) [.row (Qab 8 8)] (.tup [sy [35,36],.c (.lit (.bool false))]),gs (Qav g3 b_g3 false (fI h2)) [.row (Qab 16 8)] (.tup [sy [37,38],.c (.lit (.bool false))]),gs (Qav g4 b_g4 true (tI h3)) [.row (Qab 24 8)] (.tup [sy [39,40],.c (.lit (.bool true))])]
     [] [] Tryz.func75 eo75 2000 [.row (Qab 0 33)] (.tup [.row [.lit .nilp,.lit .nilp,.lit .nilp,.lit .nilp,.lit .nilp,.lit .nilp,.lit .nilp,.lit .nilp,.lit (.bool false)],.c (.lit (.bool false))]))
   (fun h3=>Qam (L:=[g1.cells,g2.cells,g3.cells,g4.cells,[gx (.bool t)],[ga,ga],[ga,ga],[ga,ga],[ga,ga]].flatten) tys_ok mixed
     [gs (Qav g1 b_g1 true (tI h0)) [.row (Qab 0 8)] (.tup [sy [33,34],.c (.lit (.bool true))]),gs (Qav g2 b_g2 false (fI h1)) [.row (Qab 8 8)] (.tup [sy [35,36],.c (.lit (.bool false))]),gs (Qav g3 b_g3 false (fI h2)) [.row (Qab 16 8)] (.tup [sy [37,38],.c (.lit (.bool false))]),gs (Qav g4 b_g4 false (fI h3)) [.row (Qab 24 8)] (.tup [sy [39,40],.c (.lit (.bool false))])]
     [] [] Tryz.func75 eo75 2000 [.row (Qab 0 33)] (.tup [.row [.lit .nilp,.lit .nilp,.lit .nilp,.lit .nilp,.lit .nilp,.lit .nilp,.lit .nilp,.lit .nilp,.lit (.bool false)],.c (.lit (.bool false))])))))
   (fun h0=>(Classical.em (GOk g2.val)).elim (fun h1=>(Classical.em (GOk g3.val)).elim (fun h2=>(Classical.em (GOk g4.val)).elim (fun h3=>Qam (L:=[g1.cells,g2.cells,g3.cells,g4.cells,[gx (.bool t)],[ga,ga],[ga,ga],[ga,ga],[ga,ga]].flatten) tys_ok mixed
     [gs (Qav g1 b_g1 false (fI h0)) [.row (Qab 0 8)] (.tup [sy [33,34],.c (.lit (.bool false))]),gs (Qav g2 b_g2 true (tI h1)) [.row (Qab 8 8)] (.tup [sy [35,36],.c (.lit (.bool true))]),gs (Qav g3 b_g3 true (tI h2)) [.row (Qab 16 8)] (.tup [sy [37,38],.c (.lit (.bool true))]),gs (Qav g4 b_g4 true (tI h3)) [.row (Qab 24 8)] (.tup [sy [39,40],.c (.lit (.bool true))])]
     [] [] Tryz.func75 eo75 2000 [.row (Qab 0 33)] (.tup [.row [.lit .nilp,.lit .nilp,.lit .nilp,.lit .nilp,.lit .nilp,.lit .nilp,.lit .nilp,.lit .nilp,.lit (.bool false)],.c (.lit (.bool false))]))
   (fun h3=>Qam (L:=[g1.cells,g2.cells,g3.cells,g4.cells,[gx (.bool t)],[ga,ga],[ga,ga],[ga,ga],[ga,ga]].flatten) tys_ok mixed
     [gs (Qav g1 b_g1 false (fI h0)) [.row (Qab 0 8)] (.tup [sy [33,34],.c (.lit (.bool false))]),gs (Qav g2 b_g2 true (tI h1)) [.row (Qab 8 8)] (.tup [sy [35,36],.c (.lit (.bool true))]),gs (Qav g3 b_g3 true (tI h2)) [.row (Qab 16 8)] (.tup [sy [37,38],.c (.lit (.bool true))]),gs (Qav g4 b_g4 false (fI h3)) [.row (Qab 24 8)] (.tup [sy [39,40],.c (.lit (.bool false))])]
     [] [] Tryz.func75 eo75 2000 [.row (Qab 0 33)] (.tup [.row [.lit .nilp,.lit .nilp,.lit .nilp,.lit .nilp,.lit .nilp,.lit .nilp,.lit .nilp,.lit .nilp,.lit (.bool false)],.c (.lit (.bool false))])))
   (fun h2=>(Classical.em (GOk g4.val)).elim (fun h3=>Qam (L:=[g1.cells,g2.cells,g3.cells,g4.cells,[gx (.bool t)],[ga,ga],[ga,ga],[ga,ga],[ga,ga]].flatten) tys_ok mixed
     [gs (Qav g1 b_g1 false (fI h0)) [.row (Qab 0 8)] (.tup [sy [33,34],.c (.lit (.bool false))]),gs (Qav g2 b_g2 true (tI h1)) [.row (Qab 8 8)] (.tup [sy [35,36],.c (.lit (.bool true))]),gs (Qav g3 b_g3 false (fI h2)) [.row (Qab 16 8)] (.tup [sy [37,38],.c (.lit (.bool false))]),gs (Qav g4 b_g4 true (tI h3)) [.row (Qab 24 8)] (.tup [sy [39,40],.c (.lit (.bool true))])]
     [] [] Tryz.func75 eo75 2000 [.row (Qab 0 33)] (.tup [.row [.lit .nilp,.lit .nilp,.lit .nilp,.lit .nilp,.lit .nilp,.lit .nilp,.lit .nilp,.lit .nilp,.lit (.bool false)],.c (.lit (.bool false))]))
   (fun h3=>Qam (L:=[g1.cells,g2.cells,g3.cells,g4.cells,[gx (.bool t)],[ga,ga],[ga,ga],[ga,ga],[ga,ga]].flatten) tys_ok mixed
     [gs (Qav g1 b_g1 false (fI h0)) [.row (Qab 0 8)] (.tup [sy [33,34],.c (.lit (.bool false))]),gs (Qav g2 b_g2 true (tI h1)) [.row (Qab 8 8)] (.tup [sy [35,36],.c (.lit (.bool true))]),gs (Qav g3 b_g3 false (fI h2)) [.row (Qab 16 8)] (.tup [sy [37,38],.c (.lit (.bool false))]),gs (Qav g4 b_g4 false (fI h3)) [.row (Qab 24 8)] (.tup [sy [39,40],.c (.lit (.bool false))])]
     [] [] Tryz.func75 eo75 2000 [.row (Qab 0 33)] (.tup [.row [.lit .nilp,.lit .nilp,.lit .nilp,.lit .nilp,.lit .nilp,.lit .nilp,.lit .nilp,.lit .nilp,.lit (.bool false)],.c (.lit (.bool false))]))))
   (fun h1=>(Classical.em (GOk g3.val)).elim (fun h2=>(Classical.em (GOk g4.val)).elim (fun h3=>Qam (L:=[g1.cells,g2.cells,g3.cells,g4.cells,[gx (.bool t)],[ga,ga],[ga,ga],[ga,ga],[ga,ga]].flatten) tys_ok mixed
     [gs (Qav g1 b_g1 false (fI h0)) [.row (Qab 0 8)] (.tup [sy [33,34],.c (.lit (.bool false))]),gs (Qav g2 b_g2 false (fI h1)) [.row (Qab 8 8)] (.tup [sy [35,36],.c (.lit (.bool false))]),gs (Qav g3 b_g3 true (tI h2)) [.row (Qab 16 8)] (.tup [sy [37,38],.c (.lit (.bool true))]),gs (Qav g4 b_g4 true (tI h3)) [.row (Qab 24 8)] (.tup [sy [39,40],.c (.lit (.bool true))])]
     [] [] Tryz.func75 eo75 2000 [.row (Qab 0 33)] (.tup [.row [.lit .nilp,.lit .nilp,.lit .nilp,.lit .nilp,.lit .nilp,.lit .nilp,.lit .nilp,.lit .nilp,.lit (.bool false)],.c (.lit (.bool false))]))
   (fun h3=>Qam (L:=[g1.cells,g2.cells,g3.cells,g4.cells,[gx (.bool t)],[ga,ga],[ga,ga],[ga,ga],[ga,ga]].flatten) tys_ok mixed
     [gs (Qav g1 b_g1 false (fI h0)) [.row (Qab 0 8)] (.tup [sy [33,34],.c (.lit (.bool false))]),gs (Qav g2 b_g2 false (fI h1)) [.row (Qab 8 8)] (.tup [sy [35,36],.c (.lit (.bool false))]),gs (Qav g3 b_g3 true (tI h2)) [.row (Qab 16 8)] (.tup [sy [37,38],.c (.lit (.bool true))]),gs (Qav g4 b_g4 false (fI h3)) [.row (Qab 24 8)] (.tup [sy [39,40],.c (.lit (.bool false))])]
     [] [] Tryz.func75 eo75 2000 [.row (Qab 0 33)] (.tup [.row [.lit .nilp,.lit .nilp,.lit .nilp,.lit .nilp,.lit .nilp,.lit .nilp,.lit .nilp,.lit .nilp,.lit (.bool false)],.c (.lit (.bool false))])))
   (fun h2=>(Classical.em (GOk g4.val)).elim (fun h3=>Qam (L:=[g1.cells,g2.cells,g3.cells,g4.cells,[gx (.bool t)],[ga,ga],[ga,ga],[ga,ga],[ga,ga]].flatten) tys_ok mixed
     [gs (Qav g1 b_g1 false (fI h0)) [.row (Qab 0 8)] (.tup [sy [33,34],.c (.lit (.bool false))]),gs (Qav g2 b_g2 false (fI h1)) [.row (Qab 8 8)] (.tup [sy [35,36],.c (.lit (.bool false))]),gs (Qav g3 b_g3 false (fI h2)) [.row (Qab 16 8)] (.tup [sy [37,38],.c (.lit (.bool false))]),gs (Qav g4 b_g4 true (tI h3)) [.row (Qab 24 8)] (.tup [sy [39,40],.c (.lit (.bool true))])]
     [] [] Tryz.func75 eo75 2000 [.row (Qab 0 33)] (.tup [.row [.lit .nilp,.lit .nilp,.lit .nilp,.lit .nilp,.lit .nilp,.lit .nilp,.lit .nilp,.lit .nilp,.lit (.bool false)],.c (.lit (.bool false))]))
   (fun h3=>Qam (L:=[g1.cells,g2.cells,g3.cells,g4.cells,[gx (.bool t)],[ga,ga],[ga,ga],[ga,ga],[ga,ga]].flatten) tys_ok mixed
     [gs (Qav g1 b_g1 false (fI h0)) [.row (Qab 0 8)] (.tup [sy [33,34],.c (.lit (.bool false))]),gs (Qav g2 b_g2 false (fI h1)) [.row (Qab 8 8)] (.tup [sy [35,36],.c (.lit (.bool false))]),gs (Qav g3 b_g3 false (fI h2)) [.row (Qab 16 8)] (.tup [sy [37,38],.c (.lit (.bool false))]),gs (Qav g4 b_g4 false (fI h3)) [.row (Qab 24 8)] (.tup [sy [39,40],.c (.lit (.bool false))])]
     [] [] Tryz.func75 eo75 2000 [.row (Qab 0 33)] (.tup [.row [.lit .nilp,.lit .nilp,.lit .nilp,.lit .nilp,.lit .nilp,.lit .nilp,.lit .nilp,.lit .nilp,.lit (.bool false)],.c (.lit (.bool false))])))))
def MOk(m:RawM):Prop:=∃ a b c d:QC,(m.a=Qac a∧m.b=Qac b∧m.c=Qac c∧m.d=Qac d)∧(Qad a∧Qad b∧Qad c∧Qad d)∧(c=(⟨1,0⟩:QC)∨(c=(⟨0,0⟩:QC)∧d=(⟨1,0⟩:QC)))∧¬(((a*d) - (b*c))=(⟨0,0⟩:QC))
end Go.Proofs.YtmimficdpfmfgaaGreat
