/- Laws for the walk. -/
import Derived.Test.YtgjkifdilflcbaaGreatZbg
set_option linter.unusedVariables false
set_option maxHeartbeats 4000000
namespace Go.Proofs.YtgjkifdilflcbaaGreat
open Go.RowKit Tr
theorem sgn_ne{q:Rat}(h:¬q.num.sign=0):q≠0:=fun e=>h (by rw[e]; rfl)
theorem RL_half:RL (1 / 2:Rat) 2:=by rw[←half_eq]; exact RL_divInt (by decide) (words_length_le (by decide)) (words_length_le (by decide))
theorem RL_sqr1{q:Rat}{k:Nat}(h:RL q k):RL (sqr q) (k+1):=RL_sqr (h.mono (by omega)) (by omega)
theorem ZL_rt{z:QC}{k:Nat}(h:ZL z k):ZL (rt z) (5*k+5):=by
 by_cases hq:HasQ z
 ·obtain⟨h1,h2,h3⟩:=rt_prog_iff.1 hq
  have e:=(rt_eq (rt_prog (sqr_ok h1) (sqr_ok h2) (sqr_ok h3))).2
  have l1:RL (sqr (nm z)) (k+k+(k+k)+1):=RL_sqr (RL_add (RL_mul h.1 h.1) (RL_mul h.2 h.2)) (by omega)
  have lh:RL (1 / 2:Rat) 1:=by rw[←half_eq]; exact RL_divInt (by decide) (words_length_le (by decide)) (words_length_le (by decide))
  have l2:=RL_sqr (RL_mul (RL_add l1 h.1) lh) (by omega)
  have l3:=RL_sqr (RL_mul (RL_sub l1 h.1) lh) (by omega)
  rw[e]
  refine⟨l2.mono (by omega),?_⟩
  simp only
  split
  ·exact(RL_neg l3).mono (by omega)
  ·exact l3.mono (by omega)
 ·have e:rt z=⟨0,0⟩:=by unfold rt; rw[dif_neg hq]
  rw[e]
  exact⟨(RL_i64 0 (by decide) (by decide)).mono (by omega),(RL_i64 0 (by decide) (by decide)).mono (by omega)⟩
theorem pSqrt(z:QC)(hz:ZL z 1000000)(h:HasQ z):SpecC Tryz.prog true 129 [Q1 z] (.tup [Q1 (rt z),.c (gl (.bool true))]) :=
 spec1 eo129 fun w A u hR _ hu=>(sqrt_any z u A w (cq_iff.1 hu) (hR rfl) _ hz (Nat.le_refl _)).mono fun e w' ⟨h1,h2,_⟩=>by
  obtain⟨v,h3,h4⟩:=h2 h
  exact⟨_,h3,⟨[v,.bool true],rfl,cq_iff.2 h4,rfl,trivial⟩,h1⟩
theorem pSqrtC(z r:QC)(hz:ZL z 1000000)(h:r*r=z∧(0<r.re∨r.re=0∧0≤r.im)):SpecC Tryz.prog true 129 [Q1 z] (.tup [Q1 r,.c (gl (.bool true))]):=by
 have e:=rt_eq (z:=z) (r:=r) h
 have:=pSqrt z hz e.1
 rwa[e.2] at this
theorem pSqrtN(z:QC)(hz:ZL z 1000000)(h:¬HasQ z):SpecC Tryz.prog true 129 [Q1 z] (.tup [.row [gl .nilp,gl .nilp],.c (gl (.bool false))]) :=
 spec1 eo129 fun w A u hR _ hu=>(sqrt_any z u A w (cq_iff.1 hu) (hR rfl) _ hz (Nat.le_refl _)).mono fun e w' ⟨h1,_,h3⟩ =>
  ⟨_,h3 h,(FV.val_ok (u:=.tuple #[.agg #[.pointer none,.pointer none],.bool false]) (by kernel_rfl)).2 rfl,h1⟩
structure RawM where
 a:RawG
 b:RawG
 c:RawG
 d:RawG
 t:Bool
def RawM.val(m:RawM):Value:=.agg (m.a.vals++m.b.vals++m.c.vals++m.d.vals++[Value.bool m.t]).toArray
theorem ite_both{α:Type}{p q:Prop}[Decidable p][Decidable q](a b:α):(if p then(if q then a else b) else b)=if p∧q then a else b:=by
 by_cases hp:p<;>by_cases hq:q<;>simp[hp,hq]
set_option maxRecDepth 100000 in
theorem run_eql_rm(w:World)(p q:RawM)(r:Bool)(hr:r=true↔p=q):(binOp .eql 29 p.val q.val).run Tryz.prog w=.ok (.bool r) w:=by
 obtain⟨⟨i1,i2,i3,i4,x1,x2,x3,x4⟩,⟨i5,i6,i7,i8,x5,x6,x7,x8⟩,⟨j1,j2,j3,j4,x9,x10,x11,x12⟩,⟨j5,j6,j7,j8,x13,x14,x15,x16⟩,t⟩:=p
 obtain⟨⟨k1,k2,k3,k4,y1,y2,y3,y4⟩,⟨k5,k6,k7,k8,y5,y6,y7,y8⟩,⟨l1,l2,l3,l4,y9,y10,y11,y12⟩,⟨l5,l6,l7,l8,y13,y14,y15,y16⟩,u⟩:=q
 simp only[RawM.val,RawG.vals,List.cons_append,List.nil_append]
 simp only[RawM.mk.injEq,RawG.mk.injEq,and_assoc] at hr
 go_simp
 simp only[toL_iff]
 cases r
 ·have hn:=mt hr.2 Bool.false_ne_true
  clear hr
  simp only[ite_both]
  rw[if_neg]
  rintro⟨rfl,rfl,rfl,rfl,rfl,rfl,rfl,rfl,rfl,rfl,rfl,rfl,rfl,rfl,rfl,rfl,rfl,rfl,rfl,rfl,rfl,rfl,rfl,rfl,rfl,rfl,rfl,rfl,rfl,rfl,rfl,rfl,rfl⟩
  exact hn (by simp)
 ·obtain⟨rfl,rfl,rfl,rfl,rfl,rfl,rfl,rfl,rfl,rfl,rfl,rfl,rfl,rfl,rfl,rfl,rfl,rfl,rfl,rfl,rfl,rfl,rfl,rfl,rfl,rfl,rfl,rfl,rfl,rfl,rfl,rfl,rfl⟩:=hr.1 rfl
  simp
def bM{L:List GF}(x y:AR)(p q:RawM)(r:Bool)(hr:r=true↔p=q)(hx:x.gv L=some p.val:=by kernel_rfl)(hy:y.gv L=some q.val:=by kernel_rfl):GB Tryz.prog L :=
 gb .eql 29 x y (.lit (.bool r)) (agg_eql (by kernel_rfl) (fun w=>run_eql_rm w p q r hr)) hx hy rfl
theorem mk_inj{a b c d a' b' c' d':QC}{t:Bool}:(a=a'∧b=b'∧c=c'∧d=d')↔(⟨rawQ a,rawQ b,rawQ c,rawQ d,t⟩:RawM)=⟨rawQ a',rawQ b',rawQ c',rawQ d',t⟩:=by
 simp only[RawM.mk.injEq,rawQ_inj,and_true]
end Go.Proofs.YtgjkifdilflcbaaGreat
set_option linter.unusedSimpArgs false
namespace Go.Proofs.YtgjkifdilflcbaaGreat
open Go.RowKit Tr
open Classical
theorem eSame(x y:QC)(b_x:ZL x 2000000)(b_y:ZL y 2000000) :SpecC Tryz.prog true 113 [.row (cn x),.row (cn y)] (if(x - y)=(⟨0,0⟩:QC) then .r (.c (gl (.bool true))) else .r (.c (gl (.bool false)))) :=
  have t1:=pNSub x y b_x b_y (by decide)
  have t2:=pNZero (x - y)
  (Classical.em ((x - y) = (⟨0,0⟩ : QC))).elim (fun h0 => .it h0 (ev_sp (L := [cn x,cn y,cn (x - y)].flatten) tys_ok mixed
     [gs (t1) [sy [0,1],sy [2,3]] (.r (sy [4,5])),gs (t2 true (tI h0)) [sy [4,5]] (.r (.c (.lit (.bool true))))]
     [] [] Tryz.func113 eo113 2000 [sy [0,1],sy [2,3]] (.r (.c (.lit (.bool true))))))
   (fun h0=>.ie (fun h=>h0 h) (ev_sp (L:=[cn x,cn y,cn (x - y)].flatten) tys_ok mixed
     [gs (t1) [sy [0,1],sy [2,3]] (.r (sy [4,5])),gs (t2 false (fI h0)) [sy [4,5]] (.r (.c (.lit (.bool false))))]
     [] [] Tryz.func113 eo113 2000 [sy [0,1],sy [2,3]] (.r (.c (.lit (.bool false))))))
theorem pNSame(x y:QC){m l:Nat}(hx:ZL x m)(hy:ZL y l)(hb:m+l<2000000)(r:Bool)(hr:r=true↔x=y):SpecC Tryz.prog true 113 [N1 x,N1 y] (B1 r):=by
 have h:=eSame x y (hx.mono (by omega)) (hy.mono (by omega))
 cases r
 ·exact h.f (fun e=>by cases hr.2 (qc_sub0.1 e))
 ·exact h.t (qc_sub0.2 (hr.1 rfl))
theorem eDet(a b c d:QC)(t:Bool)(b_a:ZL a 2000000)(b_b:ZL b 2000000)(b_c:ZL c 2000000)(b_d:ZL d 2000000) :SpecC Tryz.prog true 110 [.row (cn a++cn b++cn c++cn d++[gx (.bool t)])] (.r (.row (cn ((a*d) - (b*c))))) :=
  ev_sp (L := [cn a,cn b,cn c,cn d,[gx (.bool t)],cn (a * d),cn (b * c),cn ((a * d) - (b * c))].flatten) tys_ok mixed
     [gs (pNMul a d b_a b_d (by decide)) [sy [0,1],sy [6,7]] (.r (sy [9,10])),gs (pNMul b c b_b b_c (by decide)) [sy [2,3],sy [4,5]] (.r (sy [11,12])),gs (pNSub (a*d) (b*c) (ZL_mul b_a b_d) (ZL_mul b_b b_c) (by decide)) [sy [9,10],sy [11,12]] (.r (sy [13,14]))]
     [] [] Tryz.func110 eo110 2000 [.row (syms 0 9)] (.r (sy [13,14]))
theorem eOpen(a b c d:QC)(t:Bool)(b_a:ShortZ a)(b_b:ShortZ b)(b_c:ShortZ c)(b_d:ShortZ d) :SpecC Tryz.prog true 66 [.row ((rawQ a).cells++(rawQ b).cells++(rawQ c).cells++(rawQ d).cells++[gx (.bool t)])] (if((a*d) - (b*c))=(⟨0,0⟩:QC) then .tup [.row ([gl .nilp,gl .nilp,gl .nilp,gl .nilp,gl .nilp,gl .nilp,gl .nilp,gl .nilp,gl (.bool false)]),.c (gl (.bool false))] else if c=(⟨1,0⟩:QC) then .tup [.row (cn a++cn b++cn c++cn d++[gx (.bool t)]),.c (gl (.bool true))] else if c=(⟨0,0⟩:QC)∧d=(⟨1,0⟩:QC) then .tup [.row (cn a++cn b++cn c++cn d++[gx (.bool t)]),.c (gl (.bool true))] else .tup [.row (cn a++cn b++cn c++cn d++[gx (.bool t)]),.c (gl (.bool false))]) :=
  have t1:=eDet a b c d t ((ZL_short b_a).mono (by omega)) ((ZL_short b_b).mono (by omega)) ((ZL_short b_c).mono (by omega)) ((ZL_short b_d).mono (by omega))
  have t2:=pNZero ((a*d) - (b*c))
  have t3:=pNInt 1 0 (by decide) (by decide) (by decide) (by decide)
  have t4:=pNSame c (⟨1,0⟩:QC) (ZL_short b_c) (ZL_int 1 0 (by decide) (by decide) (by decide) (by decide)) (by decide)
  have t5:=pNSame d (⟨1,0⟩:QC) (ZL_short b_d) (ZL_int 1 0 (by decide) (by decide) (by decide) (by decide)) (by decide)
  (Classical.em (((a * d) - (b * c)) = (⟨0,0⟩ : QC))).elim (fun h0 => .it h0 (ev_sp (L := [(rawQ a).cells,(rawQ b).cells,(rawQ c).cells,(rawQ d).cells,[gx (.bool t)],cn a,cn b,cn c,cn d,cn ((a * d) - (b * c))].flatten) tys_ok mixed
     [gs (pEOf a b_a) [.row (syms 0 8)] (.tup [sy [33,34],.c (.lit (.bool true))]),gs (pEOf b b_b) [.row (syms 8 8)] (.tup [sy [35,36],.c (.lit (.bool true))]),gs (pEOf c b_c) [.row (syms 16 8)] (.tup [sy [37,38],.c (.lit (.bool true))]),gs (pEOf d b_d) [.row (syms 24 8)] (.tup [sy [39,40],.c (.lit (.bool true))]),gs (t1) [.row (flA [syms 33 8,[.sym 32]])] (.r (sy [41,42])),gs (t2 true (tI h0)) [sy [41,42]] (.r (.c (.lit (.bool true))))]
     [] [] Tryz.func66 eo66 2000 [.row (syms 0 33)] (.tup [.row [.lit .nilp,.lit .nilp,.lit .nilp,.lit .nilp,.lit .nilp,.lit .nilp,.lit .nilp,.lit .nilp,.lit (.bool false)],.c (.lit (.bool false))])))
   (fun h0=>.ie h0 ((Classical.em (c=(⟨1,0⟩:QC))).elim (fun h1=>.it h1 (ev_sp (L:=[(rawQ a).cells,(rawQ b).cells,(rawQ c).cells,(rawQ d).cells,[gx (.bool t)],cn a,cn b,cn c,cn d,cn ((a*d) - (b*c)),cn (⟨1,0⟩:QC)].flatten) tys_ok mixed
     [gs (pEOf a b_a) [.row (syms 0 8)] (.tup [sy [33,34],.c (.lit (.bool true))]),gs (pEOf b b_b) [.row (syms 8 8)] (.tup [sy [35,36],.c (.lit (.bool true))]),gs (pEOf c b_c) [.row (syms 16 8)] (.tup [sy [37,38],.c (.lit (.bool true))]),gs (pEOf d b_d) [.row (syms 24 8)] (.tup [sy [39,40],.c (.lit (.bool true))]),gs (t1) [.row (flA [syms 33 8,[.sym 32]])] (.r (sy [41,42])),gs (t2 false (fI h0)) [sy [41,42]] (.r (.c (.lit (.bool false)))),gs (t3) [.c (.lit (.int .i64 1)),.c (.lit (.int .i64 0))] (.r (sy [43,44])),gs (t4 true (tI h1)) [sy [37,38],sy [43,44]] (.r (.c (.lit (.bool true))))]
     [] [] Tryz.func66 eo66 2000 [.row (syms 0 33)] (.tup [.row (flA [syms 33 8,[.sym 32]]),.c (.lit (.bool true))])))
   (fun h1=>.ie h1 ((Classical.em (c=(⟨0,0⟩:QC))).elim (fun h2=>(Classical.em (d=(⟨1,0⟩:QC))).elim (fun h3=>.it ⟨h2,h3⟩ (ev_sp (L:=[(rawQ a).cells,(rawQ b).cells,(rawQ c).cells,(rawQ d).cells,[gx (.bool t)],cn a,cn b,cn c,cn d,cn ((a*d) - (b*c)),cn (⟨1,0⟩:QC)].flatten) tys_ok mixed
     [gs (pEOf a b_a) [.row (syms 0 8)] (.tup [sy [33,34],.c (.lit (.bool true))]),gs (pEOf b b_b) [.row (syms 8 8)] (.tup [sy [35,36],.c (.lit (.bool true))]),gs (pEOf c b_c) [.row (syms 16 8)] (.tup [sy [37,38],.c (.lit (.bool true))]),gs (pEOf d b_d) [.row (syms 24 8)] (.tup [sy [39,40],.c (.lit (.bool true))]),gs (t1) [.row (flA [syms 33 8,[.sym 32]])] (.r (sy [41,42])),gs (t2 false (fI h0)) [sy [41,42]] (.r (.c (.lit (.bool false)))),gs (t3) [.c (.lit (.int .i64 1)),.c (.lit (.int .i64 0))] (.r (sy [43,44])),gs (t4 false (fI h1)) [sy [37,38],sy [43,44]] (.r (.c (.lit (.bool false)))),gs (pNZero c true (tI h2)) [sy [37,38]] (.r (.c (.lit (.bool true)))),gs (t5 true (tI h3)) [sy [39,40],sy [43,44]] (.r (.c (.lit (.bool true))))]
     [] [] Tryz.func66 eo66 2000 [.row (syms 0 33)] (.tup [.row (flA [syms 33 8,[.sym 32]]),.c (.lit (.bool true))])))
   (fun h3=>.ie (fun h=>h3 h.2) (ev_sp (L:=[(rawQ a).cells,(rawQ b).cells,(rawQ c).cells,(rawQ d).cells,[gx (.bool t)],cn a,cn b,cn c,cn d,cn ((a*d) - (b*c)),cn (⟨1,0⟩:QC)].flatten) tys_ok mixed
     [gs (pEOf a b_a) [.row (syms 0 8)] (.tup [sy [33,34],.c (.lit (.bool true))]),gs (pEOf b b_b) [.row (syms 8 8)] (.tup [sy [35,36],.c (.lit (.bool true))]),gs (pEOf c b_c) [.row (syms 16 8)] (.tup [sy [37,38],.c (.lit (.bool true))]),gs (pEOf d b_d) [.row (syms 24 8)] (.tup [sy [39,40],.c (.lit (.bool true))]),gs (t1) [.row (flA [syms 33 8,[.sym 32]])] (.r (sy [41,42])),gs (t2 false (fI h0)) [sy [41,42]] (.r (.c (.lit (.bool false)))),gs (t3) [.c (.lit (.int .i64 1)),.c (.lit (.int .i64 0))] (.r (sy [43,44])),gs (t4 false (fI h1)) [sy [37,38],sy [43,44]] (.r (.c (.lit (.bool false)))),gs (pNZero c true (tI h2)) [sy [37,38]] (.r (.c (.lit (.bool true)))),gs (t5 false (fI h3)) [sy [39,40],sy [43,44]] (.r (.c (.lit (.bool false))))]
     [] [] Tryz.func66 eo66 2000 [.row (syms 0 33)] (.tup [.row (flA [syms 33 8,[.sym 32]]),.c (.lit (.bool false))]))))
   (fun h2=>.ie (fun h=>h2 h.1) (ev_sp (L:=[(rawQ a).cells,(rawQ b).cells,(rawQ c).cells,(rawQ d).cells,[gx (.bool t)],cn a,cn b,cn c,cn d,cn ((a*d) - (b*c)),cn (⟨1,0⟩:QC)].flatten) tys_ok mixed
     [gs (pEOf a b_a) [.row (syms 0 8)] (.tup [sy [33,34],.c (.lit (.bool true))]),gs (pEOf b b_b) [.row (syms 8 8)] (.tup [sy [35,36],.c (.lit (.bool true))]),gs (pEOf c b_c) [.row (syms 16 8)] (.tup [sy [37,38],.c (.lit (.bool true))]),gs (pEOf d b_d) [.row (syms 24 8)] (.tup [sy [39,40],.c (.lit (.bool true))]),gs (t1) [.row (flA [syms 33 8,[.sym 32]])] (.r (sy [41,42])),gs (t2 false (fI h0)) [sy [41,42]] (.r (.c (.lit (.bool false)))),gs (t3) [.c (.lit (.int .i64 1)),.c (.lit (.int .i64 0))] (.r (sy [43,44])),gs (t4 false (fI h1)) [sy [37,38],sy [43,44]] (.r (.c (.lit (.bool false)))),gs (pNZero c false (fI h2)) [sy [37,38]] (.r (.c (.lit (.bool false))))]
     [] [] Tryz.func66 eo66 2000 [.row (syms 0 33)] (.tup [.row (flA [syms 33 8,[.sym 32]]),.c (.lit (.bool false))])))))))
theorem mCheck(a b c d:QC)(t:Bool)(b_a:ShortZ a)(b_b:ShortZ b)(b_c:ShortZ c)(b_d:ShortZ d) :SpecC Tryz.prog true 27 [.row ((rawQ a).cells++(rawQ b).cells++(rawQ c).cells++(rawQ d).cells++[gx (.bool t)])] (if((a*d) - (b*c))=(⟨0,0⟩:QC) then .r (.c (gl (.int .i64 2))) else if c=(⟨1,0⟩:QC)∨(c=(⟨0,0⟩:QC)∧d=(⟨1,0⟩:QC)) then .r (.c (gl (.int .i64 0))) else .r (.c (gl (.int .i64 2)))) :=
  have t1:=eOpen a b c d t b_a b_b b_c b_d
  (Classical.em (((a * d) - (b * c)) = (⟨0,0⟩ : QC))).elim (fun h0 => .it h0 (ev_sp (L := [(rawQ a).cells,(rawQ b).cells,(rawQ c).cells,(rawQ d).cells,[gx (.bool t)]].flatten) tys_ok mixed
     [gs (t1.t h0) [.row (syms 0 33)] (.tup [.row [.lit .nilp,.lit .nilp,.lit .nilp,.lit .nilp,.lit .nilp,.lit .nilp,.lit .nilp,.lit .nilp,.lit (.bool false)],.c (.lit (.bool false))])]
     [] [] Tryz.func27 eo27 2000 [.row (syms 0 33)] (.r (.c (.lit (.int .i64 2))))))
   (fun h0=>.ie h0 ((Classical.em (c=(⟨1,0⟩:QC))).elim (fun h1=>.it (Or.inl h1) (ev_sp (L:=[(rawQ a).cells,(rawQ b).cells,(rawQ c).cells,(rawQ d).cells,[gx (.bool t)],cn a,cn b,cn c,cn d,[gx (.bool t)]].flatten) tys_ok mixed
     [gs ((t1.f h0).t h1) [.row (syms 0 33)] (.tup [.row (syms 33 9),.c (.lit (.bool true))])]
     [] [] Tryz.func27 eo27 2000 [.row (syms 0 33)] (.r (.c (.lit (.int .i64 0))))))
   (fun h1=>(Classical.em (c=(⟨0,0⟩:QC)∧d=(⟨1,0⟩:QC))).elim (fun h2=>.it (Or.inr h2) (ev_sp (L:=[(rawQ a).cells,(rawQ b).cells,(rawQ c).cells,(rawQ d).cells,[gx (.bool t)],cn a,cn b,cn c,cn d,[gx (.bool t)]].flatten) tys_ok mixed
     [gs (((t1.f h0).f h1).t h2) [.row (syms 0 33)] (.tup [.row (syms 33 9),.c (.lit (.bool true))])]
     [] [] Tryz.func27 eo27 2000 [.row (syms 0 33)] (.r (.c (.lit (.int .i64 0))))))
   (fun h2=>.ie (fun h=>Or.elim h h1 h2) (ev_sp (L:=[(rawQ a).cells,(rawQ b).cells,(rawQ c).cells,(rawQ d).cells,[gx (.bool t)],cn a,cn b,cn c,cn d,[gx (.bool t)]].flatten) tys_ok mixed
     [gs (((t1.f h0).f h1).f h2) [.row (syms 0 33)] (.tup [.row (syms 33 9),.c (.lit (.bool false))])]
     [] [] Tryz.func27 eo27 2000 [.row (syms 0 33)] (.r (.c (.lit (.int .i64 2)))))))))
theorem eStill  :SpecC Tryz.prog true 67 [] (.r (.row (cn (⟨1,0⟩:QC)++[gl .nilp,gl .nilp,gl .nilp,gl .nilp]++cn (⟨1,0⟩:QC)++[gl (.bool false)]))) :=
  ev_sp (L := [cn (⟨1,0⟩ : QC)].flatten) tys_ok mixed
     [gs (pNInt 1 0 (by decide) (by decide) (by decide) (by decide)) [.c (.lit (.int .i64 1)),.c (.lit (.int .i64 0))] (.r (sy [0,1]))]
     [] [] Tryz.func67 eo67 2000 [] (.r (.row [.sym 0,.sym 1,.lit .nilp,.lit .nilp,.lit .nilp,.lit .nilp,.sym 0,.sym 1,.lit (.bool false)]))
theorem eNorm1  :SpecC Tryz.prog true 114 [.row (cn (⟨1,0⟩:QC)++cn (⟨0,0⟩:QC)++cn (⟨0,0⟩:QC)++cn (⟨1,0⟩:QC)++[gl (.bool false)])] (.r (.row (cn (⟨1,0⟩:QC)++cn (⟨0,0⟩:QC)++cn (⟨0,0⟩:QC)++cn (⟨1,0⟩:QC)++[gl (.bool false)]))) :=
  have t1:=pNDiv (⟨1,0⟩:QC) (⟨1,0⟩:QC) (by decide +kernel) (ZL_int 1 0 (by decide) (by decide) (by decide) (by decide)) (ZL_int 1 0 (by decide) (by decide) (by decide) (by decide)) (by decide)
  have t2:=pNDiv (⟨0,0⟩:QC) (⟨1,0⟩:QC) (by decide +kernel) (ZL_int 0 0 (by decide) (by decide) (by decide) (by decide)) (ZL_int 1 0 (by decide) (by decide) (by decide) (by decide)) (by decide)
  ev_sp (L := [cn (⟨1,0⟩ : QC),cn (⟨0,0⟩ : QC),cn (⟨0,0⟩ : QC),cn (⟨1,0⟩ : QC),cn (⟨1,0⟩ : QC),cn (⟨0,0⟩ : QC),cn (⟨0,0⟩ : QC),cn (⟨1,0⟩ : QC)].flatten) tys_ok mixed
     [gs (pNZero (⟨0,0⟩:QC) true (tI (by decide +kernel))) [sy [4,5]] (.r (.c (.lit (.bool true)))),gs (t1) [sy [0,1],sy [6,7]] (.r (sy [8,9])),gs (t2) [sy [2,3],sy [6,7]] (.r (sy [10,11])),gs (t2) [sy [4,5],sy [6,7]] (.r (sy [12,13])),gs (t1) [sy [6,7],sy [6,7]] (.r (sy [14,15]))]
     [] [] Tryz.func114 eo114 2000 [.row (flA [syms 0 8,[.lit (.bool false)]])] (.r (.row (flA [syms 8 8,[.lit (.bool false)]])))
theorem eTold1  :SpecC Tryz.prog true 68 [.row (cn (⟨1,0⟩:QC)++cn (⟨0,0⟩:QC)++cn (⟨0,0⟩:QC)++cn (⟨1,0⟩:QC)++[gl (.bool false)])] (.tup [.row ((rawQ (⟨1,0⟩:QC)).cells++(rawQ (⟨0,0⟩:QC)).cells++(rawQ (⟨0,0⟩:QC)).cells++(rawQ (⟨1,0⟩:QC)).cells++[gl (.bool false)]),.c (gl (.int .i64 0))]) :=
  have t1:=pNTold (⟨1,0⟩:QC) ((ZL_int 1 0 (by decide) (by decide) (by decide) (by decide)).mono (by omega)) (short_c (by decide +kernel))
  have t2:=pNTold (⟨0,0⟩:QC) ((ZL_int 0 0 (by decide) (by decide) (by decide) (by decide)).mono (by omega)) (short_c (by decide +kernel))
  ev_sp (L := [cn (⟨1,0⟩ : QC),cn (⟨0,0⟩ : QC),cn (⟨0,0⟩ : QC),cn (⟨1,0⟩ : QC),cn (⟨1,0⟩ : QC),cn (⟨0,0⟩ : QC),cn (⟨0,0⟩ : QC),cn (⟨1,0⟩ : QC),(rawQ (⟨1,0⟩ : QC)).cells,(rawQ (⟨0,0⟩ : QC)).cells,(rawQ (⟨0,0⟩ : QC)).cells,(rawQ (⟨1,0⟩ : QC)).cells].flatten) tys_ok mixed
     [gs (eNorm1) [.row (flA [syms 0 8,[.lit (.bool false)]])] (.r (.row (flA [syms 8 8,[.lit (.bool false)]]))),gs (t1) [sy [8,9]] (.tup [.row (syms 16 8),.c (.lit (.int .i64 0))]),gs (t2) [sy [10,11]] (.tup [.row (syms 24 8),.c (.lit (.int .i64 0))]),gs (t2) [sy [12,13]] (.tup [.row (syms 32 8),.c (.lit (.int .i64 0))]),gs (t1) [sy [14,15]] (.tup [.row (syms 40 8),.c (.lit (.int .i64 0))])]
     [] [] Tryz.func68 eo68 2000 [.row (flA [syms 0 8,[.lit (.bool false)]])] (.tup [.row (flA [syms 16 32,[.lit (.bool false)]]),.c (.lit (.int .i64 0))])
theorem okg_nil0{x y:QC}{g:GF}{vs:List Value}{w:World}{A:Nat→Prop}(h:okg (cn x++[gl .nilp,gl .nilp,gl .nilp,gl .nilp]++cn y++[g]) vs w A):okg (cn x++cn ⟨0,0⟩++cn ⟨0,0⟩++cn y++[g]) vs w A:=by
 obtain⟨u1,_,rfl,h1,h⟩:=okg_cons.1 h
 obtain⟨u2,_,rfl,h2,h⟩:=okg_cons.1 h
 obtain⟨u3,_,rfl,h3,h⟩:=okg_cons.1 h
 obtain⟨u4,_,rfl,h4,h⟩:=okg_cons.1 h
 obtain⟨u5,_,rfl,h5,h⟩:=okg_cons.1 h
 obtain⟨u6,_,rfl,h6,h⟩:=okg_cons.1 h
 exact⟨h1,h2,.inl ⟨h3,rfl⟩,.inl ⟨h4,rfl⟩,.inl ⟨h5,rfl⟩,.inl ⟨h6,rfl⟩,h⟩
theorem mat_nil{P:Program}{hp:Bool}{f:FuncId}{x y:QC}{g:GF}{r:FV}(h:SpecC P hp f [.row (cn x++cn ⟨0,0⟩++cn ⟨0,0⟩++cn y++[g])] r):SpecC P hp f [.row (cn x++[gl .nilp,gl .nilp,gl .nilp,gl .nilp]++cn y++[g])] r :=
 ⟨h.ent,fun w A us hR hA hu=>by
  match us,hu with
  | [u],hu =>
   obtain⟨⟨vs,e,k⟩,_⟩:=hu
   exact h.ok w A [u] hR hA ⟨⟨vs,e,okg_nil0 k⟩,trivial⟩⟩
theorem mOne  :SpecC Tryz.prog true 28 [] (.r (.row ((rawQ (⟨1,0⟩:QC)).cells++(rawQ (⟨0,0⟩:QC)).cells++(rawQ (⟨0,0⟩:QC)).cells++(rawQ (⟨1,0⟩:QC)).cells++[gl (.bool false)]))) :=
  ev_sp (L := [cn (⟨1,0⟩ : QC),cn (⟨1,0⟩ : QC),cn (⟨0,0⟩ : QC),(rawQ (⟨1,0⟩ : QC)).cells,(rawQ (⟨0,0⟩ : QC)).cells,(rawQ (⟨0,0⟩ : QC)).cells,(rawQ (⟨1,0⟩ : QC)).cells].flatten) tys_ok mixed
     [gs (eStill) [] (.r (.row [.sym 0,.sym 1,.lit .nilp,.lit .nilp,.lit .nilp,.lit .nilp,.sym 2,.sym 3,.lit (.bool false)])),gs (mat_nil (eTold1)) [.row [.sym 0,.sym 1,.lit .nilp,.lit .nilp,.lit .nilp,.lit .nilp,.sym 2,.sym 3,.lit (.bool false)]] (.tup [.row (flA [syms 6 32,[.lit (.bool false)]]),.c (.lit (.int .i64 0))])]
     [] [] Tryz.func28 eo28 2000 [] (.r (.row (flA [syms 6 32,[.lit (.bool false)]])))
theorem eOpenB(g1 g2 g3 g4:RawG)(t:Bool)(b_g1:RawG.Sz g1)(b_g2:RawG.Sz g2)(b_g3:RawG.Sz g3)(b_g4:RawG.Sz g4)(hbad:¬(GOk g1.val∧GOk g2.val∧GOk g3.val∧GOk g4.val)):SpecC Tryz.prog true 66 [.row (g1.cells++g2.cells++g3.cells++g4.cells++[gx (.bool t)])] (.tup [.row ([gl .nilp,gl .nilp,gl .nilp,gl .nilp,gl .nilp,gl .nilp,gl .nilp,gl .nilp,gl (.bool false)]),.c (gl (.bool false))]) :=
  (Classical.em (GOk g1.val)).elim (fun h0=>(Classical.em (GOk g2.val)).elim (fun h1=>(Classical.em (GOk g3.val)).elim (fun h2=>(Classical.em (GOk g4.val)).elim (fun h3=>(hbad ⟨h0,h1,h2,h3⟩).elim)
   (fun h3=>ev_sp (L:=[g1.cells,g2.cells,g3.cells,g4.cells,[gx (.bool t)],[ga,ga],[ga,ga],[ga,ga],[ga,ga]].flatten) tys_ok mixed
     [gs (pEOfR g1 b_g1 true (tI h0)) [.row (syms 0 8)] (.tup [sy [33,34],.c (.lit (.bool true))]),gs (pEOfR g2 b_g2 true (tI h1)) [.row (syms 8 8)] (.tup [sy [35,36],.c (.lit (.bool true))]),gs (pEOfR g3 b_g3 true (tI h2)) [.row (syms 16 8)] (.tup [sy [37,38],.c (.lit (.bool true))]),gs (pEOfR g4 b_g4 false (fI h3)) [.row (syms 24 8)] (.tup [sy [39,40],.c (.lit (.bool false))])]
     [] [] Tryz.func66 eo66 2000 [.row (syms 0 33)] (.tup [.row [.lit .nilp,.lit .nilp,.lit .nilp,.lit .nilp,.lit .nilp,.lit .nilp,.lit .nilp,.lit .nilp,.lit (.bool false)],.c (.lit (.bool false))])))
   (fun h2=>(Classical.em (GOk g4.val)).elim (fun h3=>ev_sp (L:=[g1.cells,g2.cells,g3.cells,g4.cells,[gx (.bool t)],[ga,ga],[ga,ga],[ga,ga],[ga,ga]].flatten) tys_ok mixed
     [gs (pEOfR g1 b_g1 true (tI h0)) [.row (syms 0 8)] (.tup [sy [33,34],.c (.lit (.bool true))]),gs (pEOfR g2 b_g2 true (tI h1)) [.row (syms 8 8)] (.tup [sy [35,36],.c (.lit (.bool true))]),gs (pEOfR g3 b_g3 false (fI h2)) [.row (syms 16 8)] (.tup [sy [37,38],.c (.lit (.bool false))]),gs (pEOfR g4 b_g4 true (tI h3)) [.row (syms 24 8)] (.tup [sy [39,40],.c (.lit (.bool true))])]
     [] [] Tryz.func66 eo66 2000 [.row (syms 0 33)] (.tup [.row [.lit .nilp,.lit .nilp,.lit .nilp,.lit .nilp,.lit .nilp,.lit .nilp,.lit .nilp,.lit .nilp,.lit (.bool false)],.c (.lit (.bool false))]))
   (fun h3=>ev_sp (L:=[g1.cells,g2.cells,g3.cells,g4.cells,[gx (.bool t)],[ga,ga],[ga,ga],[ga,ga],[ga,ga]].flatten) tys_ok mixed
     [gs (pEOfR g1 b_g1 true (tI h0)) [.row (syms 0 8)] (.tup [sy [33,34],.c (.lit (.bool true))]),gs (pEOfR g2 b_g2 true (tI h1)) [.row (syms 8 8)] (.tup [sy [35,36],.c (.lit (.bool true))]),gs (pEOfR g3 b_g3 false (fI h2)) [.row (syms 16 8)] (.tup [sy [37,38],.c (.lit (.bool false))]),gs (pEOfR g4 b_g4 false (fI h3)) [.row (syms 24 8)] (.tup [sy [39,40],.c (.lit (.bool false))])]
     [] [] Tryz.func66 eo66 2000 [.row (syms 0 33)] (.tup [.row [.lit .nilp,.lit .nilp,.lit .nilp,.lit .nilp,.lit .nilp,.lit .nilp,.lit .nilp,.lit .nilp,.lit (.bool false)],.c (.lit (.bool false))]))))
   (fun h1=>(Classical.em (GOk g3.val)).elim (fun h2=>(Classical.em (GOk g4.val)).elim (fun h3=>ev_sp (L:=[g1.cells,g2.cells,g3.cells,g4.cells,[gx (.bool t)],[ga,ga],[ga,ga],[ga,ga],[ga,ga]].flatten) tys_ok mixed
     [gs (pEOfR g1 b_g1 true (tI h0)) [.row (syms 0 8)] (.tup [sy [33,34],.c (.lit (.bool true))]),gs (pEOfR g2 b_g2 false (fI h1)) [.row (syms 8 8)] (.tup [sy [35,36],.c (.lit (.bool false))]),gs (pEOfR g3 b_g3 true (tI h2)) [.row (syms 16 8)] (.tup [sy [37,38],.c (.lit (.bool true))]),gs (pEOfR g4 b_g4 true (tI h3)) [.row (syms 24 8)] (.tup [sy [39,40],.c (.lit (.bool true))])]
     [] [] Tryz.func66 eo66 2000 [.row (syms 0 33)] (.tup [.row [.lit .nilp,.lit .nilp,.lit .nilp,.lit .nilp,.lit .nilp,.lit .nilp,.lit .nilp,.lit .nilp,.lit (.bool false)],.c (.lit (.bool false))]))
   (fun h3=>ev_sp (L:=[g1.cells,g2.cells,g3.cells,g4.cells,[gx (.bool t)],[ga,ga],[ga,ga],[ga,ga],[ga,ga]].flatten) tys_ok mixed
     [gs (pEOfR g1 b_g1 true (tI h0)) [.row (syms 0 8)] (.tup [sy [33,34],.c (.lit (.bool true))]),gs (pEOfR g2 b_g2 false (fI h1)) [.row (syms 8 8)] (.tup [sy [35,36],.c (.lit (.bool false))]),gs (pEOfR g3 b_g3 true (tI h2)) [.row (syms 16 8)] (.tup [sy [37,38],.c (.lit (.bool true))]),gs (pEOfR g4 b_g4 false (fI h3)) [.row (syms 24 8)] (.tup [sy [39,40],.c (.lit (.bool false))])]
     [] [] Tryz.func66 eo66 2000 [.row (syms 0 33)] (.tup [.row [.lit .nilp,.lit .nilp,.lit .nilp,.lit .nilp,.lit .nilp,.lit .nilp,.lit .nilp,.lit .nilp,.lit (.bool false)],.c (.lit (.bool false))])))
   (fun h2=>(Classical.em (GOk g4.val)).elim (fun h3=>ev_sp (L:=[g1.cells,g2.cells,g3.cells,g4.cells,[gx (.bool t)],[ga,ga],[ga,ga],[ga,ga],[ga,ga]].flatten) tys_ok mixed
     [gs (pEOfR g1 b_g1 true (tI h0)) [.row (syms 0 8)] (.tup [sy [33,34],.c (.lit (.bool true))]),gs (pEOfR g2 b_g2 false (fI h1)) [.row (syms 8 8)] (.tup [sy [35,36],.c (.lit (.bool false))]),gs (pEOfR g3 b_g3 false (fI h2)) [.row (syms 16 8)] (.tup [sy [37,38],.c (.lit (.bool false))]),gs (pEOfR g4 b_g4 true (tI h3)) [.row (syms 24 8)] (.tup [sy [39,40],.c (.lit (.bool true))])]
     [] [] Tryz.func66 eo66 2000 [.row (syms 0 33)] (.tup [.row [.lit .nilp,.lit .nilp,.lit .nilp,.lit .nilp,.lit .nilp,.lit .nilp,.lit .nilp,.lit .nilp,.lit (.bool false)],.c (.lit (.bool false))]))
   (fun h3=>ev_sp (L:=[g1.cells,g2.cells,g3.cells,g4.cells,[gx (.bool t)],[ga,ga],[ga,ga],[ga,ga],[ga,ga]].flatten) tys_ok mixed
     [gs (pEOfR g1 b_g1 true (tI h0)) [.row (syms 0 8)] (.tup [sy [33,34],.c (.lit (.bool true))]),gs (pEOfR g2 b_g2 false (fI h1)) [.row (syms 8 8)] (.tup [sy [35,36],.c (.lit (.bool false))]),gs (pEOfR g3 b_g3 false (fI h2)) [.row (syms 16 8)] (.tup [sy [37,38],.c (.lit (.bool false))]),gs (pEOfR g4 b_g4 false (fI h3)) [.row (syms 24 8)] (.tup [sy [39,40],.c (.lit (.bool false))])]
     [] [] Tryz.func66 eo66 2000 [.row (syms 0 33)] (.tup [.row [.lit .nilp,.lit .nilp,.lit .nilp,.lit .nilp,.lit .nilp,.lit .nilp,.lit .nilp,.lit .nilp,.lit (.bool false)],.c (.lit (.bool false))])))))
   (fun h0=>(Classical.em (GOk g2.val)).elim (fun h1=>(Classical.em (GOk g3.val)).elim (fun h2=>(Classical.em (GOk g4.val)).elim (fun h3=>ev_sp (L:=[g1.cells,g2.cells,g3.cells,g4.cells,[gx (.bool t)],[ga,ga],[ga,ga],[ga,ga],[ga,ga]].flatten) tys_ok mixed
     [gs (pEOfR g1 b_g1 false (fI h0)) [.row (syms 0 8)] (.tup [sy [33,34],.c (.lit (.bool false))]),gs (pEOfR g2 b_g2 true (tI h1)) [.row (syms 8 8)] (.tup [sy [35,36],.c (.lit (.bool true))]),gs (pEOfR g3 b_g3 true (tI h2)) [.row (syms 16 8)] (.tup [sy [37,38],.c (.lit (.bool true))]),gs (pEOfR g4 b_g4 true (tI h3)) [.row (syms 24 8)] (.tup [sy [39,40],.c (.lit (.bool true))])]
     [] [] Tryz.func66 eo66 2000 [.row (syms 0 33)] (.tup [.row [.lit .nilp,.lit .nilp,.lit .nilp,.lit .nilp,.lit .nilp,.lit .nilp,.lit .nilp,.lit .nilp,.lit (.bool false)],.c (.lit (.bool false))]))
   (fun h3=>ev_sp (L:=[g1.cells,g2.cells,g3.cells,g4.cells,[gx (.bool t)],[ga,ga],[ga,ga],[ga,ga],[ga,ga]].flatten) tys_ok mixed
     [gs (pEOfR g1 b_g1 false (fI h0)) [.row (syms 0 8)] (.tup [sy [33,34],.c (.lit (.bool false))]),gs (pEOfR g2 b_g2 true (tI h1)) [.row (syms 8 8)] (.tup [sy [35,36],.c (.lit (.bool true))]),gs (pEOfR g3 b_g3 true (tI h2)) [.row (syms 16 8)] (.tup [sy [37,38],.c (.lit (.bool true))]),gs (pEOfR g4 b_g4 false (fI h3)) [.row (syms 24 8)] (.tup [sy [39,40],.c (.lit (.bool false))])]
     [] [] Tryz.func66 eo66 2000 [.row (syms 0 33)] (.tup [.row [.lit .nilp,.lit .nilp,.lit .nilp,.lit .nilp,.lit .nilp,.lit .nilp,.lit .nilp,.lit .nilp,.lit (.bool false)],.c (.lit (.bool false))])))
   (fun h2=>(Classical.em (GOk g4.val)).elim (fun h3=>ev_sp (L:=[g1.cells,g2.cells,g3.cells,g4.cells,[gx (.bool t)],[ga,ga],[ga,ga],[ga,ga],[ga,ga]].flatten) tys_ok mixed
     [gs (pEOfR g1 b_g1 false (fI h0)) [.row (syms 0 8)] (.tup [sy [33,34],.c (.lit (.bool false))]),gs (pEOfR g2 b_g2 true (tI h1)) [.row (syms 8 8)] (.tup [sy [35,36],.c (.lit (.bool true))]),gs (pEOfR g3 b_g3 false (fI h2)) [.row (syms 16 8)] (.tup [sy [37,38],.c (.lit (.bool false))]),gs (pEOfR g4 b_g4 true (tI h3)) [.row (syms 24 8)] (.tup [sy [39,40],.c (.lit (.bool true))])]
     [] [] Tryz.func66 eo66 2000 [.row (syms 0 33)] (.tup [.row [.lit .nilp,.lit .nilp,.lit .nilp,.lit .nilp,.lit .nilp,.lit .nilp,.lit .nilp,.lit .nilp,.lit (.bool false)],.c (.lit (.bool false))]))
   (fun h3=>ev_sp (L:=[g1.cells,g2.cells,g3.cells,g4.cells,[gx (.bool t)],[ga,ga],[ga,ga],[ga,ga],[ga,ga]].flatten) tys_ok mixed
     [gs (pEOfR g1 b_g1 false (fI h0)) [.row (syms 0 8)] (.tup [sy [33,34],.c (.lit (.bool false))]),gs (pEOfR g2 b_g2 true (tI h1)) [.row (syms 8 8)] (.tup [sy [35,36],.c (.lit (.bool true))]),gs (pEOfR g3 b_g3 false (fI h2)) [.row (syms 16 8)] (.tup [sy [37,38],.c (.lit (.bool false))]),gs (pEOfR g4 b_g4 false (fI h3)) [.row (syms 24 8)] (.tup [sy [39,40],.c (.lit (.bool false))])]
     [] [] Tryz.func66 eo66 2000 [.row (syms 0 33)] (.tup [.row [.lit .nilp,.lit .nilp,.lit .nilp,.lit .nilp,.lit .nilp,.lit .nilp,.lit .nilp,.lit .nilp,.lit (.bool false)],.c (.lit (.bool false))]))))
   (fun h1=>(Classical.em (GOk g3.val)).elim (fun h2=>(Classical.em (GOk g4.val)).elim (fun h3=>ev_sp (L:=[g1.cells,g2.cells,g3.cells,g4.cells,[gx (.bool t)],[ga,ga],[ga,ga],[ga,ga],[ga,ga]].flatten) tys_ok mixed
     [gs (pEOfR g1 b_g1 false (fI h0)) [.row (syms 0 8)] (.tup [sy [33,34],.c (.lit (.bool false))]),gs (pEOfR g2 b_g2 false (fI h1)) [.row (syms 8 8)] (.tup [sy [35,36],.c (.lit (.bool false))]),gs (pEOfR g3 b_g3 true (tI h2)) [.row (syms 16 8)] (.tup [sy [37,38],.c (.lit (.bool true))]),gs (pEOfR g4 b_g4 true (tI h3)) [.row (syms 24 8)] (.tup [sy [39,40],.c (.lit (.bool true))])]
     [] [] Tryz.func66 eo66 2000 [.row (syms 0 33)] (.tup [.row [.lit .nilp,.lit .nilp,.lit .nilp,.lit .nilp,.lit .nilp,.lit .nilp,.lit .nilp,.lit .nilp,.lit (.bool false)],.c (.lit (.bool false))]))
   (fun h3=>ev_sp (L:=[g1.cells,g2.cells,g3.cells,g4.cells,[gx (.bool t)],[ga,ga],[ga,ga],[ga,ga],[ga,ga]].flatten) tys_ok mixed
     [gs (pEOfR g1 b_g1 false (fI h0)) [.row (syms 0 8)] (.tup [sy [33,34],.c (.lit (.bool false))]),gs (pEOfR g2 b_g2 false (fI h1)) [.row (syms 8 8)] (.tup [sy [35,36],.c (.lit (.bool false))]),gs (pEOfR g3 b_g3 true (tI h2)) [.row (syms 16 8)] (.tup [sy [37,38],.c (.lit (.bool true))]),gs (pEOfR g4 b_g4 false (fI h3)) [.row (syms 24 8)] (.tup [sy [39,40],.c (.lit (.bool false))])]
     [] [] Tryz.func66 eo66 2000 [.row (syms 0 33)] (.tup [.row [.lit .nilp,.lit .nilp,.lit .nilp,.lit .nilp,.lit .nilp,.lit .nilp,.lit .nilp,.lit .nilp,.lit (.bool false)],.c (.lit (.bool false))])))
   (fun h2=>(Classical.em (GOk g4.val)).elim (fun h3=>ev_sp (L:=[g1.cells,g2.cells,g3.cells,g4.cells,[gx (.bool t)],[ga,ga],[ga,ga],[ga,ga],[ga,ga]].flatten) tys_ok mixed
     [gs (pEOfR g1 b_g1 false (fI h0)) [.row (syms 0 8)] (.tup [sy [33,34],.c (.lit (.bool false))]),gs (pEOfR g2 b_g2 false (fI h1)) [.row (syms 8 8)] (.tup [sy [35,36],.c (.lit (.bool false))]),gs (pEOfR g3 b_g3 false (fI h2)) [.row (syms 16 8)] (.tup [sy [37,38],.c (.lit (.bool false))]),gs (pEOfR g4 b_g4 true (tI h3)) [.row (syms 24 8)] (.tup [sy [39,40],.c (.lit (.bool true))])]
     [] [] Tryz.func66 eo66 2000 [.row (syms 0 33)] (.tup [.row [.lit .nilp,.lit .nilp,.lit .nilp,.lit .nilp,.lit .nilp,.lit .nilp,.lit .nilp,.lit .nilp,.lit (.bool false)],.c (.lit (.bool false))]))
   (fun h3=>ev_sp (L:=[g1.cells,g2.cells,g3.cells,g4.cells,[gx (.bool t)],[ga,ga],[ga,ga],[ga,ga],[ga,ga]].flatten) tys_ok mixed
     [gs (pEOfR g1 b_g1 false (fI h0)) [.row (syms 0 8)] (.tup [sy [33,34],.c (.lit (.bool false))]),gs (pEOfR g2 b_g2 false (fI h1)) [.row (syms 8 8)] (.tup [sy [35,36],.c (.lit (.bool false))]),gs (pEOfR g3 b_g3 false (fI h2)) [.row (syms 16 8)] (.tup [sy [37,38],.c (.lit (.bool false))]),gs (pEOfR g4 b_g4 false (fI h3)) [.row (syms 24 8)] (.tup [sy [39,40],.c (.lit (.bool false))])]
     [] [] Tryz.func66 eo66 2000 [.row (syms 0 33)] (.tup [.row [.lit .nilp,.lit .nilp,.lit .nilp,.lit .nilp,.lit .nilp,.lit .nilp,.lit .nilp,.lit .nilp,.lit (.bool false)],.c (.lit (.bool false))])))))
theorem mCheckB(g1 g2 g3 g4:RawG)(t:Bool)(b_g1:RawG.Sz g1)(b_g2:RawG.Sz g2)(b_g3:RawG.Sz g3)(b_g4:RawG.Sz g4)(hbad:¬(GOk g1.val∧GOk g2.val∧GOk g3.val∧GOk g4.val)):SpecC Tryz.prog true 27 [.row (g1.cells++g2.cells++g3.cells++g4.cells++[gx (.bool t)])] (.r (.c (gl (.int .i64 2)))) :=
  ev_sp (L := [g1.cells,g2.cells,g3.cells,g4.cells,[gx (.bool t)]].flatten) tys_ok mixed
     [gs (eOpenB g1 g2 g3 g4 t b_g1 b_g2 b_g3 b_g4 hbad) [.row (syms 0 33)] (.tup [.row [.lit .nilp,.lit .nilp,.lit .nilp,.lit .nilp,.lit .nilp,.lit .nilp,.lit .nilp,.lit .nilp,.lit (.bool false)],.c (.lit (.bool false))])]
     [] [] Tryz.func27 eo27 2000 [.row (syms 0 33)] (.r (.c (.lit (.int .i64 2))))
def MOk(m:RawM):Prop:=∃ a b c d:QC,(m.a=rawQ a∧m.b=rawQ b∧m.c=rawQ c∧m.d=rawQ d)∧(ShortZ a∧ShortZ b∧ShortZ c∧ShortZ d)∧(c=(⟨1,0⟩:QC)∨(c=(⟨0,0⟩:QC)∧d=(⟨1,0⟩:QC)))∧¬(((a*d) - (b*c))=(⟨0,0⟩:QC))
theorem mChkN(g1 g2 g3 g4:RawG)(t:Bool)(b1:g1.Sz)(b2:g2.Sz)(b3:g3.Sz)(b4:g4.Sz)(h:¬MOk ⟨g1,g2,g3,g4,t⟩):SpecC Tryz.prog true 27 [.row (g1.cells++g2.cells++g3.cells++g4.cells++[gx (.bool t)])] (.r (.c (gl (.int .i64 2)))):=by
 by_cases hg:GOk g1.val∧GOk g2.val∧GOk g3.val∧GOk g4.val
 ·obtain⟨k1,k2,k3,k4⟩:=hg
  obtain⟨a,rfl,ha⟩:=gOk_raw k1
  obtain⟨b,rfl,hb⟩:=gOk_raw k2
  obtain⟨c,rfl,hc⟩:=gOk_raw k3
  obtain⟨d,rfl,hd⟩:=gOk_raw k4
  have k:=mCheck a b c d t ha hb hc hd
  by_cases h1:((a*d) - (b*c))=(⟨0,0⟩:QC)
  ·exact k.t h1
  ·exact(k.f h1).f (fun h2=>h ⟨a,b,c,d,⟨rfl,rfl,rfl,rfl⟩,⟨ha,hb,hc,hd⟩,h2,h1⟩)
 ·exact mCheckB g1 g2 g3 g4 t b1 b2 b3 b4 hg
end Go.Proofs.YtgjkifdilflcbaaGreat
