/- Laws for the walk. -/
import Derived.Test.YtjlhiaafnpompaaGreatZaj
import Derived.Test.YtjlhiaafnpompaaGreatZbe
set_option linter.unusedVariables false
set_option maxHeartbeats 4000000
set_option linter.unusedSimpArgs false
namespace Go.Proofs.YtjlhiaafnpompaaGreat
open Go.RowKit Tr
open Classical
def e3(a:QC)(b:QC)(d:QC):QC:=((a - d)*(a - d))+(b*(⟨4,0⟩:QC))
theorem e3_b0(a:QC)(b:QC)(d:QC)(b_a:ShortZ a)(b_b:ShortZ b)(b_d:ShortZ d):ZL (e3 a b d) 10251:=(ZL_add (ZL_mul (ZL_sub (ZL_short b_a) (ZL_short b_d)) (ZL_sub (ZL_short b_a) (ZL_short b_d))) (ZL_mul (ZL_short b_b) (ZL_int 4 0 (by decide) (by decide) (by decide) (by decide)))).mono (by omega)
theorem fends(a b c d:QC)(b_a:ShortZ a)(b_b:ShortZ b)(b_c:ShortZ c)(b_d:ShortZ d)(hd:¬(((a*d) - (b*c))=(⟨0,0⟩:QC)))(hn:c=(⟨1,0⟩:QC)∨(c=(⟨0,0⟩:QC)∧d=(⟨1,0⟩:QC))):SpecC Tryz.prog true 81 [.row ((rawQ a).cells++(rawQ b).cells++(rawQ c).cells++(rawQ d).cells++[gl (.bool false)])] (if HasQ (e3 a b d) then .tup [.row (cq (a - d)),.row (cq (rt (e3 a b d))),.c (gl (.int .i64 0))] else .tup [.row (cq (a - d)),.row ([gl .nilp,gl .nilp]),.c (gl (.int .i64 7))]) :=
  have t1:=fMap a b c d false b_a b_b b_c b_d
  have t2:=pSub a d (ZL_short b_a) (ZL_short b_d) (by decide)
  have t3:=pMul (a - d) (a - d) (ZL_sub (ZL_short b_a) (ZL_short b_d)) (ZL_sub (ZL_short b_a) (ZL_short b_d)) (by decide)
  have t4:=pQInt 4 0 (by decide) (by decide) (by decide) (by decide)
  have t5:=pMul b (⟨4,0⟩:QC) (ZL_short b_b) (ZL_int 4 0 (by decide) (by decide) (by decide) (by decide)) (by decide)
  have t6:=pAdd ((a - d)*(a - d)) (b*(⟨4,0⟩:QC)) (ZL_mul (ZL_sub (ZL_short b_a) (ZL_short b_d)) (ZL_sub (ZL_short b_a) (ZL_short b_d))) (ZL_mul (ZL_short b_b) (ZL_int 4 0 (by decide) (by decide) (by decide) (by decide))) (by decide)
  (Classical.em (HasQ (e3 a b d))).elim (fun h0 => .it h0 (ev_sp (L := [(rawQ a).cells,(rawQ b).cells,(rawQ c).cells,(rawQ d).cells,cq a,cq b,cq c,cq d,cq (a - d),cq ((a - d) * (a - d)),cq (⟨4,0⟩ : QC),cq (b * (⟨4,0⟩ : QC)),cq (e3 a b d),cq (rt (e3 a b d))].flatten) tys_ok mixed
     [gs (t1) [.row (flA [syms 0 32,[.lit (.bool false)]])] (.r (.row (flA [syms 32 8,[.lit (.bool false)]]))),gs (t2) [sy [32,33],sy [38,39]] (.r (sy [40,41])),gs (t3) [sy [40,41],sy [40,41]] (.r (sy [42,43])),gs (t4) [.c (.lit (.int .i64 4)),.c (.lit (.int .i64 0))] (.r (sy [44,45])),gs (t5) [sy [34,35],sy [44,45]] (.r (sy [46,47])),gs (t6) [sy [42,43],sy [46,47]] (.r (sy [48,49])),gs (pSqrt (e3 a b d) ((e3_b0 a b d b_a b_b b_d).mono (by omega)) h0) [sy [48,49]] (.tup [sy [50,51],.c (.lit (.bool true))])]
     [] [] Tryz.func81 eo81 2000 [.row (flA [syms 0 32,[.lit (.bool false)]])] (.tup [sy [40,41],sy [50,51],.c (.lit (.int .i64 0))])))
   (fun h0=>.ie (fun h=>h0 h) (ev_sp (L:=[(rawQ a).cells,(rawQ b).cells,(rawQ c).cells,(rawQ d).cells,cq a,cq b,cq c,cq d,cq (a - d),cq ((a - d)*(a - d)),cq (⟨4,0⟩:QC),cq (b*(⟨4,0⟩:QC)),cq (e3 a b d)].flatten) tys_ok mixed
     [gs (t1) [.row (flA [syms 0 32,[.lit (.bool false)]])] (.r (.row (flA [syms 32 8,[.lit (.bool false)]]))),gs (t2) [sy [32,33],sy [38,39]] (.r (sy [40,41])),gs (t3) [sy [40,41],sy [40,41]] (.r (sy [42,43])),gs (t4) [.c (.lit (.int .i64 4)),.c (.lit (.int .i64 0))] (.r (sy [44,45])),gs (t5) [sy [34,35],sy [44,45]] (.r (sy [46,47])),gs (t6) [sy [42,43],sy [46,47]] (.r (sy [48,49])),gs (pSqrtN (e3 a b d) ((e3_b0 a b d b_a b_b b_d).mono (by omega)) h0) [sy [48,49]] (.tup [.row [.lit .nilp,.lit .nilp],.c (.lit (.bool false))])]
     [] [] Tryz.func81 eo81 2000 [.row (flA [syms 0 32,[.lit (.bool false)]])] (.tup [sy [40,41],.row [.lit .nilp,.lit .nilp],.c (.lit (.int .i64 7))])))
theorem fends_b0_1(a b c d:QC)(b_a:ShortZ a)(b_b:ShortZ b)(b_c:ShortZ c)(b_d:ShortZ d)(hd:¬(((a*d) - (b*c))=(⟨0,0⟩:QC)))(hn:c=(⟨1,0⟩:QC)∨(c=(⟨0,0⟩:QC)∧d=(⟨1,0⟩:QC))):ZL (a - d) 2049:=(ZL_sub (ZL_short b_a) (ZL_short b_d)).mono (by omega)
theorem fends_b0_4(a b c d:QC)(b_a:ShortZ a)(b_b:ShortZ b)(b_c:ShortZ c)(b_d:ShortZ d)(hd:¬(((a*d) - (b*c))=(⟨0,0⟩:QC)))(hn:c=(⟨1,0⟩:QC)∨(c=(⟨0,0⟩:QC)∧d=(⟨1,0⟩:QC))):ZL (rt (e3 a b d)) 51260:=(ZL_rt (e3_b0 a b d b_a b_b b_d)).mono (by omega)
theorem outPC_inf(x:QC):outPC x ⟨0,0⟩=0:=if_pos rfl
theorem pInf:SpecC Tryz.prog true 80 [] (.r (.row (rawPt none).cells)) :=
 ⟨eo80,fun w A us _ _ hu=>by
  match us,hu with
  | [],_=>exact(Infinity_any w).mono fun e w' h=>⟨_,h.1,(FR.val_ok (u:=(rawPt none).val) (x:=.row (rawPt none).cells) (by kernel_rfl)).2 rfl,h.2⟩⟩
theorem pPointInf:SpecC Tryz.prog true 56 [.row (rawPt none).cells] (.r (.row (cq ⟨1,0⟩++cq ⟨0,0⟩))):=pPoint none trivial
noncomputable def e4(a:QC)(b:QC)(d:QC):QC:=((a - d)+(rt (e3 a b d))) / (⟨2,0⟩:QC)
noncomputable def e5(a:QC)(b:QC)(d:QC):QC:=((a - d) - (rt (e3 a b d))) / (⟨2,0⟩:QC)
noncomputable def e6(a:QC)(b:QC)(d:QC):QC:=(a - (e5 a b d)) / (a - (e4 a b d))
end Go.Proofs.YtjlhiaafnpompaaGreat
set_option linter.unusedSimpArgs false
namespace Go.Proofs.YtjlhiaafnpompaaGreat
open Go.RowKit Tr
open Classical
theorem pPPointC(x y z:QC){m l:Nat}(lx:ZL x m)(ly:ZL y l)(h0:y≠⟨0,0⟩)(hz:x / y=z)(hs:ShortZ z)(hb:(m+l+(m+l)+1)+(l+l+(l+l)+1)<137438953472):SpecC Tryz.prog true 42 [.row (cq x++cq y)] (.tup [.row (gl (.bool false) :: (rawQ z).cells),.c (gl (.int .i64 0))]):=by
 have k:=pPPoint x y lx ly hb
 rw[outR_is h0 hz hs,outPC_is h0 hz hs] at k
 exact k
theorem kends  :SpecC Tryz.prog true 81 [.row ((rawQ (⟨0,0⟩:QC)).cells++(rawQ (⟨-1,0⟩:QC)).cells++(rawQ (⟨1,0⟩:QC)).cells++(rawQ (⟨0,0⟩:QC)).cells++[gl (.bool false)])] (.tup [.row (cq (⟨0,0⟩:QC)),.row (cq (⟨0,2⟩:QC)),.c (gl (.int .i64 0))]) :=
  ev_sp (L := [(rawQ (⟨0,0⟩ : QC)).cells,(rawQ (⟨-1,0⟩ : QC)).cells,(rawQ (⟨1,0⟩ : QC)).cells,(rawQ (⟨0,0⟩ : QC)).cells,cq (⟨0,0⟩ : QC),cq (⟨-1,0⟩ : QC),cq (⟨1,0⟩ : QC),cq (⟨0,0⟩ : QC),cq (⟨0,0⟩ : QC),cq (⟨0,0⟩ : QC),cq (⟨4,0⟩ : QC),cq (⟨-4,0⟩ : QC),cq (⟨-4,0⟩ : QC),cq (⟨0,2⟩ : QC)].flatten) tys_ok mixed
     [gs (fMap (⟨0,0⟩:QC) (⟨-1,0⟩:QC) (⟨1,0⟩:QC) (⟨0,0⟩:QC) false (short_c (by decide +kernel)) (short_c (by decide +kernel)) (short_c (by decide +kernel)) (short_c (by decide +kernel))) [.row (flA [syms 0 32,[.lit (.bool false)]])] (.r (.row (flA [syms 32 8,[.lit (.bool false)]]))),gs (pSub (⟨0,0⟩:QC) (⟨0,0⟩:QC) (ZL_int 0 0 (by decide) (by decide) (by decide) (by decide)) (ZL_int 0 0 (by decide) (by decide) (by decide) (by decide)) (by decide)) [sy [32,33],sy [38,39]] (.r (sy [40,41])),gs (pMul (⟨0,0⟩:QC) (⟨0,0⟩:QC) (ZL_int 0 0 (by decide) (by decide) (by decide) (by decide)) (ZL_int 0 0 (by decide) (by decide) (by decide) (by decide)) (by decide)) [sy [40,41],sy [40,41]] (.r (sy [42,43])),gs (pQInt 4 0 (by decide) (by decide) (by decide) (by decide)) [.c (.lit (.int .i64 4)),.c (.lit (.int .i64 0))] (.r (sy [44,45])),gs (pMul (⟨-1,0⟩:QC) (⟨4,0⟩:QC) (ZL_int (-1) 0 (by decide) (by decide) (by decide) (by decide)) (ZL_int 4 0 (by decide) (by decide) (by decide) (by decide)) (by decide)) [sy [34,35],sy [44,45]] (.r (sy [46,47])),gs (pAdd (⟨0,0⟩:QC) (⟨-4,0⟩:QC) (ZL_int 0 0 (by decide) (by decide) (by decide) (by decide)) (ZL_int (-4) 0 (by decide) (by decide) (by decide) (by decide)) (by decide)) [sy [42,43],sy [46,47]] (.r (sy [48,49])),gs (pSqrtC (⟨-4,0⟩:QC) (⟨0,2⟩:QC) ((ZL_int (-4) 0 (by decide) (by decide) (by decide) (by decide)).mono (by omega)) (by decide +kernel)) [sy [48,49]] (.tup [sy [50,51],.c (.lit (.bool true))])]
     [] [] Tryz.func81 eo81 2000 [.row (flA [syms 0 32,[.lit (.bool false)]])] (.tup [sy [40,41],sy [50,51],.c (.lit (.int .i64 0))])
theorem lknown  :SpecC Tryz.prog true 7 [] (.r (.c (gl (.bool true)))) :=
  ev_spi (L := [(rawQ (⟨1,0⟩ : QC)).cells,(rawQ (⟨0,0⟩ : QC)).cells,(rawQ (⟨-1,0⟩ : QC)).cells,(rawQ (⟨1,0⟩ : QC)).cells,(rawQ (⟨0,0⟩ : QC)).cells,(rawQ (⟨0,0⟩ : QC)).cells,(rawQ (⟨1,0⟩ : QC)).cells,cq (⟨1,0⟩ : QC),cq (⟨0,0⟩ : QC),cq (⟨0,2⟩ : QC),cq (⟨2,0⟩ : QC),cq (⟨0,2⟩ : QC),cq (⟨0,-2⟩ : QC),(rawQ (⟨0,1⟩ : QC)).cells,(rawQ (⟨0,-1⟩ : QC)).cells,(rawQ (⟨0,1⟩ : QC)).cells,(rawQ (⟨0,-1⟩ : QC)).cells].flatten) tys_ok mixed
     [gs (pGInt 1 0 (by decide) (by decide) (by decide) (by decide)) [.c (.lit (.int .i64 1)),.c (.lit (.int .i64 0))] (.r (.row (syms 0 8))),gs (pGInt 0 0 (by decide) (by decide) (by decide) (by decide)) [.c (.lit (.int .i64 0)),.c (.lit (.int .i64 0))] (.r (.row (syms 8 8))),gs (pGInt (-1) 0 (by decide) (by decide) (by decide) (by decide)) [.c (.lit (.int .i64 (-1))),.c (.lit (.int .i64 0))] (.r (.row (syms 16 8))),gs ((((fKind (⟨1,0⟩:QC) (⟨1,0⟩:QC) (⟨0,0⟩:QC) (⟨1,0⟩:QC) (short_c (by decide +kernel)) (short_c (by decide +kernel)) (short_c (by decide +kernel)) (short_c (by decide +kernel)) (by decide +kernel) (by decide +kernel)).f (by decide +kernel)).t (by decide +kernel)).t (by decide +kernel)) [.row (flA [syms 0 8,syms 0 16,syms 0 8,[.lit (.bool false)]])] (.tup [.c (.lit (.int .i64 2)),.c (.lit (.int .i64 0))]),gs (((fOrder (⟨0,0⟩:QC) (⟨-1,0⟩:QC) (⟨1,0⟩:QC) (⟨0,0⟩:QC) (short_c (by decide +kernel)) (short_c (by decide +kernel)) (short_c (by decide +kernel)) (short_c (by decide +kernel)) (by decide +kernel) (by decide +kernel)).f (by decide +kernel)).t (by decide +kernel)) [.row (flA [syms 8 16,syms 0 16,[.lit (.bool false)]])] (.tup [.c (.lit (.int .i64 2)),.c (.lit (.int .i64 0))]),gs (fasked (⟨0,0⟩:QC) (⟨-1,0⟩:QC) (⟨1,0⟩:QC) (⟨0,0⟩:QC) (short_c (by decide +kernel)) (short_c (by decide +kernel)) (short_c (by decide +kernel)) (short_c (by decide +kernel)) (by decide +kernel) (by decide +kernel)) [.row (flA [syms 8 16,syms 0 16,[.lit (.bool false)]])] (.r (.c (.lit (.int .i64 0)))),gs (mOne) [] (.r (.row (flA [syms 24 32,[.lit (.bool false)]]))),gs (pQInt 1 0 (by decide) (by decide) (by decide) (by decide)) [.c (.lit (.int .i64 1)),.c (.lit (.int .i64 0))] (.r (sy [56,57])),gs (pGZero (rawQ (⟨1,0⟩:QC)) false ((fI (by decide +kernel)).trans rawQ_inj.symm)) [.row (syms 0 8)] (.r (.c (.lit (.bool false)))),gs (kends) [.row (flA [syms 8 16,syms 0 16,[.lit (.bool false)]])] (.tup [sy [58,59],sy [60,61],.c (.lit (.int .i64 0))]),gs (pQInt 2 0 (by decide) (by decide) (by decide) (by decide)) [.c (.lit (.int .i64 2)),.c (.lit (.int .i64 0))] (.r (sy [62,63])),gs (pAdd (⟨0,0⟩:QC) (⟨0,2⟩:QC) (ZL_int 0 0 (by decide) (by decide) (by decide) (by decide)) (ZL_int 0 2 (by decide) (by decide) (by decide) (by decide)) (by decide)) [sy [58,59],sy [60,61]] (.r (sy [64,65])),gs (pSub (⟨0,0⟩:QC) (⟨0,2⟩:QC) (ZL_int 0 0 (by decide) (by decide) (by decide) (by decide)) (ZL_int 0 2 (by decide) (by decide) (by decide) (by decide)) (by decide)) [sy [58,59],sy [60,61]] (.r (sy [66,67])),gs (pQZero (⟨0,2⟩:QC) false (fI (by decide +kernel))) [sy [60,61]] (.r (.c (.lit (.bool false)))),gs (pPPointC (⟨0,2⟩:QC) (⟨2,0⟩:QC) (⟨0,1⟩:QC) (ZL_int 0 2 (by decide) (by decide) (by decide) (by decide)) (ZL_int 2 0 (by decide) (by decide) (by decide) (by decide)) (by decide +kernel) (by decide +kernel) (short_c (by decide +kernel)) (by decide)) [.row [.sym 64,.sym 65,.sym 62,.sym 63]] (.tup [.row (flA [[.lit (.bool false)],syms 68 8]),.c (.lit (.int .i64 0))]),gs (pPPointC (⟨0,-2⟩:QC) (⟨2,0⟩:QC) (⟨0,-1⟩:QC) (ZL_int 0 (-2) (by decide) (by decide) (by decide) (by decide)) (ZL_int 2 0 (by decide) (by decide) (by decide) (by decide)) (by decide +kernel) (by decide +kernel) (short_c (by decide +kernel)) (by decide)) [.row [.sym 66,.sym 67,.sym 62,.sym 63]] (.tup [.row (flA [[.lit (.bool false)],syms 76 8]),.c (.lit (.int .i64 0))]),gs (pGInt 0 1 (by decide) (by decide) (by decide) (by decide)) [.c (.lit (.int .i64 0)),.c (.lit (.int .i64 1))] (.r (.row (syms 84 8))),gs (pGInt 0 (-1) (by decide) (by decide) (by decide) (by decide)) [.c (.lit (.int .i64 0)),.c (.lit (.int .i64 (-1)))] (.r (.row (syms 92 8)))]
     [bM (.row (flA [syms 8 16,syms 0 16,[.lit (.bool false)]])) (.row (flA [syms 24 32,[.lit (.bool false)]])) (⟨rawQ (⟨0,0⟩:QC),rawQ (⟨-1,0⟩:QC),rawQ (⟨1,0⟩:QC),rawQ (⟨0,0⟩:QC),false⟩:RawM) (⟨rawQ (⟨1,0⟩:QC),rawQ (⟨0,0⟩:QC),rawQ (⟨0,0⟩:QC),rawQ (⟨1,0⟩:QC),false⟩:RawM) false ((fI (by decide +kernel)).trans mk_inj),bG (.row (syms 68 8)) (.row (syms 84 8)) (rawQ (⟨0,1⟩:QC)) (rawQ (⟨0,1⟩:QC)) true (tI rfl),bG (.row (syms 76 8)) (.row (syms 92 8)) (rawQ (⟨0,-1⟩:QC)) (rawQ (⟨0,-1⟩:QC)) true (tI rfl)] [] ((.cons (n:=2000) Tryz.func18 eo18 (.cons (n:=2000) Tryz.func41 eo41 .nil)):FnsOk Tryz.prog _) 6 2 Tryz.func7 eo7 2000 [] (.r (.c (.lit (.bool true))))
end Go.Proofs.YtjlhiaafnpompaaGreat
namespace Go.Proofs.YtjlhiaafnpompaaGreat
open Go.RowKit Tr
set_option maxRecDepth 100000 in
theorem NAdd_any(a b c d:Rat)(v v':Value)(A:Nat→Prop)(w:World)(hv:NumO a b v w A)(hv':NumO c d v' w A)(hA:Rcv A w)(k l:Nat)(hla:RL a k)(hlb:RL b k)(hlc:RL c l)(hld:RL d l)(hkl:k+l+(k+l)<137438953472) :
  Calls Tryz.prog 53 #[v,v'] w fun e w'=>∃ u,e=.returned u∧Below w.heap.size w w'∧NumO (a+c) (b+d) u w' A:=by
 obtain⟨u1,u2,rfl,h1,h2⟩:=hv
 obtain⟨u3,u4,rfl,h3,h4⟩:=hv'
 obtain⟨W,HV,hs1,hs2,e0,e1,e2,e3⟩:=box_two w u1 u2 u3 u4 A hA
 have h1:=new_more (RatO.keeps a) (n:=w.heap.size+2) HV.out.2.1 (by omega) h1
 have h2:=new_more (RatO.keeps b) (n:=w.heap.size+2) HV.out.2.1 (by omega) h2
 have h3:=new_more (RatO.keeps c) (n:=w.heap.size+2) HV.out.2.1 (by omega) h3
 have h4:=new_more (RatO.keeps d) (n:=w.heap.size+2) HV.out.2.1 (by omega) h4
 clear hA
 go_enter Tryz.func53,Tryz.ntmps53
 go_wp2_with fail
 rw[←HV.out.1]
 refine wp_region_inv [(.new zR,[]),(.lit,[]),(.lit,[]),(.val,[]),(.lit,[]),(.lit,[]),(.val,[]),(.on 0 zR,[3,6]),(.new zR,[]),(.lit,[]),(.lit,[]),(.val,[]),(.lit,[]),(.lit,[]),(.val,[]),(.on 8 zR,[11,14])]
  (pickF [(3,FactU (Mo A (w.heap.size+2)) (RatP (a))),(6,FactU (Mo A (w.heap.size+2)) (RatP (c))),(7,FactU (Mo A (w.heap.size+2)) (RatP (a+c))),(11,FactU (Mo A (w.heap.size+2)) (RatP (b))),(14,FactU (Mo A (w.heap.size+2)) (RatP (d))),(15,FactU (Mo A (w.heap.size+2)) (RatP (b+d)))]) (by kernel_rfl) ?_ ?_ (by simp[noW_zRat]) (by simp) (by kernel_rfl)
 ·exact keeps_pick (by simp only[List.mem_cons,List.not_mem_nil,or_false]; rintro p (rfl|rfl|rfl|rfl|rfl|rfl)<;>exact FactU.keeps (RatP.keeps _))
 ·refine⟨fun f w1=>by go_simp,?_⟩
  refine⟨_,fun f w1 h1=>by(have d0:=ct h1 hs1 e0; have d1:=ct h1 hs1 e1; have d2:=ct h1 hs2 e2; have d3:=ct h1 hs2 e3; go_simp; rfl),?_⟩
  refine⟨_,fun f w1 h1=>by(have d0:=ct h1 hs1 e0; have d1:=ct h1 hs1 e1; have d2:=ct h1 hs2 e2; have d3:=ct h1 hs2 e3; go_simp; rfl),?_⟩
  simp only[Act.put,nrA,nrB,nrC,Nat.reduceAdd]
  refine⟨fun f w1 A1 k1 hA hN hd K hK=>by
   go_simp
   refine(erat_any a u1 (Un (Mo A (w.heap.size+2)) A1) w1 (later (FactU.keeps (RatO.keeps _)) h1 k1 hN) (rcv_un (HV.out.2.2.1.below (br.drew.trans k1)) hA)).mono ?_
   rintro e w' ⟨v,rfl,hb,hr⟩
   exact hK _ _ hb hr,?_⟩
  refine⟨_,fun f w1 h1=>by(have d0:=ct h1 hs1 e0; have d1:=ct h1 hs1 e1; have d2:=ct h1 hs2 e2; have d3:=ct h1 hs2 e3; go_simp; rfl),?_⟩
  refine⟨_,fun f w1 h1=>by(have d0:=ct h1 hs1 e0; have d1:=ct h1 hs1 e1; have d2:=ct h1 hs2 e2; have d3:=ct h1 hs2 e3; go_simp; rfl),?_⟩
  simp only[Act.put,nrA,nrB,nrC,Nat.reduceAdd]
  refine⟨fun f w1 A1 k1 hA hN hd K hK=>by
   go_simp
   refine(erat_any c u3 (Un (Mo A (w.heap.size+2)) A1) w1 (later (FactU.keeps (RatO.keeps _)) h3 k1 hN) (rcv_un (HV.out.2.2.1.below (br.drew.trans k1)) hA)).mono ?_
   rintro e w' ⟨v,rfl,hb,hr⟩
   exact hK _ _ hb hr,?_⟩
  simp only[Act.put,nrA,nrB,nrC,Nat.reduceAdd]
  refine⟨fun f w1 A1 m1 k1 hA hN hAm hm0 e hz hd K hK=>by
   simp only[e] at hK ⊢
   have i1:RatP (a) (f 3) w1 (Un (Mo A (w.heap.size+2)) A1):=hd 3 (by simp)
   have i2:RatP (c) (f 6) w1 (Un (Mo A (w.heap.size+2)) A1):=hd 6 (by simp)
   go_simp
   refine(RAdd_any m1 _ _ _ _ _ _ w1 hz (by decide) noW_zRat i1 i2 (k) (l) hla hlc (by omega)).mono ?_
   rintro e w' ⟨rfl,hp⟩
   exact hK _ w' hp.1 (hp.ratU (HV.out.2.2.1.below (br.drew.trans k1)) hA hm0 (fun b hb=>HV.out.2.2.1.lt hb)),?_⟩
  refine⟨fun f w1=>by go_simp,?_⟩
  refine⟨_,fun f w1 h1=>by(have d0:=ct h1 hs1 e0; have d1:=ct h1 hs1 e1; have d2:=ct h1 hs2 e2; have d3:=ct h1 hs2 e3; go_simp; rfl),?_⟩
  refine⟨_,fun f w1 h1=>by(have d0:=ct h1 hs1 e0; have d1:=ct h1 hs1 e1; have d2:=ct h1 hs2 e2; have d3:=ct h1 hs2 e3; go_simp; rfl),?_⟩
  simp only[Act.put,nrA,nrB,nrC,Nat.reduceAdd]
  refine⟨fun f w1 A1 k1 hA hN hd K hK=>by
   go_simp
   refine(erat_any b u2 (Un (Mo A (w.heap.size+2)) A1) w1 (later (FactU.keeps (RatO.keeps _)) h2 k1 hN) (rcv_un (HV.out.2.2.1.below (br.drew.trans k1)) hA)).mono ?_
   rintro e w' ⟨v,rfl,hb,hr⟩
   exact hK _ _ hb hr,?_⟩
  refine⟨_,fun f w1 h1=>by(have d0:=ct h1 hs1 e0; have d1:=ct h1 hs1 e1; have d2:=ct h1 hs2 e2; have d3:=ct h1 hs2 e3; go_simp; rfl),?_⟩
  refine⟨_,fun f w1 h1=>by(have d0:=ct h1 hs1 e0; have d1:=ct h1 hs1 e1; have d2:=ct h1 hs2 e2; have d3:=ct h1 hs2 e3; go_simp; rfl),?_⟩
  simp only[Act.put,nrA,nrB,nrC,Nat.reduceAdd]
  refine⟨fun f w1 A1 k1 hA hN hd K hK=>by
   go_simp
   refine(erat_any d u4 (Un (Mo A (w.heap.size+2)) A1) w1 (later (FactU.keeps (RatO.keeps _)) h4 k1 hN) (rcv_un (HV.out.2.2.1.below (br.drew.trans k1)) hA)).mono ?_
   rintro e w' ⟨v,rfl,hb,hr⟩
   exact hK _ _ hb hr,?_⟩
  simp only[Act.put,nrA,nrB,nrC,Nat.reduceAdd]
  refine⟨fun f w1 A1 m1 k1 hA hN hAm hm0 e hz hd K hK=>by
   simp only[e] at hK ⊢
   have i1:RatP (b) (f 11) w1 (Un (Mo A (w.heap.size+2)) A1):=hd 11 (by simp)
   have i2:RatP (d) (f 14) w1 (Un (Mo A (w.heap.size+2)) A1):=hd 14 (by simp)
   go_simp
   refine(RAdd_any m1 _ _ _ _ _ _ w1 hz (by decide) noW_zRat i1 i2 (k) (l) hlb hld (by omega)).mono ?_
   rintro e w' ⟨rfl,hp⟩
   exact hK _ w' hp.1 (hp.ratU (HV.out.2.2.1.below (br.drew.trans k1)) hA hm0 (fun b hb=>HV.out.2.2.1.lt hb)),?_⟩
  intro f w1 k1 hF
  have i0:RatP (a) (f 3) w1 ((Mo A (w.heap.size+2))):=FactU.done (RatP.keeps _) hF.1.1.1.1.1.2
  have i1:RatP (c) (f 6) w1 ((Mo A (w.heap.size+2))):=FactU.done (RatP.keeps _) hF.1.1.1.1.2
  have i2:RatP (a+c) (f 7) w1 ((Mo A (w.heap.size+2))):=FactU.done (RatP.keeps _) hF.1.1.1.2
  have i3:RatP (b) (f 11) w1 ((Mo A (w.heap.size+2))):=FactU.done (RatP.keeps _) hF.1.1.2
  have i4:RatP (d) (f 14) w1 ((Mo A (w.heap.size+2))):=FactU.done (RatP.keeps _) hF.1.2
  have i5:RatP (b+d) (f 15) w1 ((Mo A (w.heap.size+2))):=FactU.done (RatP.keeps _) hF.2
  clear hF
  simp only[Act.put,nrA,nrB,nrC]
  generalize f 3=v0 at *
  generalize f 6=v1 at *
  generalize f 7=v2 at *
  generalize f 11=v3 at *
  generalize f 14=v4 at *
  generalize f 15=v5 at *
  have hb1:Below W.heap.size W w1:=br.drew.trans k1
  obtain⟨c0,c1,f0,f1⟩:=HV.out.2.2.2 w1 hb1
  have hbw:=HV.out.2.1.trans (hb1.mono HV.out.2.1.size)
  have HE:=Lib.hid (And.intro i2 (And.intro i5 hbw))
  obtain⟨m1,rfl⟩:=i2.shape
  obtain⟨m2,rfl⟩:=i5.shape
  clear e0 e1 e2 e3 h1 h2 h3 h4 i0 i1 i2 i3 i4 i5 hbw hb1 k1
  go_wp2_with fail
  refine bodyPost_ret (v:=.agg #[.pointer (some ⟨m1,0,none⟩),.pointer (some ⟨m2,0,none⟩)]) (by simp[results,Tryz.results53,go_sem,c0,c1]) rfl ?_
  exact put_num HE.out.2.2 HE.out.1 HE.out.2.1 (by omega)
theorem pNAdd(x y:QC){m l:Nat}(hx:ZL x m)(hy:ZL y l)(hb:m+l+(m+l)<137438953472):SpecC Tryz.prog true 53 [N1 x,N1 y] (.r (N1 (x+y))) :=
 spec2 eo53 fun w A u v hR _ hu hv=>(NAdd_any x.re x.im y.re y.im u v A w (cn_iff.1 hu) (cn_iff.1 hv) (hR rfl) m l hx.1 hx.2 hy.1 hy.2 hb).mono fun e w' ⟨z,h1,h2,h3⟩=>⟨z,h1,cn_iff.2 h3,h2⟩
end Go.Proofs.YtjlhiaafnpompaaGreat
