/- Laws for the walk. -/
import Derived.Test.YtmimficdpfmfgaaGreatUbi
import Derived.MapKept
import Derived.WideKeyRuns
set_option linter.unusedVariables false
set_option linter.unusedSimpArgs false
set_option maxHeartbeats 4000000
set_option maxRecDepth 100000
namespace Go.Proofs.YtmimficdpfmfgaaGreat
open Go.RowKit Tr
open Classical
theorem wtfl5:FnsOk Tryz.prog [⟨269,Tryz.f269,2000⟩,⟨270,Tryz.f270,2000⟩,⟨288,Tryz.f288,2000⟩]:=(fs269 (fs270 (fs288 .nil)))
theorem shCheck(x z w:QC)(b_x:Qab x)(b_z:Qab z)(b_w:Qab w) :SMt 232 [([gl (.bool false)]++(Qae x).cells++[gl (.bool false)]++(Qae z).cells++[gl (.bool false)]++(Qae w).cells,81)] [.sl 0 0 3 3] (.r (gIi 0)) :=
  Qcb (L := [(Qae x).cells,(Qae z).cells,(Qae w).cells].flatten) Qad Qag
     [gs (pSMay (rawPt (some x)) (sz_shortP b_x) true (tI (rawPt_ok b_x))) [.row (flA [[.lit (.bool false)],Qav 0 8])] vTt,gs (pSMay (rawPt (some z)) (sz_shortP b_z) true (tI (rawPt_ok b_z))) [.row (flA [[.lit (.bool false)],Qav 8 8])] vTt,gs (pSMay (rawPt (some w)) (sz_shortP b_w) true (tI (rawPt_ok b_w))) [.row (flA [[.lit (.bool false)],Qav 16 8])] vTt]
     [] [] wtfl5 1 4 Tryz.func232 eo232 2000 [⟨flA [[.lit (.bool false)],Qav 0 8,[.lit (.bool false)],Qav 8 8,[.lit (.bool false)],Qav 16 8],81,none⟩] [.c (.sl 0 0 3 3)] (.r (lc 0))
end Go.Proofs.YtmimficdpfmfgaaGreat
namespace Go.Proofs.YtmimficdpfmfgaaGreat
open Go.RowKit Tr
theorem run_eql_pt(w:World)(i n1 n2 n3 n4 j m1 m2 m3 m4:Bool)(s1 s2 s3 s4 t1 t2 t3 t4:ByteArray)(r:Bool)(hr:r=true↔Value.agg #[.bool i,.bool n1,.string s1,.bool n2,.string s2,.bool n3,.string s3,.bool n4,.string s4]=.agg #[.bool j,.bool m1,.string t1,.bool m2,.string t2,.bool m3,.string t3,.bool m4,.string t4]) :
  (binOp .eql 81 (.agg #[.bool i,.bool n1,.string s1,.bool n2,.string s2,.bool n3,.string s3,.bool n4,.string s4]) (.agg #[.bool j,.bool m1,.string t1,.bool m2,.string t2,.bool m3,.string t3,.bool m4,.string t4])).run Tryz.prog w=.ok (.bool r) w:=by
 simp only[Value.agg.injEq,Array.mk.injEq,List.cons.injEq,Value.bool.injEq,Value.string.injEq,and_true] at hr
 go_simp
 simp only[toL_iff]
 cases r
 ·have hn:¬(i=j∧n1=m1∧s1=t1∧n2=m2∧s2=t2∧n3=m3∧s3=t3∧n4=m4∧s4=t4):=fun h=>by cases hr.2 h
  repeat' split
  all_goals first
   | rfl
   | (exfalso; apply hn; refine⟨?_,?_,?_,?_,?_,?_,?_,?_,?_⟩<;>assumption)
 ·obtain⟨rfl,rfl,rfl,rfl,rfl,rfl,rfl,rfl,rfl⟩:=hr.1 rfl
  simp
section
variable{w:World}
theorem fk(x:Value)(es:List MapEntry):(Instr.findKey 81 x es).run Tryz.prog w=(Instr.findAsking 81 x es).run Tryz.prog w:=by
 apply run_findKey_eq; kernel_rfl
def lkV:Option (Nat×Value)→Value
 | some (_,v)=>.tuple #[v,.bool true]
 | none=>.tuple #[.int .i64 0,.bool false]
def KeyP(x:Value):Prop:=∀ em w,(Instr.checkKey em 10000 81 x).run Tryz.prog w=.ok () w
theorem lk{x:Value}{r:Nat}{es:Array MapEntry}{c:Nat}{o:Option (Nat×Value)}(hx:KeyP x)(hh:w.heap[r]?=some (.map es c))(ho:(Instr.findAsking 81 x es.toList).run Tryz.prog w=.ok o w) :
  (Instr.lookup 277 (.map (some r)) x true).run Tryz.prog w=.ok (lkV o) w:=by
 have h1:(Tryz.prog).underlying 277=some (.map 81 3):=by kernel_rfl
 have hz:(zeroValue 3).run Tryz.prog w=.ok (.int .i64 0) w:=by kernel_rfl
 have hx':=fun em=>hx em w
 cases o with
 | none=>simp[Instr.lookup,run_underlying h1,MapKept.run_getObj_map hh,hx',fk,ho,hz,Result.andThen,lkV]
 | some o=>obtain⟨i,v⟩:=o; simp[Instr.lookup,run_underlying h1,MapKept.run_getObj_map hh,hx',fk,ho,Result.andThen,lkV]
theorem mu{x v:Value}{r:Nat}{es:Array MapEntry}{c:Nat}(hx:KeyP x)(hh:w.heap[r]?=some (.map es c))(ho:(Instr.findAsking 81 x es.toList).run Tryz.prog w=.ok none w) :
  (Instr.mapUpdate 277 (.map (some r)) x v).run Tryz.prog w=.ok () { w with heap:=w.heap.setIfInBounds r (.map (es.push { key:=x,val:=v,born:=c }) (c+1)) }:=by
 have h1:(Tryz.prog).underlying 277=some (.map 81 3):=by kernel_rfl
 have hx':=fun em=>hx em w
 simp[Instr.mapUpdate,run_underlying h1,MapKept.run_getObj_map hh,hx',fk,ho,MapKept.run_setObj_map _ hh,Result.andThen]
theorem Qhw{ops:Array Oper}{rest:List Oper}{o:Oper}{a:Act}{Q:Exit→Act→World→Prop}(hg:o.guard=none)(m x:Operand)(hop:o.op=Op.lookup 277 m x true)(b:Nat)(key:Value)(es:Array MapEntry)(c:Nat)(oo:Option (Nat×Value))
  (u:Value) (hu:lkV oo=u) (hm:a.eval m=.map (some b)) (hx:a.eval x=key) (hk:KeyP key) (hh:w.heap[b]?=some (.map es c)) (ho:(Instr.findAsking 81 key es.toList).run Tryz.prog w=.ok oo w) (hK:wpList Tryz.prog ops Q rest (a.put o.dst u) w):wpList Tryz.prog ops Q (o :: rest) a w:=by
 subst hu
 refine wpList_plain hg fun K' hK'=>?_
 unfold Oper.wp
 simp[execOp,hop,hm,hx,lk hk hh ho,Result.andThen]
 exact hK' _ _ hK
theorem wpList_mu{ops:Array Oper}{rest:List Oper}{o:Oper}{a:Act}{Q:Exit→Act→World→Prop}(hg:o.guard=none)(m x v:Operand)(hop:o.op=Op.mapUpdate 277 m x v)(b:Nat)(key val:Value)(es:Array MapEntry)(c:Nat)
  (hm:a.eval m=.map (some b)) (hx:a.eval x=key) (hv:a.eval v=val) (hk:KeyP key) (hh:w.heap[b]?=some (.map es c)) (ho:(Instr.findAsking 81 key es.toList).run Tryz.prog w=.ok none w)
  (hK:∀ w',w'={ w with heap:=w.heap.setIfInBounds b (.map (es.push { key:=key,val:=val,born:=c }) (c+1)) }→wpList Tryz.prog ops Q rest (a.put o.dst undef) w'):wpList Tryz.prog ops Q (o :: rest) a w:=by
 refine wpList_plain hg fun K' hK'=>?_
 unfold Oper.wp
 simp[execOp,hop,hm,hx,hv,mu hk hh ho,Result.andThen]
 exact hK' _ _ (hK _ rfl)
end
theorem Qfj(w W:World)(p m n:Nat)(hp:W.heap.size=p)(hm:m<p)(hn:n<p)(hne:n≠m)(hw:w.heap.size≤m)(es:Array MapEntry)(c:Nat)(C u Z:Array Value)(hz:Z.size=u.size)(gn:W.heap[n]?=some (.cells C 81 (0,0)))(gm:W.heap[m]?=some (.map es c))(hb:Below w.heap.size w W) :
  (W.alloc (.cells Z 81)).heap[p]?=some (.cells Z 81 (0,0))∧((W.alloc (.cells Z 81)).setRow p u).heap[p]?=some (.cells u 81 (0,0))∧((W.alloc (.cells Z 81)).setRow p u).heap[m]?=some (.map es c)∧Below w.heap.size w ((W.alloc (.cells Z 81)).setRow p u) ∧
   ∀ o W',W'={ ((W.alloc (.cells Z 81)).setRow p u) with heap:=((W.alloc (.cells Z 81)).setRow p u).heap.setIfInBounds m o }→W'.heap.size=p+1∧W'.heap[n]?=some (.cells C 81 (0,0))∧W'.heap[m]?=some o∧Below w.heap.size w W':=by
 have a1:(W.alloc (.cells Z 81)).heap[p]?=some (.cells Z 81 (0,0)):=by rw[←hp]; exact heap_alloc_new W _
 have a2:((W.alloc (.cells Z 81)).setRow p u).heap[p]?=some (.cells u 81 (0,0)):=setRow_heap _ _ _ _ _ _ a1
 have a3:∀ k,k<p→((W.alloc (.cells Z 81)).setRow p u).heap[k]?=W.heap[k]?:=fun k hk=>by rw[setRow_other _ _ _ _ (by omega),Below.heap_alloc _ _ _ (by omega)]
 have a4:((W.alloc (.cells Z 81)).setRow p u).heap.size=p+1:=by rw[←hp]; simp[World.setRow]
 have a5:Below w.heap.size w ((W.alloc (.cells Z 81)).setRow p u):=below_setRow (hb.alloc (by omega) _) (by omega) _
 refine⟨a1,a2,(a3 m hm).trans gm,a5,?_⟩
 rintro o W' rfl
 refine⟨by simpa using a4,?_,?_,?_⟩
 ·show(Array.setIfInBounds _ m o)[n]?=_
  rw[Array.getElem?_setIfInBounds_ne (Ne.symm hne),a3 n hn,gn]
 ·show(Array.setIfInBounds _ m o)[m]?=_
  rw[Array.getElem?_setIfInBounds_self_of_lt (by rw[a4]; omega)]
 ·exact a5.trans ⟨rfl,rfl,rfl,by simp,fun k hk=>Array.getElem?_setIfInBounds_ne (by omega)⟩
theorem alike_walk(n:Nat)(C u0 u1 u2:Array Value)(w:World)(hh:w.heap[n]?=some (.cells C 81 (0,0)))(s0:u0.size=9)(s1:u1.size=9)(s2:u2.size=9)
  (t0:(C.toList.drop 0).take u0.size=u0.toList) (t1:(C.toList.drop 9).take u1.size=u1.toList) (t2:(C.toList.drop 18).take u2.size=u2.toList)
  (o0:u0.all (·.oneCell')=true) (o1:u1.all (·.oneCell')=true) (o2:u2.all (·.oneCell')=true) (k0:KeyP (.agg u0)) (k1:KeyP (.agg u1)) (k2:KeyP (.agg u2))
  (hck:Calls Tryz.prog 232 #[.slice (some ⟨n,0,none⟩) 3 3] w fun e w'=>e=.returned (.int .i64 0)∧Below w.heap.size w w')
  (q10 q20 q21:Bool) (e10:∀ w,(Op.equal 81 (.agg u1) (.agg u0)).run Tryz.prog w=.ok q10 w) (e20:∀ w,(Op.equal 81 (.agg u2) (.agg u0)).run Tryz.prog w=.ok q20 w) (e21:∀ w,(Op.equal 81 (.agg u2) (.agg u1)).run Tryz.prog w=.ok q21 w) :
  Calls Tryz.prog 152 #[.slice (some ⟨n,0,none⟩) 3 3] w fun e w'=>e=.returned (if q10 then .tuple #[.int .i64 0,.int .i64 1,.int .i64 0] else if q20 then .tuple #[.int .i64 0,.int .i64 2,.int .i64 0] else if q21 then .tuple #[.int .i64 1,.int .i64 2,.int .i64 0] else .tuple #[.int .i64 0,.int .i64 0,.int .i64 7])∧Below w.heap.size w w':=by
 have HC:=Lib.hid hck
 have HH:=Lib.hid hh
 have hn:n<w.heap.size:=(Array.getElem?_eq_some_iff.1 hh).1
 clear hck hh
 have hmm:=@run_makeMap Tryz.prog
 go_enter Tryz.func152,Tryz.ntmps152
 go_wp2_with (first
  | (go_at_call 232; refine HC.out.mono ?_; rintro e w1 ⟨rfl,hb1⟩))
 obtain⟨W,hW⟩:∃ W,W=w1.alloc (.map #[] 0):=⟨_,rfl⟩
 rw[←hW]
 have hz0:W.heap.size=w1.heap.size+1:=by rw[hW]; simp
 have g0:W.heap[n]?=some (.cells C 81 (0,0)):=by rw[hW,Below.heap_alloc _ _ _ (by have:=hb1.size; omega)]; exact(hb1.block _ hn).trans HH.out
 have m0:W.heap[w1.heap.size]?=some (.map #[] 0):=by rw[hW]; exact heap_alloc_new w1 _
 have hn1:n<w1.heap.size:=Nat.lt_of_lt_of_le hn hb1.size
 have HB:=Lib.hid hb1
 have HW0:Below w.heap.size w W:=by rw[hW]; exact hb1.alloc hb1.size _
 clear hb1 hW
 refine wp_loop_rounds 4 ?_
 have z9:∀ u:Array Value,u.size=9→(#[.bool false,.bool false,.string ⟨#[]⟩,.bool false,.string ⟨#[]⟩,.bool false,.string ⟨#[]⟩,.bool false,.string ⟨#[]⟩]:Array Value).size=u.size:=fun u h=>by rw[h]; rfl
 obtain⟨f1,f2,f3,f4,f5⟩:=Qfj w W (w1.heap.size+1) w1.heap.size n hz0 (by omega) (by omega) (by omega) HB.out.size (#[]) 0 C u0 _ (z9 u0 s0) g0 m0 HW0
 rw[rounds_succ]
 go_wp2_with (first
  | (refine Qdj (by kernel_rfl) 81 _ rfl n 0 rfl 81 C u0 (0,0) _ g0 Tryz.underlying81 rfl (by rw[s0]; kernel_rfl) t0 ?_)
  | (refine wpList_store_row rfl 81 _ _ rfl (w1.heap.size+1) u0 rfl rfl 81 _ f1 (by rw[s0]; kernel_rfl) (by rw[s0]; rfl) o0 ?_)
  | (refine wpList_load_row rfl 81 _ rfl (w1.heap.size+1) rfl 81 u0 (0,0) _ f2 Tryz.underlying81 rfl (by rw[s0]; kernel_rfl) ?_)
  | (refine Qhw rfl _ _ rfl w1.heap.size (.agg u0) (#[]) 0 (none) (.tuple #[.int .i64 0,.bool false]) rfl rfl rfl k0 f3 (rfl) ?_)
  | (refine wpList_mu rfl _ _ _ rfl w1.heap.size (.agg u0) (.int .i64 0) (#[]) 0 rfl rfl rfl k0 f3 (rfl) ?_; intro W1 hW1; replace hW1:=Lib.hid hW1))
 obtain⟨hz1,g1,m1,HW1⟩:=f5 _ W1 hW1.out
 clear f1 f2 f3 f4 f5 hW1
 cases q10
 case true =>
  obtain⟨f1,f2,f3,f4,f5⟩:=Qfj w W1 (w1.heap.size+1+1) w1.heap.size n hz1 (by omega) (by omega) (by omega) HB.out.size (#[].push { key:=.agg u0,val:=.int .i64 0,born:=0 }) 1 C u1 _ (z9 u1 s1) g1 m1 HW1
  rw[rounds_succ]
  go_wp2_with (first
   | (refine Qdj (by kernel_rfl) 81 _ rfl n 9 rfl 81 C u1 (0,0) _ g1 Tryz.underlying81 rfl (by rw[s1]; kernel_rfl) t1 ?_)
   | (refine wpList_store_row rfl 81 _ _ rfl (w1.heap.size+1+1) u1 rfl rfl 81 _ f1 (by rw[s1]; kernel_rfl) (by rw[s1]; rfl) o1 ?_)
   | (refine wpList_load_row rfl 81 _ rfl (w1.heap.size+1+1) rfl 81 u1 (0,0) _ f2 Tryz.underlying81 rfl (by rw[s1]; kernel_rfl) ?_)
   | (refine Qhw rfl _ _ rfl w1.heap.size (.agg u1) (#[].push { key:=.agg u0,val:=.int .i64 0,born:=0 }) 1 (some (0,.int .i64 0)) (.tuple #[.int .i64 0,.bool true]) rfl rfl rfl k1 f3 (by simp[Instr.findAsking,e10]) ?_))
  refine bodyPost_ret (v:=.tuple #[.int .i64 0,.int .i64 1,.int .i64 0]) (by simp[results,Tryz.results152,go_sem]) rfl ⟨rfl,f4⟩
 case false =>
  obtain⟨f1,f2,f3,f4,f5⟩:=Qfj w W1 (w1.heap.size+1+1) w1.heap.size n hz1 (by omega) (by omega) (by omega) HB.out.size (#[].push { key:=.agg u0,val:=.int .i64 0,born:=0 }) 1 C u1 _ (z9 u1 s1) g1 m1 HW1
  rw[rounds_succ]
  go_wp2_with (first
   | (refine Qdj (by kernel_rfl) 81 _ rfl n 9 rfl 81 C u1 (0,0) _ g1 Tryz.underlying81 rfl (by rw[s1]; kernel_rfl) t1 ?_)
   | (refine wpList_store_row rfl 81 _ _ rfl (w1.heap.size+1+1) u1 rfl rfl 81 _ f1 (by rw[s1]; kernel_rfl) (by rw[s1]; rfl) o1 ?_)
   | (refine wpList_load_row rfl 81 _ rfl (w1.heap.size+1+1) rfl 81 u1 (0,0) _ f2 Tryz.underlying81 rfl (by rw[s1]; kernel_rfl) ?_)
   | (refine Qhw rfl _ _ rfl w1.heap.size (.agg u1) (#[].push { key:=.agg u0,val:=.int .i64 0,born:=0 }) 1 (none) (.tuple #[.int .i64 0,.bool false]) rfl rfl rfl k1 f3 (by simp[Instr.findAsking,e10]) ?_)
   | (refine wpList_mu rfl _ _ _ rfl w1.heap.size (.agg u1) (.int .i64 1) (#[].push { key:=.agg u0,val:=.int .i64 0,born:=0 }) 1 rfl rfl rfl k1 f3 (by simp[Instr.findAsking,e10]) ?_; intro W2 hW2; replace hW2:=Lib.hid hW2))
  obtain⟨hz2,g2,m2,HW2⟩:=f5 _ W2 hW2.out
  clear f1 f2 f3 f4 f5 hW2
  cases q20
  case true =>
   obtain⟨f1,f2,f3,f4,f5⟩:=Qfj w W2 (w1.heap.size+1+1+1) w1.heap.size n hz2 (by omega) (by omega) (by omega) HB.out.size ((#[].push { key:=.agg u0,val:=.int .i64 0,born:=0 }).push { key:=.agg u1,val:=.int .i64 1,born:=1 }) 2 C u2 _ (z9 u2 s2) g2 m2 HW2
   rw[rounds_succ]
   go_wp2_with (first
    | (refine Qdj (by kernel_rfl) 81 _ rfl n 18 rfl 81 C u2 (0,0) _ g2 Tryz.underlying81 rfl (by rw[s2]; kernel_rfl) t2 ?_)
    | (refine wpList_store_row rfl 81 _ _ rfl (w1.heap.size+1+1+1) u2 rfl rfl 81 _ f1 (by rw[s2]; kernel_rfl) (by rw[s2]; rfl) o2 ?_)
    | (refine wpList_load_row rfl 81 _ rfl (w1.heap.size+1+1+1) rfl 81 u2 (0,0) _ f2 Tryz.underlying81 rfl (by rw[s2]; kernel_rfl) ?_)
    | (refine Qhw rfl _ _ rfl w1.heap.size (.agg u2) ((#[].push { key:=.agg u0,val:=.int .i64 0,born:=0 }).push { key:=.agg u1,val:=.int .i64 1,born:=1 }) 2 (some (0,.int .i64 0)) (.tuple #[.int .i64 0,.bool true]) rfl rfl rfl k2 f3 (by simp[Instr.findAsking,e20]) ?_))
   refine bodyPost_ret (v:=.tuple #[.int .i64 0,.int .i64 2,.int .i64 0]) (by simp[results,Tryz.results152,go_sem]) rfl ⟨rfl,f4⟩
  case false =>
   cases q21
   case true =>
    obtain⟨f1,f2,f3,f4,f5⟩:=Qfj w W2 (w1.heap.size+1+1+1) w1.heap.size n hz2 (by omega) (by omega) (by omega) HB.out.size ((#[].push { key:=.agg u0,val:=.int .i64 0,born:=0 }).push { key:=.agg u1,val:=.int .i64 1,born:=1 }) 2 C u2 _ (z9 u2 s2) g2 m2 HW2
    rw[rounds_succ]
    go_wp2_with (first
     | (refine Qdj (by kernel_rfl) 81 _ rfl n 18 rfl 81 C u2 (0,0) _ g2 Tryz.underlying81 rfl (by rw[s2]; kernel_rfl) t2 ?_)
     | (refine wpList_store_row rfl 81 _ _ rfl (w1.heap.size+1+1+1) u2 rfl rfl 81 _ f1 (by rw[s2]; kernel_rfl) (by rw[s2]; rfl) o2 ?_)
     | (refine wpList_load_row rfl 81 _ rfl (w1.heap.size+1+1+1) rfl 81 u2 (0,0) _ f2 Tryz.underlying81 rfl (by rw[s2]; kernel_rfl) ?_)
     | (refine Qhw rfl _ _ rfl w1.heap.size (.agg u2) ((#[].push { key:=.agg u0,val:=.int .i64 0,born:=0 }).push { key:=.agg u1,val:=.int .i64 1,born:=1 }) 2 (some (1,.int .i64 1)) (.tuple #[.int .i64 1,.bool true]) rfl rfl rfl k2 f3 (by simp[Instr.findAsking,e20,e21]) ?_))
    refine bodyPost_ret (v:=.tuple #[.int .i64 1,.int .i64 2,.int .i64 0]) (by simp[results,Tryz.results152,go_sem]) rfl ⟨rfl,f4⟩
   case false =>
    obtain⟨f1,f2,f3,f4,f5⟩:=Qfj w W2 (w1.heap.size+1+1+1) w1.heap.size n hz2 (by omega) (by omega) (by omega) HB.out.size ((#[].push { key:=.agg u0,val:=.int .i64 0,born:=0 }).push { key:=.agg u1,val:=.int .i64 1,born:=1 }) 2 C u2 _ (z9 u2 s2) g2 m2 HW2
    rw[rounds_succ]
    go_wp2_with (first
     | (refine Qdj (by kernel_rfl) 81 _ rfl n 18 rfl 81 C u2 (0,0) _ g2 Tryz.underlying81 rfl (by rw[s2]; kernel_rfl) t2 ?_)
     | (refine wpList_store_row rfl 81 _ _ rfl (w1.heap.size+1+1+1) u2 rfl rfl 81 _ f1 (by rw[s2]; kernel_rfl) (by rw[s2]; rfl) o2 ?_)
     | (refine wpList_load_row rfl 81 _ rfl (w1.heap.size+1+1+1) rfl 81 u2 (0,0) _ f2 Tryz.underlying81 rfl (by rw[s2]; kernel_rfl) ?_)
     | (refine Qhw rfl _ _ rfl w1.heap.size (.agg u2) ((#[].push { key:=.agg u0,val:=.int .i64 0,born:=0 }).push { key:=.agg u1,val:=.int .i64 1,born:=1 }) 2 (none) (.tuple #[.int .i64 0,.bool false]) rfl rfl rfl k2 f3 (by simp[Instr.findAsking,e20,e21]) ?_)
     | (refine wpList_mu rfl _ _ _ rfl w1.heap.size (.agg u2) (.int .i64 2) ((#[].push { key:=.agg u0,val:=.int .i64 0,born:=0 }).push { key:=.agg u1,val:=.int .i64 1,born:=1 }) 2 rfl rfl rfl k2 f3 (by simp[Instr.findAsking,e20,e21]) ?_; intro W3 hW3; replace hW3:=Lib.hid hW3))
    obtain⟨hz3,g3,m3,HW3⟩:=f5 _ W3 hW3.out
    clear f1 f2 f3 f4 f5 hW3
    rw[rounds_succ]
    go_wp2_with fail
    refine bodyPost_ret (v:=.tuple #[.int .i64 0,.int .i64 0,.int .i64 7]) (by simp[results,Tryz.results152,go_sem]) rfl ⟨rfl,HW3⟩
theorem run_eqP(w:World)(i n1 n2 n3 n4 j m1 m2 m3 m4:Bool)(s1 s2 s3 s4 t1 t2 t3 t4:ByteArray)(r:Bool)(hr:r=true↔Value.agg #[.bool i,.bool n1,.string s1,.bool n2,.string s2,.bool n3,.string s3,.bool n4,.string s4]=.agg #[.bool j,.bool m1,.string t1,.bool m2,.string t2,.bool m3,.string t3,.bool m4,.string t4]) :
  (Op.equal 81 (.agg #[.bool i,.bool n1,.string s1,.bool n2,.string s2,.bool n3,.string s3,.bool n4,.string s4]) (.agg #[.bool j,.bool m1,.string t1,.bool m2,.string t2,.bool m3,.string t3,.bool m4,.string t4])).run Tryz.prog w=.ok r w:=by
 have h:=run_eql_pt w i n1 n2 n3 n4 j m1 m2 m3 m4 s1 s2 s3 s4 t1 t2 t3 t4 r hr
 generalize (#[.bool i,.bool n1,.string s1,.bool n2,.string s2,.bool n3,.string s3,.bool n4,.string s4]:Array Value)=a at h ⊢
 generalize (#[.bool j,.bool m1,.string t1,.bool m2,.string t2,.bool m3,.string t3,.bool m4,.string t4]:Array Value)=b at h ⊢
 have e:binOp .eql 81 (.agg a) (.agg b)=(do let v ←Op.equal 81 (.agg a) (.agg b); pure (.bool v)):=rfl
 rw[e,Sem.run_bind] at h
 cases hq:(Op.equal 81 (.agg a) (.agg b)).run Tryz.prog w with
 | ok v w'=>rw[hq] at h; simpa[Result.andThen] using h
 | halt v w'=>rw[hq] at h; simp[Result.andThen] at h
def ptU(z:QC):List Value:=(rawPt (some z)).vals
theorem ptU_key(z:QC):KeyP (.agg (ptU z).toArray):=fun em w=>by kernel_rfl
theorem ptU_eq(x z:QC)(r:Bool)(hr:r=true↔x=z)(w:World):(Op.equal 81 (.agg (ptU x).toArray) (.agg (ptU z).toArray)).run Tryz.prog w=.ok r w :=
 run_eqP w _ _ _ _ _ _ _ _ _ _ _ _ _ _ _ _ _ _ r (by
  rw[hr]
  refine⟨fun h=>by rw[h],fun h=>?_⟩
  have h':(rawPt (some x)).val=(rawPt (some z)).val:=h
  have h2:=rawP_inj h'
  exact Qax.1 (congrArg RawP.g h2))
theorem alike_any(x z w:QC)(sx:Qab x)(sz:Qab z)(sw:Qab w)(q10 q20 q21:Bool)(h1:q10=true↔z=x)(h2:q20=true↔w=x)(h3:q21=true↔w=z)(r:FV)
  (hr:∀ w' A,r.R (if q10 then .tuple #[.int .i64 0,.int .i64 1,.int .i64 0] else if q20 then .tuple #[.int .i64 0,.int .i64 2,.int .i64 0] else if q21 then .tuple #[.int .i64 1,.int .i64 2,.int .i64 0] else .tuple #[.int .i64 0,.int .i64 0,.int .i64 7]) w' A) :
  SMt 152 [([gl (.bool false)]++(Qae x).cells++[gl (.bool false)]++(Qae z).cells++[gl (.bool false)]++(Qae w).cells,81)] [.sl 0 0 3 3] r :=
 ⟨eo152,fun σ W A vs hR hA hbl hbey hu=>by
  match vs,hu with
  | [v],hu =>
   obtain⟨⟨m,hm,rfl⟩,_⟩:=hu
   obtain⟨n,us,hn,hAn,hh,hg⟩:=hbl 0 _ _ rfl
   rw[hm] at hn; cases hn
   have e:Value.agg us.toArray=.agg (ptU x++ptU z++ptU w).toArray:=(FR.val_ok (u:=.agg (ptU x++ptU z++ptU w).toArray) (x:=.row ([gl (.bool false)]++(Qae x).cells++[gl (.bool false)]++(Qae z).cells++[gl (.bool false)]++(Qae w).cells)) (by kernel_rfl)).1 ⟨us,rfl,hg⟩
   have e':us.toArray=(ptU x++ptU z++ptU w).toArray:=by injection e
   have hck:Calls Tryz.prog 232 #[.slice (some ⟨m,0,none⟩) 3 3] W fun e w'=>e=.returned (.int .i64 0)∧Below W.heap.size W w' :=
    ((shCheck x z w sx sz sw).ok σ W A [.slice (some ⟨m,0,none⟩) 3 3] hR hA hbl hbey ⟨⟨m,hm,rfl⟩,trivial⟩).mono fun r' w' ⟨v,h1,h2,h3⟩=>⟨by rw[h1,(FV.val_ok (u:=.int .i64 0) (by kernel_rfl)).1 h2],h3⟩
   refine(alike_walk m us.toArray (ptU x).toArray (ptU z).toArray (ptU w).toArray W hh rfl rfl rfl (by rw[e']; rfl) (by rw[e']; rfl) (by rw[e']; rfl) (by kernel_rfl) (by kernel_rfl) (by kernel_rfl) (ptU_key x) (ptU_key z) (ptU_key w) hck q10 q20 q21 (ptU_eq z x q10 h1) (ptU_eq w x q20 h2) (ptU_eq w z q21 h3)).mono ?_
   rintro e w' ⟨rfl,hb⟩
   exact⟨_,rfl,hr w' A,hb⟩⟩
theorem alike3a(x z w:QC)(sx:Qab x)(sz:Qab z)(sw:Qab w)(h:x=z):SMt 152 [([gl (.bool false)]++(Qae x).cells++[gl (.bool false)]++(Qae z).cells++[gl (.bool false)]++(Qae w).cells,81)] [.sl 0 0 3 3] (.tup [gIi 0,gIi 1,gIi 0]) :=
 alike_any x z w sx sz sw true (decide (w=x)) (decide (w=z)) (tI h.symm) decide_eq_true_iff decide_eq_true_iff _ fun w' A=>(FV.val_ok (u:=.tuple #[.int .i64 0,.int .i64 1,.int .i64 0]) (by kernel_rfl)).2 rfl
theorem alike3b(x z w:QC)(sx:Qab x)(sz:Qab z)(sw:Qab w)(h:¬(x=z))(h2:x=w):SMt 152 [([gl (.bool false)]++(Qae x).cells++[gl (.bool false)]++(Qae z).cells++[gl (.bool false)]++(Qae w).cells,81)] [.sl 0 0 3 3] (.tup [gIi 0,gIi 2,gIi 0]) :=
 alike_any x z w sx sz sw false true (decide (w=z)) (fI fun e=>h e.symm) (tI h2.symm) decide_eq_true_iff _ fun w' A=>(FV.val_ok (u:=.tuple #[.int .i64 0,.int .i64 2,.int .i64 0]) (by kernel_rfl)).2 rfl
theorem alike3c(x z w:QC)(sx:Qab x)(sz:Qab z)(sw:Qab w)(h:¬(x=z))(h2:¬(x=w))(h3:z=w):SMt 152 [([gl (.bool false)]++(Qae x).cells++[gl (.bool false)]++(Qae z).cells++[gl (.bool false)]++(Qae w).cells,81)] [.sl 0 0 3 3] (.tup [gIi 1,gIi 2,gIi 0]) :=
 alike_any x z w sx sz sw false false true (fI fun e=>h e.symm) (fI fun e=>h2 e.symm) (tI h3.symm) _ fun w' A=>(FV.val_ok (u:=.tuple #[.int .i64 1,.int .i64 2,.int .i64 0]) (by kernel_rfl)).2 rfl
theorem alike3d(x z w:QC)(sx:Qab x)(sz:Qab z)(sw:Qab w)(h:¬(x=z))(h2:¬(x=w))(h3:¬(z=w)):SMt 152 [([gl (.bool false)]++(Qae x).cells++[gl (.bool false)]++(Qae z).cells++[gl (.bool false)]++(Qae w).cells,81)] [.sl 0 0 3 3] (.tup [gIi 0,gIi 0,gIi 7]) :=
 alike_any x z w sx sz sw false false false (fI fun e=>h e.symm) (fI fun e=>h2 e.symm) (fI fun e=>h3 e.symm) _ fun w' A=>(FV.val_ok (u:=.tuple #[.int .i64 0,.int .i64 0,.int .i64 7]) (by kernel_rfl)).2 rfl
end Go.Proofs.YtmimficdpfmfgaaGreat
