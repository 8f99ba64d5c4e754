/- Laws for the walk. -/
import Derived.Test.YtjlhiaafnpompaaGreatZbh
set_option linter.unusedVariables false
set_option maxHeartbeats 4000000
namespace Go.Proofs.YtjlhiaafnpompaaGreat
open Go.RowKit Go.Shelf Tr
attribute [local go_sem] Oper.semAt_some
theorem okg_keep{w w':World}{A A':Nat→Prop}(hs:w.heap.size≤w'.heap.size)(hk:∀ b,b<w.heap.size→¬A b→w'.heap[b]?=w.heap[b]?∧¬A' b):∀{l:List GF} {vs:List Value},okg l vs w A→okg l vs w' A'
 | [],[],_=>trivial
 | g :: l,v :: vs,h=>⟨g.keeps v w w' A A' hs hk h.1,okg_keep hs hk h.2⟩
 | [],_ :: _,h=>h.elim
 | _ :: _,[],h=>h.elim
theorem okg_size{w:World}{A:Nat→Prop}:∀{l:List GF} {vs:List Value},okg l vs w A→vs.length=l.length
 | [],[],_=>rfl
 | _ :: _,_ :: _,h=>congrArg (·+1) (okg_size h.2)
 | [],_ :: _,h=>h.elim
 | _ :: _,[],h=>h.elim
theorem okg_cells{w:World}{A:Nat→Prop}:∀{l:List GF} {vs:List Value},okg l vs w A→vs.all (·.oneCell')=true
 | [],[],_=>rfl
 | g :: _,_ :: _,h=>by rw[List.all_cons,g.cell _ _ _ h.1,okg_cells h.2]; rfl
 | [],_ :: _,h=>h.elim
 | _ :: _,[],h=>h.elim
theorem okg_noW{w:World}{A:Nat→Prop}{t:TypeId}{fr:Nat×Nat}{l:List GF}{vs:List Value}(hn:∀ g,g∈l→g.int=false)(h:okg l vs w A):NoW (.cells vs.toArray t fr):=by
 intro cs T fr e i k x hc
 cases e
 have:∀(l:List GF) (vs:List Value) (i:Nat),(∀ g,g∈l→g.int=false)→okg l vs w A→vs[i]?≠some (.int k x):=by
  intro l
  induction l with
  | nil=>intro vs i _ h; cases vs with
   | nil=>simp
   | cons=>exact h.elim
  | cons g l ih=>intro vs i hn h; cases vs with
   | nil=>exact h.elim
   | cons v vs =>
    cases i with
    | zero=>simpa using g.noint (hn g (by simp)) v w A h.1 k x
    | succ i=>simpa using ih vs i (fun g hg=>hn g (by simp[hg])) h.2
 exact this l vs i hn h (by simpa using hc)
theorem wpListIn_store_row{F:Fence}{n:Nat}{P:Program}{ops:Array Oper}{rest:List Oper}{o:Oper}{a:Act}{w:World}{Q:Exit→Act→World→Prop}(hgd:o.guard=none)(ty:TypeId)(x y:Operand)(ho:o.op=.store ty x y)
  (g:Nat) (cells:Array Value) (hx:a.eval x=.pointer (some ⟨g,0,none⟩)) (hy:a.eval y=.agg cells)
  (t:TypeId) (old:Array Value) (hg:w.heap[g]?=some (.cells old t (0,0))) (hi:(P.info? ty).map (·.size)=some cells.size)
  (hold:old.size=cells.size) (h1:cells.all (·.oneCell')=true)
  (h:wpListIn F n P ops Q rest (a.put o.dst undef) (w.setRow g cells)):wpListIn F n P ops Q (o :: rest) a w :=
 wpListIn_plain hgd fun K hK=>by
  refine⟨fun f hf=>(by simp only[Oper.about,ho] at hf; cases hf),?_⟩
  rw[Oper.semAt_plain F _ _ (fun c=>by rw[ho]; exact nofun)]
  unfold execOp
  simp only[ho,hx,hy,Instr.storeAt,Instr.sureAddr,Sem.run_bind,Sem.run_pure,Result.andThen_ok,run_storeVar_row w g t ty old cells hg hi hold h1]
  exact hK _ _ h
def zMob:Array Value:=#[.bool false,.string { data:=#[] },.bool false,.string { data:=#[] },.bool false,.string { data:=#[] },.bool false,.string { data:=#[] },.bool false,.string { data:=#[] },.bool false,.string { data:=#[] },.bool false,.string { data:=#[] },.bool false,.string { data:=#[] },.bool false,.string { data:=#[] },.bool false,.string { data:=#[] },.bool false,.string { data:=#[] },.bool false,.string { data:=#[] },.bool false,.string { data:=#[] },.bool false,.string { data:=#[] },.bool false,.string { data:=#[] },.bool false,.string { data:=#[] },.bool false]
theorem zMob_cells:zMob.all (·.oneCell')=true:=by unfold zMob; rw[List.all_toArray]; rfl
def AW(A:Nat→Prop)(x B:Nat)(W:World)(k:Nat):Prop:=A k∨k=x∨(B≤k∧∃ o,W.heap[k]?=some o∧o.isCells=false)
theorem AW.lt{A:Nat→Prop}{x B:Nat}{W:World}(hA:∀ n,A n→n<W.heap.size)(hx:x<W.heap.size){k:Nat}(h:AW A x B W k):k<W.heap.size:=by
 rcases h with h|rfl|⟨_,o,h,_⟩
 ·exact hA k h
 ·exact hx
 ·exact(Array.getElem?_eq_some_iff.1 h).1
theorem AW.rcv{A:Nat→Prop}{x B:Nat}{W:World}(hA:Rcv A W){vs:List Value}{t:TypeId}(hx:W.heap[x]?=some (.cells vs.toArray t (0,0)))(hn:NoW (.cells vs.toArray t (0,0))):Rcv (AW A x B W) W:=by
 intro k h
 rcases h with h|rfl|⟨_,o,h,ho⟩
 ·exact hA k h
 ·exact⟨_,hx,hn⟩
 ·refine⟨o,h,?_⟩
  intro cs T fr e
  subst e
  cases ho
theorem AW.grow{A:Nat→Prop}{x B:Nat}{W W':World}{row:Option Nat}(hg:W.grownBy W' row)(hr:∀ r,row=some r→B≤r∧∃ o:Obj,W.heap[r]?=some o∧o.isCells=false)(b:Nat)(hb:b<W.heap.size)(h:¬AW A x B W b):W'.heap[b]?=W.heap[b]?∧¬AW A x B W' b:=by
 have e:W'.heap[b]?=W.heap[b]?:=hg.block b hb (fun e=>by
  obtain⟨k1,o,k2,k3⟩:=hr b e.symm
  exact h (.inr (.inr ⟨k1,o,k2,k3⟩)))
 refine⟨e,fun k=>h ?_⟩
 rcases k with k|k|⟨k1,o,k2,k3⟩
 ·exact .inl k
 ·exact .inr (.inl k)
 ·exact .inr (.inr ⟨k1,o,e▸k2,k3⟩)
theorem results_two{P:Program}{fn:Func}{tmps:Array Value}{w:World}{r1 r2:ResultVar}{v1 v2:Value}(hr:fn.results=#[r1,r2])(h1:(resV tmps r1).run P w=.ok v1 w)(h2:(resV tmps r2).run P w=.ok v2 w):(results fn tmps).run P w=.ok (.tuple #[v1,v2]) w:=by
 have e:((#[r1,r2]:Array ResultVar).mapM (resV tmps)).run P w=.ok #[v1,v2] w:=by
  rw[Array.mapM_eq_mapM_toList]
  simp only[map_eq_pure_bind,List.mapM_cons,List.mapM_nil,Sem.run_bind,h1,h2,Result.andThen_ok,Sem.run_pure]
 rw[results_eq,Sem.run_bind,hr,e]
 rfl
theorem load_one{P:Program}{w:World}{t:TypeId}{d:TypeDesc}{p:Addr}{v:Value}(hd:P.underlying t=some d)(hg:isAggD d=false)(hc:w.cell? p=some v):(loadVar t p).run P w=.ok v w:=by
 simp[loadVar,run_isAgg hd,hg,hc]
theorem compose_end{R:Ending→World→Prop}{tmps:Array Value}{D m:Nat}{w:World}{cs:Array Value}{z:Int}(t2:tmps.getD 2 undef=.pointer (some ⟨m,0,none⟩))(t3:tmps.getD 3 undef=.pointer (some ⟨m+1,0,none⟩))(hD:w.heap[D]?=some (.deferred (some [])))
  (h2:w.heap[m]?=some (.cells cs 29 (0,0))) (h3:w.heap[m+1]?=some (.cells #[.int .i64 z] 31 (0,0))) (hz:cs.size=33) (n2:m≠D) (n3:m+1≠D)
  (hR:R (.returned (.tuple #[.agg cs,.int .i64 z])) (w.putObj D (.deferred none))):bodyPostM Fence.wide 3 Tryz.prog Tryz.f9 R .ret { tmps:=tmps,defers:=[{ target:=.collected D,args:=#[] }] } w:=by
 have i33:((Tryz.prog).info? 29).map (·.size)=some 33:=by kernel_rfl
 have g2:(w.putObj D (.deferred none)).heap[m]?=some (.cells cs 29 (0,0)):=(World.putObj_heap_other n2).trans h2
 have g3:(w.putObj D (.deferred none)).heap[m+1]?=some (.cells #[.int .i64 z] 31 (0,0)):=(World.putObj_heap_other n3).trans h3
 refine leave_marks (v:=.tuple #[.agg cs,.int .i64 z]) hD (results_two Tryz.results9 ?_ ?_) hR
 ·simp only[resV,t2,asAddr,Sem.run_bind,Sem.run_pure,Result.andThen_ok]
  exact run_loadVar_row _ _ _ _ _ _ _ g2 Tryz.underlying29 rfl (by rw[i33,hz])
 ·simp only[resV,t3,asAddr,Sem.run_bind,Sem.run_pure,Result.andThen_ok]
  exact load_one Tryz.underlying31 rfl (by unfold World.cell?; simp only[g3]; rfl)
set_option maxRecDepth 100000 in
theorem compose2(gr R:Nat→List GF)(ur:Nat→List Value)(X O:List Nat→List GF)(e:List Nat→Int)(lx:∀ pre,(X pre).length=9)(lr:∀ j,(R j).length=9)(lo:∀ pre,(O pre).length=33)(l6:∀ j,(gr j).length=33)(he1:e [1]=0)(hn:∀ pre g,g∈X pre→g.int=false)
  (hfr:∀ pre vs W W' A,okg (O pre) vs W A→okg (O pre) vs W' A)
  (hcl:∀ pre vs W A,okg (X pre) vs W A→okg (X pre) vs W (fun k=>A k∨∃ o,W.heap[k]?=some o∧o.isCells=false))
  (hS:SpecC Tryz.prog true 26 [] (.r (.row (X []))))
  (hO:∀ j,SpecC Tryz.prog true 21 [.row (gr j)] (.tup [.row (R j),.c (gl (.bool true))]))
  (hX:∀ pre j,pre.length<2→SpecC Tryz.prog true 28 [.row (R j),.row (X pre)] (.r (.row (X (pre++[j])))))
  (hT:∀ pre,pre.length≤2→SpecC Tryz.prog true 23 [.row (X pre)] (.tup [.row (O pre),.c (gx (.int .i64 (e pre)))]))
  (hC:∀ j,SpecC Tryz.prog true 25 [.row (gr j)] (.r (.c (gl (.bool false)))))
  (w:World) (A:Nat→Prop) (hR:Rcv A w) (hA:∀ n,A n→n<w.heap.size) (b off cap:Nat) (hu:∀ j,okg (gr j) (ur j) w A)
  (hcs:∀ W',Below w.heap.size w W'→∀ j,j<2→(loadVar 29 ⟨b,off+j*33,none⟩).run Tryz.prog W'=.ok (.agg (ur j).toArray) W') :
  Calls Tryz.prog 9 #[.slice (some ⟨b,off,none⟩) 2 cap] w fun e' w'=>∃ v,e'=.returned (.tuple #[v,.int .i64 (e [1,0])])∧((FR.row (O [1,0])).R v w' A∨e [1,0]≠0∧v=.agg zMob)∧Below w.heap.size w w':=by
 have hck:∀ W',Below w.heap.size w W'→∀ j,j<2→Calls Tryz.prog 25 #[.agg (ur j).toArray] W' fun e w'=>e=.returned (.bool false)∧Below W'.heap.size W' w':=by
  intro W' hB j hj
  have hA':∀ n,A n→n<W'.heap.size:=fun n h=>Nat.lt_of_lt_of_le (hA n h) hB.size
  have hk:∀ b,b<w.heap.size→¬A b→W'.heap[b]?=w.heap[b]?∧¬A b:=fun b hb h=>⟨hB.block b hb,h⟩
  have:j=0∨j=1:=by omega
  rcases this with rfl|rfl
  ·exact((hC 0).ok W' A [_] (fun _=>hR.below hB) hA' ⟨⟨_,rfl,okg_keep hB.size hk (hu 0)⟩,trivial⟩).mono fun r w' ⟨v,h1,h2,h3⟩=>⟨by rw[h1]; cases h2; rfl,h3⟩
  ·exact((hC 1).ok W' A [_] (fun _=>hR.below hB) hA' ⟨⟨_,rfl,okg_keep hB.size hk (hu 1)⟩,trivial⟩).mono fun r w' ⟨v,h1,h2,h3⟩=>⟨by rw[h1]; cases h2; rfl,h3⟩
 have HH:=Lib.hid (And.intro hcs hck)
 clear hcs hck
 refine(callsIn_wide (n:=3)).1 ?_
 refine callsIn_of_wp_marks Tryz.func9 rfl trivial ?_ rfl
 refine wpIn_wide.2 ?_
 simp only[Tryz.ntmps9,List.size_toArray,List.length_cons,List.length_nil,Nat.reduceAdd,Nat.reduceSub,Array.replicate_succ,Array.replicate_zero,List.push_toArray,List.append_toArray,List.nil_append,List.cons_append]
 go_wp2_with fail
 obtain⟨wa,hwa⟩:∃ wa:World,wa=(w.alloc (Obj.cells (zMob) 29)).alloc (Obj.cells #[Value.int IntKind.i64 0] 31):=⟨_,rfl⟩
 have hza:wa.heap.size=w.heap.size+2:=by rw[hwa]; simp
 have hba:Below w.heap.size w wa:=by rw[hwa]; exact(br.alloc (Nat.le_refl _) _).alloc (by simp) _
 unfold zMob at hwa
 rw[←hwa]
 have hr2:wa.heap[w.heap.size]?=some (.cells zMob 29 (0,0)):=by
  rw[hwa]
  exact(((Below.refl _ (w.alloc (Obj.cells (zMob) 29))).alloc (Nat.le_refl _) _).block w.heap.size (by simp)).trans (World.alloc_heap_new w _)
 have hr3:wa.heap[w.heap.size+1]?=some (.cells #[.int .i64 0] 31 (0,0)):=by
  rw[hwa]
  have:=World.alloc_heap_new (w.alloc (Obj.cells (zMob) 29)) (Obj.cells #[Value.int IntKind.i64 0] 31 (0,0))
  rw[show(w.alloc (Obj.cells (zMob) 29)).heap.size=w.heap.size+1 by simp] at this
  exact this
 have hmo:∀{W},Below wa.heap.size wa W→Below w.heap.size w W:=fun h=>hba.trans (h.mono hba.size)
 refine(contains_none (fun j=>.agg (ur j).toArray) 25 b off 2 cap (by decide) wa (hC 0).ent (fun W' h=>HH.out.1 W' (hmo h)) (fun W' h=>HH.out.2 W' (hmo h))).mono ?_
 rintro e1 wb ⟨rfl,hbb⟩
 have hbw:=hmo hbb
 go_wp2_with fail
 refine(hS.ok wb A [] (fun _=>hR.below hbw) (fun n h=>Nat.lt_of_lt_of_le (hA n h) hbw.size) trivial).mono ?_
 rintro e1 wc ⟨v,rfl,⟨vs0,rfl,hs0⟩,hbc⟩
 have hwc:=hbw.trans (hbc.mono hbw.size)
 have i9:((Tryz.prog).info? 63).map (·.size)=some 9:=by kernel_rfl
 have z0:vs0.toArray.size=9:=by rw[List.size_toArray,okg_size hs0,lx]
 have c0:vs0.toArray.all (·.oneCell')=true:=by rw[List.all_toArray]; exact okg_cells hs0
 have hnew:=World.alloc_heap_new wc (Obj.cells #[Value.pointer none,Value.pointer none,Value.pointer none,Value.pointer none,Value.pointer none,Value.pointer none,Value.pointer none,Value.pointer none,Value.bool false] 63 (0,0))
 go_wp2_with (refine wpList_store_row rfl 63 _ _ rfl wc.heap.size vs0.toArray (by rfl) (by rfl) 63 _ hnew (by rw[i9,z0]) (by rw[z0]; rfl) c0 ?_)
 obtain⟨wd,hwd⟩:∃ wd:World,wd=(wc.alloc (Obj.cells #[Value.pointer none,Value.pointer none,Value.pointer none,Value.pointer none,Value.pointer none,Value.pointer none,Value.pointer none,Value.pointer none,Value.bool false] 63)).setRow wc.heap.size vs0.toArray:=⟨_,rfl⟩
 have hzd:wd.heap.size=wc.heap.size+1:=by rw[hwd]; simp[World.setRow]
 have hd4:wd.heap[wc.heap.size]?=some (.cells vs0.toArray 63 (0,0)):=by rw[hwd]; exact setRow_heap _ _ _ _ _ _ hnew
 have hcd:Below wc.heap.size wc wd:=by
  rw[hwd]
  exact(br.alloc (Nat.le_refl _) _).trans ⟨rfl,rfl,rfl,by simp[World.setRow],fun k hk=>setRow_other _ _ _ _ (by omega)⟩
 rw[←hwd]
 refine(backward_any _ _ _ _).mono ?_
 rintro e1 we ⟨rfl,hwe⟩
 have hze:we.heap.size=wc.heap.size+2:=by rw[hwe]; simp[hzd]
 have hde:Below wd.heap.size wd we:=by rw[hwe]; exact br.alloc (Nat.le_refl _) _
 have he4:we.heap[wc.heap.size]?=some (.cells vs0.toArray 63 (0,0)):=(hde.block _ (by omega)).trans hd4
 have he5:we.cell? ⟨wd.heap.size,0,none⟩=some (.slice (some ⟨b,off,none⟩) 2 cap):=by rw[hwe]; simp[go_sem]
 rw[hzd] at he5
 clear hwe hwd hwa
 go_wp2_with fail
 have hwe2:Below w.heap.size w we:=(hwc.trans (hcd.mono hwc.size)).trans (hde.mono (by have:=hwc.size; omega))
 refine wpIn_wide.1 (wpIn_rangeFunc_ownH (α:=Nat) (n:=3) (w0:=we) (gf:=66) (lb:=#[.pointer (some ⟨(wc.heap.size+1),0,none⟩)]) rfl (by decide) rfl (fence_wide_fn _) (enters_of Tryz.func66 (by kernel_rfl) rfl)
  (backward_stops (fun j=>.agg (ur j).toArray) Fence.wide 2 trivial rfl (by decide) (wc.heap.size+1) b off 2 cap (by decide) (by decide) (BelowM (fun k=>k=wc.heap.size) we.heap.size) (fun h k=>h.trans k) (fun W=>BelowM.refl _ _ W) we (fun h=>BelowM.of h (Nat.le_refl _)) ?hc ?hcs)
  (fun h k=>h.trans k) ?hKb br (fun _=>rfl)
  (fun pre W=>∃(vs:List Value),W.heap[wc.heap.size]?=some (.cells vs.toArray 63 (0,0))∧okg (X pre) vs W (AW A wc.heap.size we.heap.size W)∧BelowM (fun k=>k=wc.heap.size) we.heap.size we W)
  (fun c pre W=>c=.ret∧(e pre≠0∧pre≠[])∧W.heap[w.heap.size]?=some (.cells zMob 29 (0,0))∧W.heap[w.heap.size+1]?=some (.cells #[.int .i64 (e pre)] 31 (0,0))∧Below w.heap.size w W)
  ?hI ?hIx ?h0
  (fun x a' W=>∃ b6,we.heap.size≤b6∧W.heap[b6]?=some (.cells (ur x).toArray 29 (0,0))∧a'={ tmps:=#[.slice (some ⟨b,off,none⟩) 2 cap,undef,.pointer (some ⟨w.heap.size,0,none⟩),.pointer (some ⟨w.heap.size+1,0,none⟩),.pointer (some ⟨wc.heap.size,0,none⟩),undef,.pointer (some ⟨b6,0,none⟩),undef,undef,undef,undef,.slice (some ⟨b,off,none⟩) 2 cap,.int .i64 2,.bool false,undef,.slice (some ⟨b,off,none⟩) 2 cap,.bool false,undef,.agg vs0.toArray,.slice (some ⟨b,off,none⟩) 2 cap,.func (.func 66) #[] #[.pointer (some ⟨(wc.heap.size+1),0,none⟩)],.int .i64 (x:Nat),.agg (ur x).toArray,undef,undef,undef,undef,undef,undef,undef,undef,undef,undef,undef,undef,undef,undef,undef,undef,undef,undef,undef,undef,undef],defers:=[] })
  ?hAx ?assign ?body ?done ?stop)
 case hc=>exact fun W h=>(World.cell?_of_block (w:=we) (h.block (wc.heap.size+1) (by omega) (by omega))).trans he5
 case hcs=>exact fun W h=>HH.out.1 W ⟨h.os.trans hwe2.os,h.tape.trans hwe2.tape,h.output.trans hwe2.output,Nat.le_trans hwe2.size h.size,fun k hk=>(h.block k (by have:=hwc.size; omega) (by have:=hwc.size; omega)).trans (hwe2.block k hk)⟩
 case hKb =>
  intro W l o o' hl ho h1 h2
  exact⟨rfl,rfl,rfl,by simp[World.putObj],fun k hk _=>World.putObj_heap_other (by omega)⟩
 case hI =>
  rintro pre W W' row ⟨vs,hv,hok,hB⟩ hg hr
  have hx:W'.heap[wc.heap.size]?=W.heap[wc.heap.size]?:=hg.block _ (Array.getElem?_eq_some_iff.1 hv).1 (fun e=>by
   obtain⟨k1,o,k2,k3⟩:=hr _ e.symm
   omega)
  refine⟨vs,hx.trans hv,okg_keep hg.size (AW.grow hg hr) hok,?_⟩
  refine hB.trans ⟨hg.os,hg.tape,hg.output,hg.size,fun k hk _=>hg.block k (Nat.lt_of_lt_of_le hk hB.size) (fun e=>?_)⟩
  have:=(hr _ e.symm).1
  omega
 case hIx =>
  rintro c pre W W' row ⟨h1,h2,h3,h4,h5⟩ hg hr
  have hw:=hwe2.size
  refine⟨h1,h2,(hg.block _ (Array.getElem?_eq_some_iff.1 h3).1 (fun e=>?_)).trans h3,(hg.block _ (Array.getElem?_eq_some_iff.1 h4).1 (fun e=>?_)).trans h4,h5.trans ⟨hg.os,hg.tape,hg.output,hg.size,fun k hk=>hg.block k (Nat.lt_of_lt_of_le hk h5.size) (fun e=>?_)⟩⟩
  ·have:=(hr _ e.symm).1; have:=hwc.size; omega
  ·have:=(hr _ e.symm).1; have:=hwc.size; have:=hbw.size; have:=hbb.size; omega
  ·have:=(hr _ e.symm).1; omega
 case h0 =>
  refine⟨vs0,he4,?_,BelowM.refl _ _ _⟩
  refine okg_keep (by omega) (fun k hk hn=>⟨(hde.block k (by omega)).trans (hcd.block k hk),fun h=>?_⟩) hs0
  rcases h with h|h|⟨h,_⟩
  ·exact hn h
  ·omega
  ·omega
 case hAx =>
  rintro x a' u W W' row ⟨b6,h1,h2,h3⟩ hg hr
  exact⟨b6,h1,(hg.block _ (Array.getElem?_eq_some_iff.1 h2).1 (fun e=>by
   obtain⟨_,o,k2,k3⟩:=hr _ e.symm
   rw[h2] at k2
   cases k2
   cases k3)).trans h2,h3⟩
 case assign =>
  intro l pre x W K hI hK
  have z33:(ur x).toArray.size=33:=by rw[List.size_toArray,okg_size (hu x),l6]
  have c33:(ur x).toArray.all (·.oneCell')=true:=by rw[List.all_toArray]; exact okg_cells (hu x)
  have i33:((Tryz.prog).info? 29).map (·.size)=some 33:=by kernel_rfl
  have hnw:=World.alloc_heap_new W (Obj.cells zMob 29 (0,0))
  gi_wp2_with (refine wpListIn_store_row rfl 29 _ _ rfl W.heap.size _ (by rfl) (by rfl) 29 _ hnw (by rw[i33,z33]) (by rw[z33]; rfl) c33 ?_)
  obtain⟨vs,hv,hok,hB⟩:=hI
  generalize hW':(W.alloc _).setRow W.heap.size (ur x).toArray=W'
  have hWW:Below W.heap.size W W':=by
   rw[←hW']
   exact(br.alloc (Nat.le_refl _) _).trans ⟨rfl,rfl,rfl,by simp[World.setRow],fun k hk=>setRow_other _ _ _ _ (by omega)⟩
  have hnw':W'.heap[W.heap.size]?=some (.cells (ur x).toArray 29 (0,0)):=by rw[←hW']; exact setRow_heap _ _ _ _ _ _ hnw
  have hk:∀ k,k<W.heap.size→¬AW A wc.heap.size we.heap.size W k→W'.heap[k]?=W.heap[k]?∧¬AW A wc.heap.size we.heap.size W' k:=fun k hk h=>by
   have e:=hWW.block k hk
   refine⟨e,fun q=>h ?_⟩
   rcases q with q|q|⟨q1,o,q2,q3⟩
   ·exact .inl q
   ·exact .inr (.inl q)
   ·exact .inr (.inr ⟨q1,o,e▸q2,q3⟩)
  have hM:BelowM (fun k=>k=wc.heap.size) we.heap.size W W':=BelowM.of hWW hB.size
  exact hK _ _ ⟨hWW.size,fun k o _ h _=>(hWW.block k (Array.getElem?_eq_some_iff.1 h).1).trans h⟩ hM ⟨vs,(hWW.block _ (Array.getElem?_eq_some_iff.1 hv).1).trans hv,okg_keep hWW.size hk hok,hB.trans hM⟩ ⟨W.heap.size,hB.size,hnw',rfl⟩
 case body =>
  rintro l pre x a' W hl ⟨rl,hrl⟩ ⟨vs,hv,hok,hB⟩ ⟨b6,hb6,h6,rfl⟩ hlen
  have i33:((Tryz.prog).info? 29).map (·.size)=some 33:=by kernel_rfl
  have z33:(ur x).toArray.size=33:=by rw[List.size_toArray,okg_size (hu x),l6]
  have l24:(loadVar 29 ⟨b6,0,none⟩).run Tryz.prog W=.ok (.agg (ur x).toArray) W:=run_loadVar_row W b6 _ _ _ _ _ h6 Tryz.underlying29 rfl (by rw[i33,z33])
  gi_wp2_with (refine wpListIn_load_any rfl 29 _ rfl ⟨b6,0,none⟩ _ (by rfl) l24 ?_)
  have hwW:Below w.heap.size w W:=⟨hB.os.trans hwe2.os,hB.tape.trans hwe2.tape,hB.output.trans hwe2.output,Nat.le_trans hwe2.size hB.size,fun k hk=>(hB.block k (by have:=hwc.size; omega) (by have:=hwc.size; omega)).trans (hwe2.block k hk)⟩
  have hx4:wc.heap.size<W.heap.size:=by have:=hB.size; omega
  have hA1:∀ n,AW A wc.heap.size we.heap.size W n→n<W.heap.size:=fun n h=>AW.lt (fun n h=>Nat.lt_of_lt_of_le (hA n h) hwW.size) hx4 h
  have hR1:Rcv (AW A wc.heap.size we.heap.size W) W:=AW.rcv (hR.below hwW) hv (okg_noW (hn pre) hok)
  have hg1:okg (gr x) (ur x) W (AW A wc.heap.size we.heap.size W):=okg_keep hwW.size (fun k hk h=>⟨hwW.block k hk,fun q=>by
   rcases q with q|q|⟨q,_⟩
   ·exact h q
   ·have:=hwc.size; omega
   ·have:=hwe2.size; omega⟩) (hu x)
  refine⟨trivial,?_⟩
  refine(CallsIn.inRound l (callsIn_wide.2 ((hO x).ok W _ [_] (fun _=>hR1) hA1 ⟨⟨_,rfl,hg1⟩,trivial⟩))).mono ?_
  rintro r1 W1 ⟨_,rfl,⟨us,rfl,hus⟩,hb1⟩
  obtain⟨v1,v2,rfl,⟨vr,rfl,hvr⟩,hv2⟩:∃ v1 v2,us=[v1,v2]∧(FR.row (R x)).R v1 W1 (AW A wc.heap.size we.heap.size W)∧v2=.bool true:=by
   match us,hus with
   | [v1,v2],h=>exact⟨v1,v2,rfl,h.1,h.2.1⟩
  subst hv2
  have i9:((Tryz.prog).info? 63).map (·.size)=some 9:=by kernel_rfl
  have z9:vr.toArray.size=9:=by rw[List.size_toArray,okg_size hvr,lr]
  have c9:vr.toArray.all (·.oneCell')=true:=by rw[List.all_toArray]; exact okg_cells hvr
  have hn7:=World.alloc_heap_new W1 (Obj.cells #[Value.pointer none,Value.pointer none,Value.pointer none,Value.pointer none,Value.pointer none,Value.pointer none,Value.pointer none,Value.pointer none,Value.bool false] 63 (0,0))
  obtain⟨W2,hW2⟩:∃ W2:World,W2=(W1.alloc (Obj.cells #[Value.pointer none,Value.pointer none,Value.pointer none,Value.pointer none,Value.pointer none,Value.pointer none,Value.pointer none,Value.pointer none,Value.bool false] 63)).setRow W1.heap.size vr.toArray:=⟨_,rfl⟩
  have h12:Below W1.heap.size W1 W2:=by
   rw[hW2]
   exact(br.alloc (Nat.le_refl _) _).trans ⟨rfl,rfl,rfl,by simp[World.setRow],fun k hk=>setRow_other _ _ _ _ (by omega)⟩
  have h27:W2.heap[W1.heap.size]?=some (.cells vr.toArray 63 (0,0)):=by rw[hW2]; exact setRow_heap _ _ _ _ _ _ hn7
  have hs1:=hb1.size
  have h24:W2.heap[wc.heap.size]?=some (.cells vs.toArray 63 (0,0)):=(h12.block _ (by omega)).trans ((hb1.block _ hx4).trans hv)
  have zx:vs.toArray.size=9:=by rw[List.size_toArray,okg_size hok,lx]
  have l28:(loadVar 63 ⟨W1.heap.size,0,none⟩).run Tryz.prog W2=.ok (.agg vr.toArray) W2:=run_loadVar_row W2 _ _ _ _ _ _ h27 Tryz.underlying63 rfl (by rw[i9,z9])
  have l29:(loadVar 63 ⟨wc.heap.size,0,none⟩).run Tryz.prog W2=.ok (.agg vs.toArray) W2:=run_loadVar_row W2 _ _ _ _ _ _ h24 Tryz.underlying63 rfl (by rw[i9,zx])
  rw[hW2] at l28 l29
  gi_wp2_with (first
   | (refine wpListIn_store_row rfl 63 _ _ rfl W1.heap.size vr.toArray (by rfl) (by rfl) 63 _ hn7 (by rw[i9,z9]) (by rw[z9]; rfl) c9 ?_)
   | (refine wpListIn_load_any rfl 63 _ rfl ⟨W1.heap.size,0,none⟩ _ (by rfl) l28 ?_)
   | (refine wpListIn_load_any rfl 63 _ rfl ⟨wc.heap.size,0,none⟩ _ (by rfl) l29 ?_))
  rw[←hW2]
  have h02:Below W.heap.size W W2:=hb1.trans (h12.mono hs1)
  have hR2:Rcv (AW A wc.heap.size we.heap.size W) W2:=hR1.below h02
  have hA2:∀ n,AW A wc.heap.size we.heap.size W n→n<W2.heap.size:=fun n h=>Nat.lt_of_lt_of_le (hA1 n h) h02.size
  have hv22:okg (R x) vr W2 (AW A wc.heap.size we.heap.size W):=okg_keep h12.size (fun k hk h=>⟨h12.block k hk,h⟩) hvr
  have hok2:okg (X pre) vs W2 (AW A wc.heap.size we.heap.size W):=okg_keep h02.size (fun k hk h=>⟨h02.block k hk,h⟩) hok
  refine⟨trivial,?_⟩
  refine(CallsIn.inRound l (callsIn_wide.2 ((hX pre x hlen).ok W2 _ [_,_] (fun _=>hR2) hA2 ⟨⟨_,rfl,hv22⟩,⟨_,rfl,hok2⟩,trivial⟩))).mono ?_
  rintro r3 W3 ⟨_,rfl,⟨vs3,rfl,hv3⟩,hb3⟩
  have hs12:=h12.size
  have hs3:=hb3.size
  have h03:Below W.heap.size W W3:=h02.trans (hb3.mono h02.size)
  have z3:vs3.toArray.size=9:=by rw[List.size_toArray,okg_size hv3,lx]
  have c3:vs3.toArray.all (·.oneCell')=true:=by rw[List.all_toArray]; exact okg_cells hv3
  have h34:W3.heap[wc.heap.size]?=some (.cells vs.toArray 63 (0,0)):=(h03.block _ hx4).trans hv
  obtain⟨W4,hW4⟩:∃ W4:World,W4=W3.setRow wc.heap.size vs3.toArray:=⟨_,rfl⟩
  have h44:W4.heap[wc.heap.size]?=some (.cells vs3.toArray 63 (0,0)):=by rw[hW4]; exact setRow_heap _ _ _ _ _ _ h34
  have l32:(loadVar 63 ⟨wc.heap.size,0,none⟩).run Tryz.prog W4=.ok (.agg vs3.toArray) W4:=run_loadVar_row W4 _ _ _ _ _ _ h44 Tryz.underlying63 rfl (by rw[i9,z3])
  rw[hW4] at l32
  gi_wp2_with (first
   | (refine wpListIn_store_row rfl 63 _ _ rfl wc.heap.size vs3.toArray (by rfl) (by rfl) 63 _ h34 (by rw[i9,z3]) (by rw[z3,zx]) c3 ?_)
   | (refine wpListIn_load_any rfl 63 _ rfl ⟨wc.heap.size,0,none⟩ _ (by rfl) l32 ?_))
  rw[←hW4]
  have hR4:Rcv (AW A wc.heap.size we.heap.size W) W4:=by
   intro k hk
   by_cases e:k=wc.heap.size
   ·subst e; exact⟨_,h44,okg_noW (hn (pre++[x])) hv3⟩
   ·obtain⟨z,hz,hnz⟩:=(hR2.below hb3) k hk
    exact⟨z,by rw[hW4,setRow_other _ _ _ _ e]; exact hz,hnz⟩
  have hs4:W4.heap.size=W3.heap.size:=by rw[hW4]; simp[World.setRow]
  have hA4:∀ n,AW A wc.heap.size we.heap.size W n→n<W4.heap.size:=fun n h=>by have:=hA2 n h; omega
  have hv4:okg (X (pre++[x])) vs3 W4 (AW A wc.heap.size we.heap.size W):=okg_keep (by omega) (fun k hk h=>⟨by rw[hW4,setRow_other _ _ _ _ (fun e=>h (.inr (.inl e)))],h⟩) hv3
  have hl2:(pre++[x]).length≤2:=by simp; omega
  refine⟨trivial,?_⟩
  refine(CallsIn.inRound l (callsIn_wide.2 ((hT (pre++[x]) hl2).ok W4 _ [_] (fun _=>hR4) hA4 ⟨⟨_,rfl,hv4⟩,trivial⟩))).mono ?_
  rintro r5 W5 ⟨_,rfl,⟨us5,rfl,hus5⟩,hb5⟩
  obtain⟨v5,v6,rfl,⟨vo,rfl,hvo⟩,hv6⟩:∃ v1 v2,us5=[v1,v2]∧(FR.row (O (pre++[x]))).R v1 W5 (AW A wc.heap.size we.heap.size W)∧v2=.int .i64 (e (pre++[x])):=by
   match us5,hus5 with
   | [v1,v2],h=>exact⟨v1,v2,rfl,h.1,h.2.1⟩
  subst hv6
  have hs5:=hb5.size
  have zo:vo.toArray.size=33:=by rw[List.size_toArray,okg_size hvo,lo]
  have co:vo.toArray.all (·.oneCell')=true:=by rw[List.all_toArray]; exact okg_cells hvo
  have hn9:=World.alloc_heap_new W5 (Obj.cells zMob 29 (0,0))
  have hx5:W5.heap[wc.heap.size]?=some (.cells vs3.toArray 63 (0,0)):=(hb5.block _ (by omega)).trans h44
  have hM5:BelowM (fun k=>k=wc.heap.size) we.heap.size we W5:=by
   refine(hB.trans (BelowM.of h03 hB.size)).trans ?_
   refine BelowM.trans ?_ (BelowM.of hb5 (by have:=hB.size; omega))
   rw[hW4]
   exact⟨rfl,rfl,rfl,by simp[World.setRow],fun k hk hne=>setRow_other _ _ _ _ hne⟩
  have hv55:okg (X (pre++[x])) vs3 W5 (AW A wc.heap.size we.heap.size W):=okg_keep hs5 (fun k hk h=>⟨hb5.block k hk,h⟩) hv4
  have hK45:KeepsFrom we.heap.size W W5:=by
   refine⟨by omega,fun k o hk ho hc=>?_⟩
   have hkW:=(Array.getElem?_eq_some_iff.1 ho).1
   rw[hb5.block k (by omega),hW4,setRow_other _ _ _ _ (by omega),h03.block k hkW]
   exact ho
  generalize hz:e (pre++[x])=z at *
  have h6W:∃ W6:World,W6=(W5.alloc (Obj.cells zMob 29)).setRow W5.heap.size vo.toArray:=⟨_,rfl⟩
  obtain⟨W6,hW6⟩:=h6W
  have h56:Below W5.heap.size W5 W6:=by
   rw[hW6]
   exact(br.alloc (Nat.le_refl _) _).trans ⟨rfl,rfl,rfl,by simp[World.setRow],fun k hk=>setRow_other _ _ _ _ (by omega)⟩
  have hs6:=h56.size
  have hBs:=hB.size
  have hx6:W6.heap[wc.heap.size]?=some (.cells vs3.toArray 63 (0,0)):=(h56.block _ (by omega)).trans hx5
  have hM6:BelowM (fun k=>k=wc.heap.size) we.heap.size we W6:=hM5.trans (BelowM.of h56 (by omega))
  have hK6:KeepsFrom we.heap.size W W6:=by
   refine⟨by omega,fun k o hk ho hc=>?_⟩
   exact(h56.block k (Array.getElem?_eq_some_iff.1 (hK45.same k o hk ho hc)).1).trans (hK45.same k o hk ho hc)
  have hK6':BelowM (fun k=>k=wc.heap.size) we.heap.size W W6:=by
   refine((BelowM.of h03 hB.size).trans ?_).trans ((BelowM.of hb5 (by omega)).trans (BelowM.of h56 (by omega)))
   rw[hW4]
   exact⟨rfl,rfl,rfl,by simp[World.setRow],fun k hk hne=>setRow_other _ _ _ _ hne⟩
  have hv6:okg (X (pre++[x])) vs3 W6 (AW A wc.heap.size we.heap.size W6):=by
   refine okg_keep (w:=W6) (Nat.le_refl _) (fun k hk h=>⟨rfl,fun q=>h ?_⟩) (hcl _ _ _ _ (okg_keep hs6 (fun k hk h=>⟨h56.block k hk,h⟩) hv55))
   rcases q with q|q|⟨q1,o,q2,q3⟩
   ·exact .inl (.inl q)
   ·exact .inl (.inr (.inl q))
   ·exact .inr ⟨o,q2,q3⟩
  have hwb6:Below w.heap.size w W6:=⟨hM6.os.trans hwe2.os,hM6.tape.trans hwe2.tape,hM6.output.trans hwe2.output,Nat.le_trans hwe2.size hM6.size,fun k hk=>(hM6.block k (by have:=hwc.size; omega) (by have:=hwc.size; omega)).trans (hwe2.block k hk)⟩
  have hwcz:=hwc.size
  have hwaz:=hbw.size
  have hwez:=hwe2.size
  have hbz:=hbb.size
  have hcz:=hbc.size
  have old6:∀ k,k<wa.heap.size→W6.heap[k]?=wa.heap[k]?:=fun k hk=>(hM6.block k (by omega) (by omega)).trans ((hde.block k (by omega)).trans ((hcd.block k (by omega)).trans ((hbc.block k (by omega)).trans (hbb.block k hk))))
  have h62:=(old6 w.heap.size (by omega)).trans hr2
  have h63:=(old6 (w.heap.size+1) (by omega)).trans hr3
  unfold zMob at hW6
  by_cases hz0:z=0
  ·subst hz0
   gi_wp2_with (first
    | (refine wpListIn_store_row rfl 29 _ _ rfl W5.heap.size vo.toArray (by rfl) (by rfl) 29 _ hn9 (by rw[i33,zo]) (by rw[zo]; rfl) co ?_))
   rw[←hW6]
   exact⟨hK6,hK6',vs3,hx6,hv6,hM6⟩
  ·obtain⟨W7,hW7⟩:∃ W7:World,W7=W6.setRow w.heap.size zMob:=⟨_,rfl⟩
   have h73:W7.heap[w.heap.size+1]?=some (.cells #[.int .i64 0] 31 (0,0)):=by rw[hW7,setRow_other _ _ _ _ (by omega)]; exact h63
   have h72:W7.heap[w.heap.size]?=some (.cells zMob 29 (0,0)):=by rw[hW7]; exact setRow_heap _ _ _ _ _ _ h62
   have c73:W7.cell? ⟨w.heap.size+1,0,none⟩=some (.int .i64 0):=by unfold World.cell?; simp only[h73]; rfl
   have f73:W7.frozen? ⟨w.heap.size+1,0,none⟩=false:=by unfold World.frozen?; simp only[h73]; rfl
   have hd:decide (z=0)=false:=by simpa using hz0
   have h62':=h62
   rw[hW6] at h62'
   have hW7':=hW7
   rw[hW6] at hW7'
   rw[hW7'] at c73 f73
   gi_wp2_with (first
    | (refine wpListIn_store_row rfl 29 _ _ rfl W5.heap.size vo.toArray (by rfl) (by rfl) 29 _ hn9 (by rw[i33,zo]) (by rw[zo]; rfl) co ?_)
    | (refine wpListIn_store_row rfl 29 _ _ rfl w.heap.size zMob (by rfl) (by rfl) 29 _ h62' (by rw[i33]; rfl) rfl zMob_cells ?_))
   rw[←hW6,←hW7]
   obtain⟨W8,hW8⟩:∃ W8:World,W8=W7.setCell ⟨w.heap.size+1,0,none⟩ (.int .i64 z):=⟨_,rfl⟩
   have o78:∀ k,k≠w.heap.size+1→W8.heap[k]?=W7.heap[k]?:=fun k hk=>by rw[hW8]; exact heap_set _ _ _ _ _ hk
   have s78:W8.heap.size=W7.heap.size:=by rw[hW8]; simp
   have s67:W7.heap.size=W6.heap.size:=by rw[hW7]; simp[World.setRow]
   have h83:W8.heap[w.heap.size+1]?=some (.cells #[.int .i64 z] 31 (0,0)):=by
    rw[hW8]
    exact heap_setCell_same _ _ 0 _ _ _ h73
   rw[←hW8]
   refine⟨⟨by omega,fun k o hk ho hc=>?_⟩,rfl,⟨by rw[hz]; exact hz0,by simp⟩,?_,by rw[hz]; exact h83,?_⟩
   ·rw[o78 k (by omega),hW7,setRow_other _ _ _ _ (by omega)]
    exact hK6.same k o hk ho hc
   ·rw[o78 _ (by omega)]; exact h72
   ·exact hwb6.trans ((show Below w.heap.size W6 W7 from by rw[hW7]; exact⟨rfl,rfl,rfl,by simp[World.setRow],fun k hk=>setRow_other _ _ _ _ (by omega)⟩).trans (show Below w.heap.size W7 W8 from by rw[hW8]; exact below_set br (by omega) _))
 case done =>
  rintro D xs W hD hxs ⟨vs,hv,hok,hB⟩ hD2
  have e10:xs=[1,0]:=hxs
  subst e10
  have i9:((Tryz.prog).info? 63).map (·.size)=some 9:=by kernel_rfl
  have i33:((Tryz.prog).info? 29).map (·.size)=some 33:=by kernel_rfl
  have zx:vs.toArray.size=9:=by rw[List.size_toArray,okg_size hok,lx]
  have l40:(loadVar 63 ⟨wc.heap.size,0,none⟩).run Tryz.prog W=.ok (.agg vs.toArray) W:=run_loadVar_row W _ _ _ _ _ _ hv Tryz.underlying63 rfl (by rw[i9,zx])
  have hwcz:=hwc.size
  have hwaz:=hbw.size
  have hwez:=hwe2.size
  have hbz:=hbb.size
  have hcz:=hbc.size
  have hBs:=hB.size
  have hwW:Below w.heap.size w W:=⟨hB.os.trans hwe2.os,hB.tape.trans hwe2.tape,hB.output.trans hwe2.output,Nat.le_trans hwe2.size hB.size,fun k hk=>(hB.block k (by omega) (by omega)).trans (hwe2.block k hk)⟩
  have hAW:∀ n,A n→n<W.heap.size:=fun n h=>Nat.lt_of_lt_of_le (hA n h) hwW.size
  have hokA:okg (X [1,0]) vs W A:=okg_keep (Nat.le_refl _) (fun k _ h=>⟨rfl,fun q=>h (.inl q)⟩) hok
  have old:∀ k,k<wa.heap.size→W.heap[k]?=wa.heap[k]?:=fun k hk=>(hB.block k (by omega) (by omega)).trans ((hde.block k (by omega)).trans ((hcd.block k (by omega)).trans ((hbc.block k (by omega)).trans (hbb.block k hk))))
  have h2:=(old w.heap.size (by omega)).trans hr2
  have h3:=(old (w.heap.size+1) (by omega)).trans hr3
  have hT2:=(hT [1,0] (by decide)).ok W A [_] (fun _=>hR.below hwW) hAW ⟨⟨_,rfl,hokA⟩,trivial⟩
  go_wp2_with (refine wpList_load_any rfl 63 _ rfl ⟨wc.heap.size,0,none⟩ _ (by rfl) l40 ?_)
  refine hT2.mono ?_
  rintro r5 W5 ⟨_,rfl,⟨us5,rfl,hus5⟩,hb5⟩
  obtain⟨v5,v6,rfl,⟨vo,rfl,hvo⟩,hv6⟩:∃ v1 v2,us5=[v1,v2]∧(FR.row (O [1,0])).R v1 W5 A∧v2=.int .i64 (e [1,0]):=by
   match us5,hus5 with
   | [v1,v2],h=>exact⟨v1,v2,rfl,h.1,h.2.1⟩
  subst hv6
  have zo:vo.toArray.size=33:=by rw[List.size_toArray,okg_size hvo,lo]
  have co:vo.toArray.all (·.oneCell')=true:=by rw[List.all_toArray]; exact okg_cells hvo
  have h52:=(hb5.block _ (by omega)).trans h2
  have h53:=(hb5.block _ (by omega)).trans h3
  have hs5:=hb5.size
  obtain⟨W6,hW6⟩:∃ W6:World,W6=W5.setRow w.heap.size vo.toArray:=⟨_,rfl⟩
  have h62:W6.heap[w.heap.size]?=some (.cells vo.toArray 29 (0,0)):=by rw[hW6]; exact setRow_heap _ _ _ _ _ _ h52
  have h63:W6.heap[w.heap.size+1]?=some (.cells #[.int .i64 0] 31 (0,0)):=by rw[hW6,setRow_other _ _ _ _ (by omega)]; exact h53
  have c63:W6.cell? ⟨w.heap.size+1,0,none⟩=some (.int .i64 0):=by unfold World.cell?; simp only[h63]; rfl
  have f63:W6.frozen? ⟨w.heap.size+1,0,none⟩=false:=by unfold World.frozen?; simp only[h63]; rfl
  rw[hW6] at c63 f63
  generalize hz:e [1,0]=z at *
  go_wp2_with (refine wpList_store_row rfl 29 _ _ rfl w.heap.size vo.toArray (by rfl) (by rfl) 29 _ h52 (by rw[i33,zo]) (by rw[zo]; rfl) co ?_)
  rw[←hW6]
  obtain⟨W7,hW7⟩:∃ W7:World,W7=W6.setCell ⟨w.heap.size+1,0,none⟩ (.int .i64 z):=⟨_,rfl⟩
  have h72:W7.heap[w.heap.size]?=some (.cells vo.toArray 29 (0,0)):=by rw[hW7,heap_set _ _ _ _ _ (by omega)]; exact h62
  have h73:W7.heap[w.heap.size+1]?=some (.cells #[.int .i64 z] 31 (0,0)):=by rw[hW7]; exact heap_setCell_same _ _ 0 _ _ _ h63
  have hb57:Below w.heap.size W5 W7:=(show Below w.heap.size W5 W6 from by rw[hW6]; exact⟨rfl,rfl,rfl,by simp[World.setRow],fun k hk=>setRow_other _ _ _ _ (by omega)⟩).trans (show Below w.heap.size W6 W7 from by rw[hW7]; exact below_set br (by omega) _)
  have hD7:W7.heap[D]?=some (.deferred (some [])):=by
   rw[hW7,heap_set _ _ _ _ _ (by omega),hW6,setRow_other _ _ _ _ (by omega),hb5.block _ (Array.getElem?_eq_some_iff.1 hD2).1]
   exact hD2
  rw[←hW7]
  refine compose_end (m:=w.heap.size) rfl rfl hD7 h72 h73 zo (by omega) (by omega) ⟨_,by rw[hz],.inl ⟨_,rfl,?_⟩,?_⟩
  ·exact hfr _ _ _ _ _ hvo
  ·exact(hwW.trans ((hb5.mono hwW.size).trans hb57)).trans ⟨rfl,rfl,rfl,by simp[World.putObj],fun k hk=>World.putObj_heap_other (by omega)⟩
 case stop =>
  rintro D c pre W hD ⟨k,hk,hpre⟩ ⟨rfl,⟨hne,hnn⟩,h2,h3,hB⟩ hD2
  have hwcz:=hwc.size
  have hwaz:=hbw.size
  have hwez:=hwe2.size
  have hbz:=hbb.size
  have hcz:=hbc.size
  have e10:pre=[1,0]:=by
   have:k=0∨k=1∨k=2:=by omega
   rcases this with rfl|rfl|rfl
   ·exact absurd hpre hnn
   ·have e:pre=[1]:=hpre
    rw[e] at hne
    exact absurd he1 hne
   ·exact hpre
  subst e10
  refine wpIn_wide.2 (wp_ret ?_)
  refine compose_end (m:=w.heap.size) rfl rfl hD2 h2 h3 rfl (by omega) (by omega) ⟨_,rfl,.inr ⟨hne,rfl⟩,?_⟩
  exact hB.trans ⟨rfl,rfl,rfl,by simp[World.putObj],fun k hk=>World.putObj_heap_other (by omega)⟩
end Go.Proofs.YtjlhiaafnpompaaGreat
