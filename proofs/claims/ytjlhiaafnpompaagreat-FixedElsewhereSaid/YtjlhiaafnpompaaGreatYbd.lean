/- Laws for the walk. -/
import Derived.Test.YtjlhiaafnpompaaGreatYbc
set_option linter.unusedVariables false
set_option maxHeartbeats 4000000
namespace Go.Proofs.YtjlhiaafnpompaaGreat
open Go.RowKit Go.Shelf Tr
attribute [local go_sem] Oper.semAt_some
set_option maxRecDepth 100000 in
theorem compose3(gr R:Nat→List GF)(ur:Nat→List Value)(X O:List Nat→List GF)(e:List Nat→Int)(lx:∀ pre,(X pre).length=9)(lr:∀ j,(R j).length=9)(lo:∀ pre,(O pre).length=33)(l6:∀ j,(gr j).length=33)(he1:e [2]=0)(he2:e [2,1]=0)(hn:∀ pre g,g∈X pre→g.int=false)
  (hfr:∀ pre vs W W' A,okg (O pre) vs W A→okg (O pre) vs W' A)
  (hcl:∀ pre vs W A,okg (X pre) vs W A→okg (X pre) vs W (fun k=>A k∨∃ o,W.heap[k]?=some o∧o.isCells=false))
  (hS:SpecC Tryz.prog true 26 [] (.r (.row (X []))))
  (hO:∀ j,SpecC Tryz.prog true 21 [.row (gr j)] (.tup [.row (R j),.c (gl (.bool true))]))
  (hX:∀ pre j,pre.length<3→SpecC Tryz.prog true 28 [.row (R j),.row (X pre)] (.r (.row (X (pre++[j])))))
  (hT:∀ pre,pre.length≤3→SpecC Tryz.prog true 23 [.row (X pre)] (.tup [.row (O pre),.c (gx (.int .i64 (e pre)))]))
  (hC:∀ j,SpecC Tryz.prog true 25 [.row (gr j)] (.r (.c (gl (.bool false)))))
  (w:World) (A:Nat→Prop) (hR:Rcv A w) (hA:∀ n,A n→n<w.heap.size) (b off cap:Nat) (hu:∀ j,okg (gr j) (ur j) w A)
  (hcs:∀ W',Below w.heap.size w W'→∀ j,j<3→(loadVar 29 ⟨b,off+j*33,none⟩).run Tryz.prog W'=.ok (.agg (ur j).toArray) W') :
  Calls Tryz.prog 9 #[.slice (some ⟨b,off,none⟩) 3 cap] w fun e' w'=>∃ v,e'=.returned (.tuple #[v,.int .i64 (e [2,1,0])])∧((FR.row (O [2,1,0])).R v w' A∨e [2,1,0]≠0∧v=.agg zMob)∧Below w.heap.size w w':=by
 have hck:∀ W',Below w.heap.size w W'→∀ j,j<3→Calls Tryz.prog 25 #[.agg (ur j).toArray] W' fun e w'=>e=.returned (.bool false)∧Below W'.heap.size W' w':=by
  intro W' hB j hj
  have hA':∀ n,A n→n<W'.heap.size:=fun n h=>Nat.lt_of_lt_of_le (hA n h) hB.size
  have hk:∀ b,b<w.heap.size→¬A b→W'.heap[b]?=w.heap[b]?∧¬A b:=fun b hb h=>⟨hB.block b hb,h⟩
  exact((hC j).ok W' A [_] (fun _=>hR.below hB) hA' ⟨⟨_,rfl,okg_keep hB.size hk (hu j)⟩,trivial⟩).mono fun r w' ⟨v,h1,h2,h3⟩=>⟨by rw[h1]; cases h2; rfl,h3⟩
 have HH:=Lib.hid (And.intro hcs hck)
 clear hcs hck
 refine(callsIn_wide (n:=3)).1 ?_
 refine callsIn_of_wp_marks Tryz.func9 rfl trivial ?_ rfl
 refine wpIn_wide.2 ?_
 simp only[Tryz.ntmps9,List.size_toArray,List.length_cons,List.length_nil,Nat.reduceAdd,Nat.reduceSub,Array.replicate_succ,Array.replicate_zero,List.push_toArray,List.append_toArray,List.nil_append,List.cons_append]
 go_wp2_with fail
 obtain⟨wa,hwa⟩:∃ wa:World,wa=(w.alloc (Obj.cells (zMob) 29)).alloc (Obj.cells #[Value.int IntKind.i64 0] 31):=⟨_,rfl⟩
 have hza:wa.heap.size=w.heap.size+2:=by rw[hwa]; simp
 have hba:Below w.heap.size w wa:=by rw[hwa]; exact(br.alloc (Nat.le_refl _) _).alloc (by simp) _
 unfold zMob at hwa
 rw[←hwa]
 have hr2:wa.heap[w.heap.size]?=some (.cells zMob 29 (0,0)):=by
  rw[hwa]
  exact(((Below.refl _ (w.alloc (Obj.cells (zMob) 29))).alloc (Nat.le_refl _) _).block w.heap.size (by simp)).trans (World.alloc_heap_new w _)
 have hr3:wa.heap[w.heap.size+1]?=some (.cells #[.int .i64 0] 31 (0,0)):=by
  rw[hwa]
  have:=World.alloc_heap_new (w.alloc (Obj.cells (zMob) 29)) (Obj.cells #[Value.int IntKind.i64 0] 31 (0,0))
  rw[show(w.alloc (Obj.cells (zMob) 29)).heap.size=w.heap.size+1 by simp] at this
  exact this
 have hmo:∀{W},Below wa.heap.size wa W→Below w.heap.size w W:=fun h=>hba.trans (h.mono hba.size)
 refine(contains_none (fun j=>.agg (ur j).toArray) 25 b off 3 cap (by decide) wa (hC 0).ent (fun W' h=>HH.out.1 W' (hmo h)) (fun W' h=>HH.out.2 W' (hmo h))).mono ?_
 rintro e1 wb ⟨rfl,hbb⟩
 have hbw:=hmo hbb
 go_wp2_with fail
 refine(hS.ok wb A [] (fun _=>hR.below hbw) (fun n h=>Nat.lt_of_lt_of_le (hA n h) hbw.size) trivial).mono ?_
 rintro e1 wc ⟨v,rfl,⟨vs0,rfl,hs0⟩,hbc⟩
 have hwc:=hbw.trans (hbc.mono hbw.size)
 have i9:((Tryz.prog).info? 63).map (·.size)=some 9:=by kernel_rfl
 have z0:vs0.toArray.size=9:=by rw[List.size_toArray,okg_size hs0,lx]
 have c0:vs0.toArray.all (·.oneCell')=true:=by rw[List.all_toArray]; exact okg_cells hs0
 have hnew:=World.alloc_heap_new wc (Obj.cells #[Value.pointer none,Value.pointer none,Value.pointer none,Value.pointer none,Value.pointer none,Value.pointer none,Value.pointer none,Value.pointer none,Value.bool false] 63 (0,0))
 go_wp2_with (refine wpList_store_row rfl 63 _ _ rfl wc.heap.size vs0.toArray (by rfl) (by rfl) 63 _ hnew (by rw[i9,z0]) (by rw[z0]; rfl) c0 ?_)
 obtain⟨wd,hwd⟩:∃ wd:World,wd=(wc.alloc (Obj.cells #[Value.pointer none,Value.pointer none,Value.pointer none,Value.pointer none,Value.pointer none,Value.pointer none,Value.pointer none,Value.pointer none,Value.bool false] 63)).setRow wc.heap.size vs0.toArray:=⟨_,rfl⟩
 have hzd:wd.heap.size=wc.heap.size+1:=by rw[hwd]; simp[World.setRow]
 have hd4:wd.heap[wc.heap.size]?=some (.cells vs0.toArray 63 (0,0)):=by rw[hwd]; exact setRow_heap _ _ _ _ _ _ hnew
 have hcd:Below wc.heap.size wc wd:=by
  rw[hwd]
  exact(br.alloc (Nat.le_refl _) _).trans ⟨rfl,rfl,rfl,by simp[World.setRow],fun k hk=>setRow_other _ _ _ _ (by omega)⟩
 rw[←hwd]
 refine(backward_any _ _ _ _).mono ?_
 rintro e1 we ⟨rfl,hwe⟩
 have hze:we.heap.size=wc.heap.size+2:=by rw[hwe]; simp[hzd]
 have hde:Below wd.heap.size wd we:=by rw[hwe]; exact br.alloc (Nat.le_refl _) _
 have he4:we.heap[wc.heap.size]?=some (.cells vs0.toArray 63 (0,0)):=(hde.block _ (by omega)).trans hd4
 have he5:we.cell? ⟨wd.heap.size,0,none⟩=some (.slice (some ⟨b,off,none⟩) 3 cap):=by rw[hwe]; simp[go_sem]
 rw[hzd] at he5
 clear hwe hwd hwa
 go_wp2_with fail
 have hwe2:Below w.heap.size w we:=(hwc.trans (hcd.mono hwc.size)).trans (hde.mono (by have:=hwc.size; omega))
 refine wpIn_wide.1 (wpIn_rangeFunc_ownH (α:=Nat) (n:=3) (w0:=we) (gf:=66) (lb:=#[.pointer (some ⟨(wc.heap.size+1),0,none⟩)]) rfl (by decide) rfl (fence_wide_fn _) (enters_of Tryz.func66 (by kernel_rfl) rfl)
  (backward_stops (fun j=>.agg (ur j).toArray) Fence.wide 2 trivial rfl (by decide) (wc.heap.size+1) b off 3 cap (by decide) (by decide) (BelowM (fun k=>k=wc.heap.size) we.heap.size) (fun h k=>h.trans k) (fun W=>BelowM.refl _ _ W) we (fun h=>BelowM.of h (Nat.le_refl _)) ?hc ?hcs)
  (fun h k=>h.trans k) ?hKb br (fun _=>rfl)
  (fun pre W=>∃(vs:List Value),W.heap[wc.heap.size]?=some (.cells vs.toArray 63 (0,0))∧okg (X pre) vs W (AW A wc.heap.size we.heap.size W)∧BelowM (fun k=>k=wc.heap.size) we.heap.size we W)
  (fun c pre W=>c=.ret∧(e pre≠0∧pre≠[])∧W.heap[w.heap.size]?=some (.cells zMob 29 (0,0))∧W.heap[w.heap.size+1]?=some (.cells #[.int .i64 (e pre)] 31 (0,0))∧Below w.heap.size w W)
  ?hI ?hIx ?h0
  (fun x a' W=>∃ b6,we.heap.size≤b6∧W.heap[b6]?=some (.cells (ur x).toArray 29 (0,0))∧a'={ tmps:=#[.slice (some ⟨b,off,none⟩) 3 cap,undef,.pointer (some ⟨w.heap.size,0,none⟩),.pointer (some ⟨w.heap.size+1,0,none⟩),.pointer (some ⟨wc.heap.size,0,none⟩),undef,.pointer (some ⟨b6,0,none⟩),undef,undef,undef,undef,.slice (some ⟨b,off,none⟩) 3 cap,.int .i64 3,.bool false,undef,.slice (some ⟨b,off,none⟩) 3 cap,.bool false,undef,.agg vs0.toArray,.slice (some ⟨b,off,none⟩) 3 cap,.func (.func 66) #[] #[.pointer (some ⟨(wc.heap.size+1),0,none⟩)],.int .i64 (x:Nat),.agg (ur x).toArray,undef,undef,undef,undef,undef,undef,undef,undef,undef,undef,undef,undef,undef,undef,undef,undef,undef,undef,undef,undef,undef],defers:=[] })
  ?hAx ?assign ?body ?done ?stop)
 case hc=>exact fun W h=>(World.cell?_of_block (w:=we) (h.block (wc.heap.size+1) (by omega) (by omega))).trans he5
 case hcs=>exact fun W h=>HH.out.1 W ⟨h.os.trans hwe2.os,h.tape.trans hwe2.tape,h.output.trans hwe2.output,Nat.le_trans hwe2.size h.size,fun k hk=>(h.block k (by have:=hwc.size; omega) (by have:=hwc.size; omega)).trans (hwe2.block k hk)⟩
 case hKb =>
  intro W l o o' hl ho h1 h2
  exact⟨rfl,rfl,rfl,by simp[World.putObj],fun k hk _=>World.putObj_heap_other (by omega)⟩
 case hI =>
  rintro pre W W' row ⟨vs,hv,hok,hB⟩ hg hr
  have hx:W'.heap[wc.heap.size]?=W.heap[wc.heap.size]?:=hg.block _ (Array.getElem?_eq_some_iff.1 hv).1 (fun e=>by
   obtain⟨k1,o,k2,k3⟩:=hr _ e.symm
   omega)
  refine⟨vs,hx.trans hv,okg_keep hg.size (AW.grow hg hr) hok,?_⟩
  refine hB.trans ⟨hg.os,hg.tape,hg.output,hg.size,fun k hk _=>hg.block k (Nat.lt_of_lt_of_le hk hB.size) (fun e=>?_)⟩
  have:=(hr _ e.symm).1
  omega
 case hIx =>
  rintro c pre W W' row ⟨h1,h2,h3,h4,h5⟩ hg hr
  have hw:=hwe2.size
  refine⟨h1,h2,(hg.block _ (Array.getElem?_eq_some_iff.1 h3).1 (fun e=>?_)).trans h3,(hg.block _ (Array.getElem?_eq_some_iff.1 h4).1 (fun e=>?_)).trans h4,h5.trans ⟨hg.os,hg.tape,hg.output,hg.size,fun k hk=>hg.block k (Nat.lt_of_lt_of_le hk h5.size) (fun e=>?_)⟩⟩
  ·have:=(hr _ e.symm).1; have:=hwc.size; omega
  ·have:=(hr _ e.symm).1; have:=hwc.size; have:=hbw.size; have:=hbb.size; omega
  ·have:=(hr _ e.symm).1; omega
 case h0 =>
  refine⟨vs0,he4,?_,BelowM.refl _ _ _⟩
  refine okg_keep (by omega) (fun k hk hn=>⟨(hde.block k (by omega)).trans (hcd.block k hk),fun h=>?_⟩) hs0
  rcases h with h|h|⟨h,_⟩
  ·exact hn h
  ·omega
  ·omega
 case hAx =>
  rintro x a' u W W' row ⟨b6,h1,h2,h3⟩ hg hr
  exact⟨b6,h1,(hg.block _ (Array.getElem?_eq_some_iff.1 h2).1 (fun e=>by
   obtain⟨_,o,k2,k3⟩:=hr _ e.symm
   rw[h2] at k2
   cases k2
   cases k3)).trans h2,h3⟩
 case assign =>
  intro l pre x W K hI hK
  have z33:(ur x).toArray.size=33:=by rw[List.size_toArray,okg_size (hu x),l6]
  have c33:(ur x).toArray.all (·.oneCell')=true:=by rw[List.all_toArray]; exact okg_cells (hu x)
  have i33:((Tryz.prog).info? 29).map (·.size)=some 33:=by kernel_rfl
  have hnw:=World.alloc_heap_new W (Obj.cells zMob 29 (0,0))
  gi_wp2_with (refine wpListIn_store_row rfl 29 _ _ rfl W.heap.size _ (by rfl) (by rfl) 29 _ hnw (by rw[i33,z33]) (by rw[z33]; rfl) c33 ?_)
  obtain⟨vs,hv,hok,hB⟩:=hI
  generalize hW':(W.alloc _).setRow W.heap.size (ur x).toArray=W'
  have hWW:Below W.heap.size W W':=by
   rw[←hW']
   exact(br.alloc (Nat.le_refl _) _).trans ⟨rfl,rfl,rfl,by simp[World.setRow],fun k hk=>setRow_other _ _ _ _ (by omega)⟩
  have hnw':W'.heap[W.heap.size]?=some (.cells (ur x).toArray 29 (0,0)):=by rw[←hW']; exact setRow_heap _ _ _ _ _ _ hnw
  have hk:∀ k,k<W.heap.size→¬AW A wc.heap.size we.heap.size W k→W'.heap[k]?=W.heap[k]?∧¬AW A wc.heap.size we.heap.size W' k:=fun k hk h=>by
   have e:=hWW.block k hk
   refine⟨e,fun q=>h ?_⟩
   rcases q with q|q|⟨q1,o,q2,q3⟩
   ·exact .inl q
   ·exact .inr (.inl q)
   ·exact .inr (.inr ⟨q1,o,e▸q2,q3⟩)
  have hM:BelowM (fun k=>k=wc.heap.size) we.heap.size W W':=BelowM.of hWW hB.size
  exact hK _ _ ⟨hWW.size,fun k o _ h _=>(hWW.block k (Array.getElem?_eq_some_iff.1 h).1).trans h⟩ hM ⟨vs,(hWW.block _ (Array.getElem?_eq_some_iff.1 hv).1).trans hv,okg_keep hWW.size hk hok,hB.trans hM⟩ ⟨W.heap.size,hB.size,hnw',rfl⟩
 case body =>
  rintro l pre x a' W hl ⟨rl,hrl⟩ ⟨vs,hv,hok,hB⟩ ⟨b6,hb6,h6,rfl⟩ hlen
  have i33:((Tryz.prog).info? 29).map (·.size)=some 33:=by kernel_rfl
  have z33:(ur x).toArray.size=33:=by rw[List.size_toArray,okg_size (hu x),l6]
  have l24:(loadVar 29 ⟨b6,0,none⟩).run Tryz.prog W=.ok (.agg (ur x).toArray) W:=run_loadVar_row W b6 _ _ _ _ _ h6 Tryz.underlying29 rfl (by rw[i33,z33])
  gi_wp2_with (refine wpListIn_load_any rfl 29 _ rfl ⟨b6,0,none⟩ _ (by rfl) l24 ?_)
  have hwW:Below w.heap.size w W:=⟨hB.os.trans hwe2.os,hB.tape.trans hwe2.tape,hB.output.trans hwe2.output,Nat.le_trans hwe2.size hB.size,fun k hk=>(hB.block k (by have:=hwc.size; omega) (by have:=hwc.size; omega)).trans (hwe2.block k hk)⟩
  have hx4:wc.heap.size<W.heap.size:=by have:=hB.size; omega
  have hA1:∀ n,AW A wc.heap.size we.heap.size W n→n<W.heap.size:=fun n h=>AW.lt (fun n h=>Nat.lt_of_lt_of_le (hA n h) hwW.size) hx4 h
  have hR1:Rcv (AW A wc.heap.size we.heap.size W) W:=AW.rcv (hR.below hwW) hv (okg_noW (hn pre) hok)
  have hg1:okg (gr x) (ur x) W (AW A wc.heap.size we.heap.size W):=okg_keep hwW.size (fun k hk h=>⟨hwW.block k hk,fun q=>by
   rcases q with q|q|⟨q,_⟩
   ·exact h q
   ·have:=hwc.size; omega
   ·have:=hwe2.size; omega⟩) (hu x)
  refine⟨trivial,?_⟩
  refine(CallsIn.inRound l (callsIn_wide.2 ((hO x).ok W _ [_] (fun _=>hR1) hA1 ⟨⟨_,rfl,hg1⟩,trivial⟩))).mono ?_
  rintro r1 W1 ⟨_,rfl,⟨us,rfl,hus⟩,hb1⟩
  obtain⟨v1,v2,rfl,⟨vr,rfl,hvr⟩,hv2⟩:∃ v1 v2,us=[v1,v2]∧(FR.row (R x)).R v1 W1 (AW A wc.heap.size we.heap.size W)∧v2=.bool true:=by
   match us,hus with
   | [v1,v2],h=>exact⟨v1,v2,rfl,h.1,h.2.1⟩
  subst hv2
  have i9:((Tryz.prog).info? 63).map (·.size)=some 9:=by kernel_rfl
  have z9:vr.toArray.size=9:=by rw[List.size_toArray,okg_size hvr,lr]
  have c9:vr.toArray.all (·.oneCell')=true:=by rw[List.all_toArray]; exact okg_cells hvr
  have hn7:=World.alloc_heap_new W1 (Obj.cells #[Value.pointer none,Value.pointer none,Value.pointer none,Value.pointer none,Value.pointer none,Value.pointer none,Value.pointer none,Value.pointer none,Value.bool false] 63 (0,0))
  obtain⟨W2,hW2⟩:∃ W2:World,W2=(W1.alloc (Obj.cells #[Value.pointer none,Value.pointer none,Value.pointer none,Value.pointer none,Value.pointer none,Value.pointer none,Value.pointer none,Value.pointer none,Value.bool false] 63)).setRow W1.heap.size vr.toArray:=⟨_,rfl⟩
  have h12:Below W1.heap.size W1 W2:=by
   rw[hW2]
   exact(br.alloc (Nat.le_refl _) _).trans ⟨rfl,rfl,rfl,by simp[World.setRow],fun k hk=>setRow_other _ _ _ _ (by omega)⟩
  have h27:W2.heap[W1.heap.size]?=some (.cells vr.toArray 63 (0,0)):=by rw[hW2]; exact setRow_heap _ _ _ _ _ _ hn7
  have hs1:=hb1.size
  have h24:W2.heap[wc.heap.size]?=some (.cells vs.toArray 63 (0,0)):=(h12.block _ (by omega)).trans ((hb1.block _ hx4).trans hv)
  have zx:vs.toArray.size=9:=by rw[List.size_toArray,okg_size hok,lx]
  have l28:(loadVar 63 ⟨W1.heap.size,0,none⟩).run Tryz.prog W2=.ok (.agg vr.toArray) W2:=run_loadVar_row W2 _ _ _ _ _ _ h27 Tryz.underlying63 rfl (by rw[i9,z9])
  have l29:(loadVar 63 ⟨wc.heap.size,0,none⟩).run Tryz.prog W2=.ok (.agg vs.toArray) W2:=run_loadVar_row W2 _ _ _ _ _ _ h24 Tryz.underlying63 rfl (by rw[i9,zx])
  rw[hW2] at l28 l29
  gi_wp2_with (first
   | (refine wpListIn_store_row rfl 63 _ _ rfl W1.heap.size vr.toArray (by rfl) (by rfl) 63 _ hn7 (by rw[i9,z9]) (by rw[z9]; rfl) c9 ?_)
   | (refine wpListIn_load_any rfl 63 _ rfl ⟨W1.heap.size,0,none⟩ _ (by rfl) l28 ?_)
   | (refine wpListIn_load_any rfl 63 _ rfl ⟨wc.heap.size,0,none⟩ _ (by rfl) l29 ?_))
  rw[←hW2]
  have h02:Below W.heap.size W W2:=hb1.trans (h12.mono hs1)
  have hR2:Rcv (AW A wc.heap.size we.heap.size W) W2:=hR1.below h02
  have hA2:∀ n,AW A wc.heap.size we.heap.size W n→n<W2.heap.size:=fun n h=>Nat.lt_of_lt_of_le (hA1 n h) h02.size
  have hv22:okg (R x) vr W2 (AW A wc.heap.size we.heap.size W):=okg_keep h12.size (fun k hk h=>⟨h12.block k hk,h⟩) hvr
  have hok2:okg (X pre) vs W2 (AW A wc.heap.size we.heap.size W):=okg_keep h02.size (fun k hk h=>⟨h02.block k hk,h⟩) hok
  refine⟨trivial,?_⟩
  refine(CallsIn.inRound l (callsIn_wide.2 ((hX pre x hlen).ok W2 _ [_,_] (fun _=>hR2) hA2 ⟨⟨_,rfl,hv22⟩,⟨_,rfl,hok2⟩,trivial⟩))).mono ?_
  rintro r3 W3 ⟨_,rfl,⟨vs3,rfl,hv3⟩,hb3⟩
  have hs12:=h12.size
  have hs3:=hb3.size
  have h03:Below W.heap.size W W3:=h02.trans (hb3.mono h02.size)
  have z3:vs3.toArray.size=9:=by rw[List.size_toArray,okg_size hv3,lx]
  have c3:vs3.toArray.all (·.oneCell')=true:=by rw[List.all_toArray]; exact okg_cells hv3
  have h34:W3.heap[wc.heap.size]?=some (.cells vs.toArray 63 (0,0)):=(h03.block _ hx4).trans hv
  obtain⟨W4,hW4⟩:∃ W4:World,W4=W3.setRow wc.heap.size vs3.toArray:=⟨_,rfl⟩
  have h44:W4.heap[wc.heap.size]?=some (.cells vs3.toArray 63 (0,0)):=by rw[hW4]; exact setRow_heap _ _ _ _ _ _ h34
  have l32:(loadVar 63 ⟨wc.heap.size,0,none⟩).run Tryz.prog W4=.ok (.agg vs3.toArray) W4:=run_loadVar_row W4 _ _ _ _ _ _ h44 Tryz.underlying63 rfl (by rw[i9,z3])
  rw[hW4] at l32
  gi_wp2_with (first
   | (refine wpListIn_store_row rfl 63 _ _ rfl wc.heap.size vs3.toArray (by rfl) (by rfl) 63 _ h34 (by rw[i9,z3]) (by rw[z3,zx]) c3 ?_)
   | (refine wpListIn_load_any rfl 63 _ rfl ⟨wc.heap.size,0,none⟩ _ (by rfl) l32 ?_))
  rw[←hW4]
  have hR4:Rcv (AW A wc.heap.size we.heap.size W) W4:=by
   intro k hk
   by_cases e:k=wc.heap.size
   ·subst e; exact⟨_,h44,okg_noW (hn (pre++[x])) hv3⟩
   ·obtain⟨z,hz,hnz⟩:=(hR2.below hb3) k hk
    exact⟨z,by rw[hW4,setRow_other _ _ _ _ e]; exact hz,hnz⟩
  have hs4:W4.heap.size=W3.heap.size:=by rw[hW4]; simp[World.setRow]
  have hA4:∀ n,AW A wc.heap.size we.heap.size W n→n<W4.heap.size:=fun n h=>by have:=hA2 n h; omega
  have hv4:okg (X (pre++[x])) vs3 W4 (AW A wc.heap.size we.heap.size W):=okg_keep (by omega) (fun k hk h=>⟨by rw[hW4,setRow_other _ _ _ _ (fun e=>h (.inr (.inl e)))],h⟩) hv3
  have hl2:(pre++[x]).length≤3:=by simp; omega
  refine⟨trivial,?_⟩
  refine(CallsIn.inRound l (callsIn_wide.2 ((hT (pre++[x]) hl2).ok W4 _ [_] (fun _=>hR4) hA4 ⟨⟨_,rfl,hv4⟩,trivial⟩))).mono ?_
  rintro r5 W5 ⟨_,rfl,⟨us5,rfl,hus5⟩,hb5⟩
  obtain⟨v5,v6,rfl,⟨vo,rfl,hvo⟩,hv6⟩:∃ v1 v2,us5=[v1,v2]∧(FR.row (O (pre++[x]))).R v1 W5 (AW A wc.heap.size we.heap.size W)∧v2=.int .i64 (e (pre++[x])):=by
   match us5,hus5 with
   | [v1,v2],h=>exact⟨v1,v2,rfl,h.1,h.2.1⟩
  subst hv6
  have hs5:=hb5.size
  have zo:vo.toArray.size=33:=by rw[List.size_toArray,okg_size hvo,lo]
  have co:vo.toArray.all (·.oneCell')=true:=by rw[List.all_toArray]; exact okg_cells hvo
  have hn9:=World.alloc_heap_new W5 (Obj.cells zMob 29 (0,0))
  have hx5:W5.heap[wc.heap.size]?=some (.cells vs3.toArray 63 (0,0)):=(hb5.block _ (by omega)).trans h44
  have hM5:BelowM (fun k=>k=wc.heap.size) we.heap.size we W5:=by
   refine(hB.trans (BelowM.of h03 hB.size)).trans ?_
   refine BelowM.trans ?_ (BelowM.of hb5 (by have:=hB.size; omega))
   rw[hW4]
   exact⟨rfl,rfl,rfl,by simp[World.setRow],fun k hk hne=>setRow_other _ _ _ _ hne⟩
  have hv55:okg (X (pre++[x])) vs3 W5 (AW A wc.heap.size we.heap.size W):=okg_keep hs5 (fun k hk h=>⟨hb5.block k hk,h⟩) hv4
  have hK45:KeepsFrom we.heap.size W W5:=by
   refine⟨by omega,fun k o hk ho hc=>?_⟩
   have hkW:=(Array.getElem?_eq_some_iff.1 ho).1
   rw[hb5.block k (by omega),hW4,setRow_other _ _ _ _ (by omega),h03.block k hkW]
   exact ho
  generalize hz:e (pre++[x])=z at *
  have h6W:∃ W6:World,W6=(W5.alloc (Obj.cells zMob 29)).setRow W5.heap.size vo.toArray:=⟨_,rfl⟩
  obtain⟨W6,hW6⟩:=h6W
  have h56:Below W5.heap.size W5 W6:=by
   rw[hW6]
   exact(br.alloc (Nat.le_refl _) _).trans ⟨rfl,rfl,rfl,by simp[World.setRow],fun k hk=>setRow_other _ _ _ _ (by omega)⟩
  have hs6:=h56.size
  have hBs:=hB.size
  have hx6:W6.heap[wc.heap.size]?=some (.cells vs3.toArray 63 (0,0)):=(h56.block _ (by omega)).trans hx5
  have hM6:BelowM (fun k=>k=wc.heap.size) we.heap.size we W6:=hM5.trans (BelowM.of h56 (by omega))
  have hK6:KeepsFrom we.heap.size W W6:=by
   refine⟨by omega,fun k o hk ho hc=>?_⟩
   exact(h56.block k (Array.getElem?_eq_some_iff.1 (hK45.same k o hk ho hc)).1).trans (hK45.same k o hk ho hc)
  have hK6':BelowM (fun k=>k=wc.heap.size) we.heap.size W W6:=by
   refine((BelowM.of h03 hB.size).trans ?_).trans ((BelowM.of hb5 (by omega)).trans (BelowM.of h56 (by omega)))
   rw[hW4]
   exact⟨rfl,rfl,rfl,by simp[World.setRow],fun k hk hne=>setRow_other _ _ _ _ hne⟩
  have hv6:okg (X (pre++[x])) vs3 W6 (AW A wc.heap.size we.heap.size W6):=by
   refine okg_keep (w:=W6) (Nat.le_refl _) (fun k hk h=>⟨rfl,fun q=>h ?_⟩) (hcl _ _ _ _ (okg_keep hs6 (fun k hk h=>⟨h56.block k hk,h⟩) hv55))
   rcases q with q|q|⟨q1,o,q2,q3⟩
   ·exact .inl (.inl q)
   ·exact .inl (.inr (.inl q))
   ·exact .inr ⟨o,q2,q3⟩
  have hwb6:Below w.heap.size w W6:=⟨hM6.os.trans hwe2.os,hM6.tape.trans hwe2.tape,hM6.output.trans hwe2.output,Nat.le_trans hwe2.size hM6.size,fun k hk=>(hM6.block k (by have:=hwc.size; omega) (by have:=hwc.size; omega)).trans (hwe2.block k hk)⟩
  have hwcz:=hwc.size
  have hwaz:=hbw.size
  have hwez:=hwe2.size
  have hbz:=hbb.size
  have hcz:=hbc.size
  have old6:∀ k,k<wa.heap.size→W6.heap[k]?=wa.heap[k]?:=fun k hk=>(hM6.block k (by omega) (by omega)).trans ((hde.block k (by omega)).trans ((hcd.block k (by omega)).trans ((hbc.block k (by omega)).trans (hbb.block k hk))))
  have h62:=(old6 w.heap.size (by omega)).trans hr2
  have h63:=(old6 (w.heap.size+1) (by omega)).trans hr3
  unfold zMob at hW6
  by_cases hz0:z=0
  ·subst hz0
   gi_wp2_with (first
    | (refine wpListIn_store_row rfl 29 _ _ rfl W5.heap.size vo.toArray (by rfl) (by rfl) 29 _ hn9 (by rw[i33,zo]) (by rw[zo]; rfl) co ?_))
   rw[←hW6]
   exact⟨hK6,hK6',vs3,hx6,hv6,hM6⟩
  ·obtain⟨W7,hW7⟩:∃ W7:World,W7=W6.setRow w.heap.size zMob:=⟨_,rfl⟩
   have h73:W7.heap[w.heap.size+1]?=some (.cells #[.int .i64 0] 31 (0,0)):=by rw[hW7,setRow_other _ _ _ _ (by omega)]; exact h63
   have h72:W7.heap[w.heap.size]?=some (.cells zMob 29 (0,0)):=by rw[hW7]; exact setRow_heap _ _ _ _ _ _ h62
   have c73:W7.cell? ⟨w.heap.size+1,0,none⟩=some (.int .i64 0):=by unfold World.cell?; simp only[h73]; rfl
   have f73:W7.frozen? ⟨w.heap.size+1,0,none⟩=false:=by unfold World.frozen?; simp only[h73]; rfl
   have hd:decide (z=0)=false:=by simpa using hz0
   have h62':=h62
   rw[hW6] at h62'
   have hW7':=hW7
   rw[hW6] at hW7'
   rw[hW7'] at c73 f73
   gi_wp2_with (first
    | (refine wpListIn_store_row rfl 29 _ _ rfl W5.heap.size vo.toArray (by rfl) (by rfl) 29 _ hn9 (by rw[i33,zo]) (by rw[zo]; rfl) co ?_)
    | (refine wpListIn_store_row rfl 29 _ _ rfl w.heap.size zMob (by rfl) (by rfl) 29 _ h62' (by rw[i33]; rfl) rfl zMob_cells ?_))
   rw[←hW6,←hW7]
   obtain⟨W8,hW8⟩:∃ W8:World,W8=W7.setCell ⟨w.heap.size+1,0,none⟩ (.int .i64 z):=⟨_,rfl⟩
   have o78:∀ k,k≠w.heap.size+1→W8.heap[k]?=W7.heap[k]?:=fun k hk=>by rw[hW8]; exact heap_set _ _ _ _ _ hk
   have s78:W8.heap.size=W7.heap.size:=by rw[hW8]; simp
   have s67:W7.heap.size=W6.heap.size:=by rw[hW7]; simp[World.setRow]
   have h83:W8.heap[w.heap.size+1]?=some (.cells #[.int .i64 z] 31 (0,0)):=by
    rw[hW8]
    exact heap_setCell_same _ _ 0 _ _ _ h73
   rw[←hW8]
   refine⟨⟨by omega,fun k o hk ho hc=>?_⟩,rfl,⟨by rw[hz]; exact hz0,by simp⟩,?_,by rw[hz]; exact h83,?_⟩
   ·rw[o78 k (by omega),hW7,setRow_other _ _ _ _ (by omega)]
    exact hK6.same k o hk ho hc
   ·rw[o78 _ (by omega)]; exact h72
   ·exact hwb6.trans ((show Below w.heap.size W6 W7 from by rw[hW7]; exact⟨rfl,rfl,rfl,by simp[World.setRow],fun k hk=>setRow_other _ _ _ _ (by omega)⟩).trans (show Below w.heap.size W7 W8 from by rw[hW8]; exact below_set br (by omega) _))
 case done =>
  rintro D xs W hD hxs ⟨vs,hv,hok,hB⟩ hD2
  have e10:xs=[2,1,0]:=hxs
  subst e10
  have i9:((Tryz.prog).info? 63).map (·.size)=some 9:=by kernel_rfl
  have i33:((Tryz.prog).info? 29).map (·.size)=some 33:=by kernel_rfl
  have zx:vs.toArray.size=9:=by rw[List.size_toArray,okg_size hok,lx]
  have l40:(loadVar 63 ⟨wc.heap.size,0,none⟩).run Tryz.prog W=.ok (.agg vs.toArray) W:=run_loadVar_row W _ _ _ _ _ _ hv Tryz.underlying63 rfl (by rw[i9,zx])
  have hwcz:=hwc.size
  have hwaz:=hbw.size
  have hwez:=hwe2.size
  have hbz:=hbb.size
  have hcz:=hbc.size
  have hBs:=hB.size
  have hwW:Below w.heap.size w W:=⟨hB.os.trans hwe2.os,hB.tape.trans hwe2.tape,hB.output.trans hwe2.output,Nat.le_trans hwe2.size hB.size,fun k hk=>(hB.block k (by omega) (by omega)).trans (hwe2.block k hk)⟩
  have hAW:∀ n,A n→n<W.heap.size:=fun n h=>Nat.lt_of_lt_of_le (hA n h) hwW.size
  have hokA:okg (X [2,1,0]) vs W A:=okg_keep (Nat.le_refl _) (fun k _ h=>⟨rfl,fun q=>h (.inl q)⟩) hok
  have old:∀ k,k<wa.heap.size→W.heap[k]?=wa.heap[k]?:=fun k hk=>(hB.block k (by omega) (by omega)).trans ((hde.block k (by omega)).trans ((hcd.block k (by omega)).trans ((hbc.block k (by omega)).trans (hbb.block k hk))))
  have h2:=(old w.heap.size (by omega)).trans hr2
  have h3:=(old (w.heap.size+1) (by omega)).trans hr3
  have hT2:=(hT [2,1,0] (by decide)).ok W A [_] (fun _=>hR.below hwW) hAW ⟨⟨_,rfl,hokA⟩,trivial⟩
  go_wp2_with (refine wpList_load_any rfl 63 _ rfl ⟨wc.heap.size,0,none⟩ _ (by rfl) l40 ?_)
  refine hT2.mono ?_
  rintro r5 W5 ⟨_,rfl,⟨us5,rfl,hus5⟩,hb5⟩
  obtain⟨v5,v6,rfl,⟨vo,rfl,hvo⟩,hv6⟩:∃ v1 v2,us5=[v1,v2]∧(FR.row (O [2,1,0])).R v1 W5 A∧v2=.int .i64 (e [2,1,0]):=by
   match us5,hus5 with
   | [v1,v2],h=>exact⟨v1,v2,rfl,h.1,h.2.1⟩
  subst hv6
  have zo:vo.toArray.size=33:=by rw[List.size_toArray,okg_size hvo,lo]
  have co:vo.toArray.all (·.oneCell')=true:=by rw[List.all_toArray]; exact okg_cells hvo
  have h52:=(hb5.block _ (by omega)).trans h2
  have h53:=(hb5.block _ (by omega)).trans h3
  have hs5:=hb5.size
  obtain⟨W6,hW6⟩:∃ W6:World,W6=W5.setRow w.heap.size vo.toArray:=⟨_,rfl⟩
  have h62:W6.heap[w.heap.size]?=some (.cells vo.toArray 29 (0,0)):=by rw[hW6]; exact setRow_heap _ _ _ _ _ _ h52
  have h63:W6.heap[w.heap.size+1]?=some (.cells #[.int .i64 0] 31 (0,0)):=by rw[hW6,setRow_other _ _ _ _ (by omega)]; exact h53
  have c63:W6.cell? ⟨w.heap.size+1,0,none⟩=some (.int .i64 0):=by unfold World.cell?; simp only[h63]; rfl
  have f63:W6.frozen? ⟨w.heap.size+1,0,none⟩=false:=by unfold World.frozen?; simp only[h63]; rfl
  rw[hW6] at c63 f63
  generalize hz:e [2,1,0]=z at *
  go_wp2_with (refine wpList_store_row rfl 29 _ _ rfl w.heap.size vo.toArray (by rfl) (by rfl) 29 _ h52 (by rw[i33,zo]) (by rw[zo]; rfl) co ?_)
  rw[←hW6]
  obtain⟨W7,hW7⟩:∃ W7:World,W7=W6.setCell ⟨w.heap.size+1,0,none⟩ (.int .i64 z):=⟨_,rfl⟩
  have h72:W7.heap[w.heap.size]?=some (.cells vo.toArray 29 (0,0)):=by rw[hW7,heap_set _ _ _ _ _ (by omega)]; exact h62
  have h73:W7.heap[w.heap.size+1]?=some (.cells #[.int .i64 z] 31 (0,0)):=by rw[hW7]; exact heap_setCell_same _ _ 0 _ _ _ h63
  have hb57:Below w.heap.size W5 W7:=(show Below w.heap.size W5 W6 from by rw[hW6]; exact⟨rfl,rfl,rfl,by simp[World.setRow],fun k hk=>setRow_other _ _ _ _ (by omega)⟩).trans (show Below w.heap.size W6 W7 from by rw[hW7]; exact below_set br (by omega) _)
  have hD7:W7.heap[D]?=some (.deferred (some [])):=by
   rw[hW7,heap_set _ _ _ _ _ (by omega),hW6,setRow_other _ _ _ _ (by omega),hb5.block _ (Array.getElem?_eq_some_iff.1 hD2).1]
   exact hD2
  rw[←hW7]
  refine compose_end (m:=w.heap.size) rfl rfl hD7 h72 h73 zo (by omega) (by omega) ⟨_,by rw[hz],.inl ⟨_,rfl,?_⟩,?_⟩
  ·exact hfr _ _ _ _ _ hvo
  ·exact(hwW.trans ((hb5.mono hwW.size).trans hb57)).trans ⟨rfl,rfl,rfl,by simp[World.putObj],fun k hk=>World.putObj_heap_other (by omega)⟩
 case stop =>
  rintro D c pre W hD ⟨k,hk,hpre⟩ ⟨rfl,⟨hne,hnn⟩,h2,h3,hB⟩ hD2
  have hwcz:=hwc.size
  have hwaz:=hbw.size
  have hwez:=hwe2.size
  have hbz:=hbb.size
  have hcz:=hbc.size
  have e10:pre=[2,1,0]:=by
   have:k=0∨k=1∨k=2∨k=3:=by omega
   rcases this with rfl|rfl|rfl|rfl
   ·exact absurd hpre hnn
   ·have e:pre=[2]:=hpre
    rw[e] at hne
    exact absurd he1 hne
   ·have e:pre=[2,1]:=hpre
    rw[e] at hne
    exact absurd he2 hne
   ·exact hpre
  subst e10
  refine wpIn_wide.2 (wp_ret ?_)
  refine compose_end (m:=w.heap.size) rfl rfl hD2 h2 h3 rfl (by omega) (by omega) ⟨_,rfl,.inr ⟨hne,rfl⟩,?_⟩
  exact hB.trans ⟨rfl,rfl,rfl,by simp[World.putObj],fun k hk=>World.putObj_heap_other (by omega)⟩
end Go.Proofs.YtjlhiaafnpompaaGreat
namespace Go.Proofs.YtjlhiaafnpompaaGreat
open Go.RowKit Tr
theorem rl_8{q:Rat}(h1:(strN q.num.natAbs).size≤8)(h2:(strN q.den).size≤8):RL q 2:=by
 have k:∀{n:Nat},(strN n).size≤8→(words n).length≤2:=fun{n} h=>by
  have:=numS_lt (strN n)
  rw[numS_strN] at this
  exact words_length_le (Nat.lt_of_lt_of_le this (Nat.le_trans (Nat.pow_le_pow_right (by decide) h) (by decide)))
 exact⟨k h1,k h2⟩
theorem ZL4.w{p:Q4}{k:Nat}(h:ZL4 p k):∃ L W,L≠0∧(words L).length≤8*k∧(words W).length≤9*k+1∧W4 L W p:=by
 obtain⟨a,b,c,d⟩:=p
 exact W4_ofk h.1 h.2.1 h.2.2.1 h.2.2.2
theorem w_adj{L W:Nat}{p:Q4}(h:W4 L W p):W4 L W (adj4 p):=by
 obtain⟨h1,h2,h3,h4⟩:=h
 exact⟨h4,((IsW_0 L 0).sub h2).mono (by omega),((IsW_0 L 0).sub h3).mono (by omega),h1⟩
theorem w_mul{L W M V:Nat}{p q:Q4}(h:W4 L W p)(k:W4 M V q):W4 (L*M) (4*(W*V)) (mul4 p q):=by
 obtain⟨a,b,c,d⟩:=p
 obtain⟨e,f,g,i⟩:=q
 have:=W4_step h k
 simpa only[mul4,stp,Bool.false_eq_true,if_false] using this
theorem nm4_w{L W n:Nat}{p:Q4}(h:W4 L W p)(hL:L≠0)(hw:(words W).length≤n)(hd:dq p≠⟨0,0⟩):ZL4 (nm4 p) (2*n+1):=by
 have hb:=by4_ne hd
 have hz:IsW L W (by4 p):=by unfold by4; split; exact h.2.2.2; exact h.2.2.1
 exact⟨ratio_zl h.1 hz hL hb hw hw,ratio_zl h.2.1 hz hL hb hw hw,ratio_zl h.2.2.1 hz hL hb hw hw,ratio_zl h.2.2.2 hz hL hb hw hw⟩
theorem sh_zl{p:Q4}(h:ZL4 p 250):Sh4 p:=⟨short_zl h.1,short_zl h.2.1,short_zl h.2.2.1,short_zl h.2.2.2⟩
theorem w4m{W V i j:Nat}(h:(words W).length≤i)(k:(words V).length≤j):(words (4*(W*V))).length≤1+(i+j):=wl_m (words_length_le (by decide)) (wl_m h k)
theorem els_short{b m:Q4}(hb:ZL4 b 2)(hm:ZL4 m 2)(db:dq b≠⟨0,0⟩)(dm:dq m≠⟨0,0⟩):Sh4 (inv4 b)∧Sh4 (els1 b m)∧Sh4 (els b m):=by
 obtain⟨L,W,h0,hl,hw,h⟩:=hb.w
 obtain⟨M,V,k0,kl,kw,k⟩:=hm.w
 have a1:=w_adj h
 have a2:=w_mul k a1
 have a3:=w_mul h a2
 refine⟨sh_zl ((nm4_w a1 h0 hw (adj_ne db)).mono (by decide)),?_,?_⟩
 ·rw[els1_eq db dm]
  exact sh_zl ((nm4_w a2 (Nat.mul_ne_zero k0 h0) (w4m kw hw) (W1_ne db dm)).mono (by decide))
 ·rw[els_eq db dm]
  exact sh_zl ((nm4_w a3 (Nat.mul_ne_zero h0 (Nat.mul_ne_zero k0 h0)) (w4m hw (w4m kw hw)) (W2_ne db dm)).mono (by decide))
theorem w_tr{L W:Nat}{p:Q4}(h:W4 L W p):IsW L (2*W) (tr4 p):=(h.1.add h.2.2.2).mono (by omega)
theorem w_dq{L W:Nat}{p:Q4}(h:W4 L W p):IsW (L*L) (4*(W*W)) (dq p):=((h.1.mul h.2.2.2).sub (h.2.1.mul h.2.2.1)).mono (by omega)
theorem w2m{W i:Nat}(h:(words W).length≤i):(words (2*W)).length≤1+i:=wl_m (words_length_le (by decide)) h
theorem sg_short{m:Q4}(hm:ZL4 m 2)(dm:dq m≠⟨0,0⟩):ShortZ (sg4 m):=by
 obtain⟨L,W,h0,hl,hw,h⟩:=hm.w
 have t:=(w_tr h).mul (w_tr h)
 have hw2:=w2m hw
 exact short_zl ((ratio_zl (n:=60) t (w_dq h) (Nat.mul_ne_zero h0 h0) dm (Nat.le_trans (w2m (wl_m hw2 hw2)) (by decide)) (Nat.le_trans (w4m hw hw) (by decide))).mono (by decide))
theorem sq_whole{q:Rat}{n:Int}(h:q*q=(n:Rat)):∃ m:Int,q=(m:Rat):=by
 have hd:((q.den:Int):Rat)≠0:=by exact_mod_cast q.den_nz
 have e:=num_den q
 have e2:((q.num*q.num:Int):Rat)=((n*((q.den:Int)*(q.den:Int)):Int):Rat):=by
  rw[Rat.intCast_mul,Rat.intCast_mul,Rat.intCast_mul,←e,←h]; grind
 have e3:q.num*q.num=n*((q.den:Int)*(q.den:Int)):=by exact_mod_cast e2
 have e4:q.num.natAbs*q.num.natAbs=n.natAbs*(q.den*q.den):=by
  have:=congrArg Int.natAbs e3
  simpa[Int.natAbs_mul] using this
 have hdiv:q.den ∣ q.num.natAbs*q.num.natAbs:=⟨n.natAbs*q.den,by rw[e4,Nat.mul_left_comm]⟩
 have hc:Nat.Coprime q.den q.num.natAbs:=q.reduced.symm
 have h1:q.den ∣ 1:=by
  have k:=hc.dvd_of_dvd_mul_left hdiv
  have k2:=Nat.dvd_gcd (Nat.dvd_refl q.den) k
  rwa[hc] at k2
 have h2:q.den=1:=Nat.dvd_one.1 h1
 refine⟨q.num,?_⟩
 rw[h2] at e
 rw[←e]; simp
theorem half_whole{u:Rat}{k:Int}(h:(2*u)*u=(k:Rat)):∃ m:Int,u=(m:Rat)∧2*(m*m)=k:=by
 obtain⟨w,hw⟩:=sq_whole (q:=2*u) (n:=2*k) (by rw[Rat.intCast_mul,←h]; show _=(2:Rat)*_; grind)
 have h2:w*w=2*k:=by
  have:((w*w:Int):Rat)=((2*k:Int):Rat):=by
   rw[Rat.intCast_mul,Rat.intCast_mul,←hw,←h]; show _=(2:Rat)*_; grind
  exact_mod_cast this
 have h3:w % 2=0:=by
  have h4:(w*w) % 2=0:=by rw[h2]; omega
  rcases Int.emod_two_eq w with h|h
  ·exact h
  ·exfalso
   have:(w*w) % 2=1:=by rw[Int.mul_emod,h]; rfl
   omega
 obtain⟨m,rfl⟩:∃ m,w=2*m:=⟨w / 2,by omega⟩
 refine⟨m,?_,?_⟩
 ·have:2*u=2*(m:Rat):=by rw[hw,Rat.intCast_mul]; rfl
  grind
 ·have:2*m*(2*m)=2*(2*(m*m)):=by grind
  omega
theorem root_w{L V:Nat}{r z:QC}(hr:r*r=z)(h:IsW (L*L) V z):IsW L (2*V) r:=by
 obtain⟨x,y,h1,h2,h3,h4⟩:=h
 have r1:=congrArg QC.re hr
 have r2:=congrArg QC.im hr
 simp only[qmr,qmi] at r1 r2
 generalize hu:r.re*((L:Int):Rat)=u
 generalize hv:r.im*((L:Int):Rat)=v
 have e1:u*u - v*v=(x:Rat):=by rw[←h1,←r1,←hu,←hv,Int.natCast_mul,Rat.intCast_mul]; grind
 have e2:2*(u*v)=(y:Rat):=by rw[←h2,←r2,←hu,←hv,Int.natCast_mul,Rat.intCast_mul]; grind
 obtain⟨s,hs⟩:=sq_whole (q:=u*u+v*v) (n:=x*x+y*y) (by
  rw[Rat.intCast_add,Rat.intCast_mul,Rat.intCast_mul,←e1,←e2]; grind)
 obtain⟨m,hm,hm2⟩:=half_whole (u:=u) (k:=s+x) (by rw[Rat.intCast_add,←hs,←e1]; grind)
 obtain⟨n,hn,hn2⟩:=half_whole (u:=v) (k:=s - x) (by rw[Rat.intCast_sub,←hs,←e1]; grind)
 have hs2:s*s=x*x+y*y:=by
  have:((s*s:Int):Rat)=((x*x+y*y:Int):Rat):=by
   rw[Rat.intCast_mul,←hs,Rat.intCast_add,Rat.intCast_mul,Rat.intCast_mul,←e1,←e2]; grind
  exact_mod_cast this
 have hsum:m*m+n*n=s:=by omega
 have hs0:0≤s:=by rw[←hsum]; have:=sqn m; have:=sqn n; omega
 have hsV:s≤2*V:=by
  refine Int.not_lt.1 fun hlt=>?_
  have k1:s*s=(x.natAbs:Int)*x.natAbs+(y.natAbs:Int)*y.natAbs:=by rw[hs2,Int.natAbs_mul_self',Int.natAbs_mul_self']
  have k2:x.natAbs*x.natAbs≤V*V:=Nat.mul_le_mul h3 h3
  have k3:y.natAbs*y.natAbs≤V*V:=Nat.mul_le_mul h4 h4
  have k4:(2*(V:Int)+1)*(2*(V:Int)+1)≤s*s:=Int.mul_le_mul (by omega) (by omega) (by omega) (by omega)
  have k5:(2*(V:Int)+1)*(2*(V:Int)+1)=4*((V:Int)*V)+4*V+1:=by grind
  have k6:s*s≤2*((V:Int)*V):=by
   rw[k1]
   have a:((x.natAbs*x.natAbs:Nat):Int)≤((V*V:Nat):Int):=by exact_mod_cast k2
   have b:((y.natAbs*y.natAbs:Nat):Int)≤((V*V:Nat):Int):=by exact_mod_cast k3
   rw[Int.natCast_mul,Int.natCast_mul] at a b
   omega
  have:=sqn (V:Int)
  omega
 have small:∀ a b:Int,a*a+b*b=s→a.natAbs≤2*V:=fun a b hab=>by
  have k1:=sqn b
  have k2:((a.natAbs:Int))*a.natAbs=a*a:=Int.natAbs_mul_self' ..
  have k3:(a.natAbs:Int)≤(a.natAbs:Int)*a.natAbs:=by
   rcases Nat.eq_zero_or_pos a.natAbs with h|h
   ·rw[h]; decide
   ·have:a.natAbs*1≤a.natAbs*a.natAbs:=Nat.mul_le_mul_left _ h
    have:((a.natAbs*1:Nat):Int)≤((a.natAbs*a.natAbs:Nat):Int):=by exact_mod_cast this
    rw[Int.natCast_mul] at this
    omega
  omega
 exact⟨m,n,hu.trans hm,hv.trans hn,small m n hsum,small n m (by omega)⟩
theorem IsW.lift{L W:Nat}(M:Nat){z:QC}(h:IsW L W z):IsW (L*M) (W*M) z:=by
 obtain⟨x,y,h1,h2,h3,h4⟩:=h
 refine⟨x*M,y*M,?_,?_,?_,?_⟩
 ·rw[Int.natCast_mul,Rat.intCast_mul,Rat.intCast_mul,←h1]; grind
 ·rw[Int.natCast_mul,Rat.intCast_mul,Rat.intCast_mul,←h2]; grind
 ·rw[Int.natAbs_mul,Int.natAbs_natCast]; exact Nat.mul_le_mul h3 (Nat.le_refl _)
 ·rw[Int.natAbs_mul,Int.natAbs_natCast]; exact Nat.mul_le_mul h4 (Nat.le_refl _)
theorem fac_short{m:Q4}(hm:ZL4 m 2){r:QC}(hr:r*r=((m.1 - m.2.2.2)*(m.1 - m.2.2.2))+(m.2.1*(⟨4,0⟩:QC)))(hx:tr4 m+r≠⟨0,0⟩):ShortZ ((tr4 m - r) / (tr4 m+r)):=by
 obtain⟨L,W,h0,hl,hw,h⟩:=hm.w
 have hd:IsW L (2*W) (m.1 - m.2.2.2):=(h.1.sub h.2.2.2).mono (by omega)
 have h4:IsW 1 4 (⟨4,0⟩:QC):=⟨4,0,by simp,by simp,by decide,by decide⟩
 have hb:IsW (L*L) (8*W*L) (m.2.1*(⟨4,0⟩:QC)):=by
  have:=(h.2.1.mul h4).lift L
  rw[Nat.mul_one] at this
  refine this.mono ?_
  rw[show 2*(W*4)=8*W by omega]
  exact Nat.le_refl _
 have he:IsW (L*L) (2*(2*W*(2*W))+8*W*L) (((m.1 - m.2.2.2)*(m.1 - m.2.2.2))+(m.2.1*(⟨4,0⟩:QC))):=(hd.mul hd).add hb
 have hR:=root_w hr he
 have hw2:=w2m hw
 have z1:(words (2*(2*W*(2*W)))).length≤41:=Nat.le_trans (w2m (wl_m hw2 hw2)) (by decide)
 have z2:(words (8*W*L)).length≤41:=Nat.le_trans (wl_m (wl_m (j:=1) (words_length_le (by decide)) hw) hl) (by decide)
 have z3:(words (2*(2*(2*W*(2*W))+8*W*L))).length≤43:=Nat.le_trans (w2m (wl_add z1 z2)) (by decide)
 have z4:(words (2*W+2*(2*(2*W*(2*W))+8*W*L))).length≤44:=wl_add (Nat.le_trans hw2 (by decide)) z3
 exact short_zl ((ratio_zl ((w_tr h).sub hR) ((w_tr h).add hR) h0 hx z4 z4).mono (by decide))
theorem fac_sum{x y:QC}(hx:x≠⟨0,0⟩)(hy:y≠⟨0,0⟩):(x / y+⟨2,0⟩)+(⟨1,0⟩:QC) / (x / y)=((x+y)*(x+y)) / (x*y):=by
 have h1:=qdm (x:=x) hy
 have hk:x / y≠⟨0,0⟩:=fun e=>hx (by rw[←h1,e]; exact qmul0.2 (.inr rfl))
 have h2:=qdm (x:=(⟨1,0⟩:QC)) hk
 have hxy:=mul_ne hx hy
 refine qcan hxy ?_
 rw[qdm hxy]
 generalize x / y=k at *
 generalize (⟨1,0⟩:QC) / k=j at *
 rw[←h1]
 have a1:=congrArg QC.re h2
 have a2:=congrArg QC.im h2
 simp only[qmr,qmi] at a1 a2
 have e:(y*k*y)*(k+⟨2,0⟩+j)=(y*y)*(k*k)+(y*y)*(⟨2,0⟩*k)+(y*y)*(k*j):=by
  apply qc_ext<;>simp only[qmr,qmi,qar,qai]<;>grind
 rw[e,h2]
 apply qc_ext<;>simp only[qmr,qmi,qar,qai]<;>grind
end Go.Proofs.YtjlhiaafnpompaaGreat
