/- Laws for the walk. -/
import Derived.Test.YtplakbflfckldaaGreatYba
set_option linter.unusedVariables false
set_option maxHeartbeats 4000000
set_option linter.unusedSimpArgs false
namespace Go.Proofs.YtplakbflfckldaaGreat
open Go.RowKit Tr
open Classical
theorem ptrs_none{σ:Sg}{us:List Value}(h:ptrs σ [] us):us=[]:=by
 cases us with
 | nil=>rfl
 | cons v l=>exact h.elim
theorem ptrs_one{σ:Sg}{b:Nat}{us:List Value}(h:ptrs σ [b] us):∃ n,σ b=some n∧us=[.pointer (some ⟨n,0,none⟩)]:=by
 cases us with
 | nil=>exact h.elim
 | cons v l =>
  obtain⟨⟨n,h1,rfl⟩,h2⟩:=h
  rw[ptrs_none h2]
  exact⟨n,h1,rfl⟩
section
variable{T:Nat→Fact}{cx:Cx}{A0 M:Nat→Prop}{w0:World}{σs σ:Sg}{s:AS}{a:Act}{w:World}
theorem live_own(R:Rel T cx A0 M w0 σs σ s a w){b:Nat}{cells:List AC}{ty:TypeId}(h:s.blocks[b]?=some (.live ⟨cells,ty,none⟩)):∃ n us,σ b=some n∧w.heap[n]?=some (.cells us.toArray ty (0,0))∧oks T σ cells us w (Al A0 σ s.blocks):=by
 obtain⟨n,g1,g2,us,rest,g3,g4,g5,g6,g7,g8⟩:=R.blocks b _ h
 have g8':rest=[]:=g8
 subst g8'
 exact⟨n,us,g1,by simpa using g3,g4⟩
theorem lent_own(R:Rel T cx A0 M w0 σs σ s a w){b:Nat}{cells:List AC}{ty:TypeId}(h:s.blocks[b]?=some (.lent ⟨cells,ty,none⟩)):∃ n us,σ b=some n∧w.heap[n]?=some (.cells us.toArray ty (0,0))∧oks T σ cells us w (Al A0 σ s.blocks):=by
 obtain⟨n,g1,g2,us,rest,g3,g4,g5,g6,g7,g8⟩:=R.lent b _ h
 have g8':rest=[]:=g8
 subst g8'
 exact⟨n,us,g1,by simpa using g3,g4⟩
theorem slot_fn(R:Rel T cx A0 M w0 σs σ s a w){g:Operand}{f:FuncId}{b:Nat}(h:opv (fun t=>s.tmps.getD t .undf) g=.r (.c (.fn f [] [b]))):∃ n,σ b=some n∧a.eval g=.func (.func f) #[] #[.pointer (some ⟨n,0,none⟩)]:=by
 have h1:=R.operand (sl:=fun t=>s.tmps.getD t .undf) (fun t=>.inr rfl) g
 rw[h] at h1
 obtain⟨us,vs,e,hu,hv⟩:=(show ∃ us vs:List Value,a.eval g=.func (.func f) us.toArray vs.toArray∧ptrs σ [] us∧ptrs σ [b] vs from h1)
 obtain⟨n,hn,rfl⟩:=ptrs_one hv
 rw[ptrs_none hu] at e
 exact⟨n,hn,e⟩
end
noncomputable def nothF:Func:=Tryz.f5
noncomputable def nothS:Code×Code×List Code:=(splitF (bodyOf nothF)).getD (.skip,.skip,[])
theorem mOneG(i j:Int):SpecC Tryz.prog true 13 [] (.r (.row ((rawQ (⟨1,0⟩:QC)).cells++(rawQ (⟨0,0⟩:QC)).cells++(rawQ (⟨0,0⟩:QC)).cells++(rawQ (⟨1,0⟩:QC)).cells++[gl (.bool false)]))):=mOne
noncomputable def nothC(i j:Int):List (GC Tryz.prog (L0 i j) true):=[gs (mOneG i j) [] (.r (.row (syms 2 32++[.lit (.bool false)])))]
noncomputable def nothC2(i j:Int):List (GC Tryz.prog (L0 i j) true):=[gs sameNN [.c (.lit .nilp),.c (.lit .nilp)] (.r (.c (.lit (.bool true)))),gsm sameZN [0] [netT] [.c (.own 0 0),.c (.lit .nilp)] (.r (.c (.lit (.bool true))))]
noncomputable def nothX(i j:Int):Cx:=upN (gcx tys true (L0 i j) (nothC i j) netB []) netF 1 3
noncomputable def nothY(i j:Int)(d:Deferred):Cx:={ gcx tys true (L0 i j) (nothC2 i j) netB [] with dfs:=[d] }
theorem nothX_ok(i j:Int):CxOk Tryz.prog (gT (L0 i j)) (nothX i j):=upN_ok (gcx_ok tys_ok _ _ _) mixed rfl netF_ok 1 3
theorem nothY_ok(i j:Int)(d:Deferred):CxOk Tryz.prog (gT (L0 i j)) (nothY i j d) :=
 let h:=gcx_ok (P:=Tryz.prog) (hp:=true) (L:=L0 i j) tys_ok (nothC2 i j) netB []
 ⟨h.table,h.tys,h.calls,h.enters,h.bins,h.others,no_inl _ rfl⟩
noncomputable def stN(i j:Int):AS:=stOf (evC (nothX i j) 2000 nothS.1 (enter nothF [] [.c (.lit .nilp),.c (.sym 0),.c (.sym 1)]))
noncomputable def stZ(i j:Int):AS:=stOf (evC (nothX i j) 2000 nothS.1 (enter nothF [netT] [.c (.own 0 0),.c (.sym 0),.c (.sym 1)]))
noncomputable def nothG:Operand:=match nothS.2.1 with|.block _ (.rangeFunc g _ _ _)=>g|_=>.tmp 0
noncomputable def nothR:Nat×Array Tmp×Code×Code:=match nothS.2.1 with|.block id (.rangeFunc _ ps a b)=>(id,ps,a,b)|_=>(0,#[],.skip,.skip)
theorem noth_split:splitF (bodyOf nothF)=some (nothS.1,.block nothR.1 (.rangeFunc nothG nothR.2.1 nothR.2.2.1 nothR.2.2.2),nothS.2.2):=by kernel_rfl
theorem noth_body:nothF.body=some (bodyOf nothF):=by kernel_rfl
section
variable(i j:Int)
theorem stN_ok:evC (nothX i j) 2000 nothS.1 (enter nothF [] [.c (.lit .nilp),.c (.sym 0),.c (.sym 1)])=some (.normal,stN i j):=endsN_ok (by kernel_rfl)
theorem stZ_ok:evC (nothX i j) 2000 nothS.1 (enter nothF [netT] [.c (.own 0 0),.c (.sym 0),.c (.sym 1)])=some (.normal,stZ i j):=endsN_ok (by kernel_rfl)
theorem stN_end(d:Deferred):endsL (nothY i j d) nothF (.bool true) (evCL (nothY i j d) 2000 nothS.2.2 (stN i j))=true:=by kernel_rfl
theorem stZ_end(d:Deferred):endsL (nothY i j d) nothF (.bool true) (evCL (nothY i j d) 2000 nothS.2.2 (stZ i j))=true:=by kernel_rfl
theorem stN_fn:opv (fun t=>(stN i j).tmps.getD t .undf) nothG=.r (.c (.fn 47 [] [62])):=by kernel_rfl
theorem stN_box:(stN i j).blocks[62]?=some (.live ⟨[.lit .nilp],22,none⟩):=by kernel_rfl
theorem stZ_fn:opv (fun t=>(stZ i j).tmps.getD t .undf) nothG=.r (.c (.fn 47 [] [63])):=by kernel_rfl
theorem stZ_box:(stZ i j).blocks[63]?=some (.live ⟨[.own 0 0],22,none⟩):=by kernel_rfl
theorem stZ_net:(stZ i j).blocks[0]?=some (.lent ⟨[.lit .nils,.lit .nils,.lit .nils],27,none⟩):=by kernel_rfl
theorem nothNil:SpecC Tryz.prog true 5 [.c (gl .nilp),.c (gx (.int .i64 i)),.c (gx (.int .i64 j))] (.r (.c (gl (.bool true)))) :=
 ⟨eo5,fun w A vs hR hA hu=>by
  have ha:arsK (L0 i j) [.c (.lit .nilp),.c (.sym 0),.c (.sym 1)]=some [.c (gl .nilp),.c (gx (.int .i64 i)),.c (gx (.int .i64 j))]:=by kernel_rfl
  refine(ev_rg (nothX_ok i j) mixed (upN_cuts rfl _ _ _) ((upN_dfs _ _ _ _).trans rfl) (cx2:=nothY i j) (nothY_ok i j) (fun d=>upN_hp _ _ _ _) (fun d=>upN_ints _ _ _ _) (fun d=>rfl) (fun d=>rfl) (fn:=nothF) Tryz.func5 noth_body noth_split
   (bs:=[]) (l:=.bool true) 2000 (by rfl) (stN_ok i j) (stN_end i j) eo47 ?_ ⟨fun _=>none,fun _=>0⟩ w A vs (fun h=>hR rfl) hA ((arsK_ok ha).2 hu) (fun b ab h=>by simp at h) (fun b _=>rfl)).mono fun r w' h=>⟨_,h.1,rfl,h.2⟩
  intro A0 w0 σ a w R
  obtain⟨n,hn,e⟩:=slot_fn R (stN_fn i j)
  obtain⟨n',us',g1,g3,g4⟩:=live_own R (stN_box i j)
  cases hn.symm.trans g1
  match us',g4 with
  | [u],g4 =>
   cases(show u=.pointer none from g4.1)
   exact⟨_,e,fun k W hW=>allNil k W n ((hW.block n (Array.getElem?_eq_some_iff.1 g3).1).trans g3)⟩⟩
theorem nothZero:SpecM Tryz.prog true 5 [([gl .nils,gl .nils,gl .nils],27)] [.own 0 0,.f (.c (gx (.int .i64 i))),.f (.c (gx (.int .i64 j)))] (.r (.c (gl (.bool true)))) :=
 ⟨eo5,fun σ w A vs hR hA hbl hbey hu=>by
  have ha:arsL (L0 i j) [.c (.own 0 0),.c (.sym 0),.c (.sym 1)]=some [.own 0 0,.f (.c (gx (.int .i64 i))),.f (.c (gx (.int .i64 j)))]:=by kernel_rfl
  have hb:absK (L0 i j) [netT]=some [([gl .nils,gl .nils,gl .nils],27)]:=by kernel_rfl
  obtain⟨hl,hg⟩:=absK_get hb
  refine(ev_rg (nothX_ok i j) mixed (upN_cuts rfl _ _ _) ((upN_dfs _ _ _ _).trans rfl) (cx2:=nothY i j) (nothY_ok i j) (fun d=>upN_hp _ _ _ _) (fun d=>upN_ints _ _ _ _) (fun d=>rfl) (fun d=>rfl) (fn:=nothF) Tryz.func5 noth_body noth_split
   (bs:=[netT]) (l:=.bool true) 2000 (by kernel_rfl) (stZ_ok i j) (stZ_end i j) eo47 ?_ σ w A vs (fun h=>hR rfl) hA ((arsL_ok ha).2 hu) (fun b ab h=>by
    obtain⟨gs,h1,h2⟩:=hg b ab h
    obtain⟨n,us,k1,k2,k3,k4⟩:=hbl b gs ab.ty h1
    exact⟨n,us,k1,k2,k3,(acsK_ok h2).2 k4⟩) (fun b h=>hbey b (by simpa using h))).mono fun r w' h=>⟨_,h.1,rfl,h.2⟩
  intro A0 w0 σ a w R
  obtain⟨n,hn,e⟩:=slot_fn R (stZ_fn i j)
  obtain⟨n',us',g1,g3,g4⟩:=live_own R (stZ_box i j)
  cases hn.symm.trans g1
  obtain⟨m',ks',k1,k3,k4⟩:=lent_own R (stZ_net i j)
  match us',g4,ks',k4 with
  | [u],g4,[x,y,z],k4 =>
   obtain⟨m,q1,rfl⟩:=(show ∃ m,σ 0=some m∧u=.pointer (some ⟨m,0,none⟩) from g4.1)
   cases k1.symm.trans q1
   cases(show x=.slice none 0 0 from k4.1)
   cases(show y=.slice none 0 0 from k4.2.1)
   cases(show z=.slice none 0 0 from k4.2.2.1)
   exact⟨_,e,fun k W hW=>allZero k W n m' ((hW.block n (Array.getElem?_eq_some_iff.1 g3).1).trans g3) ((hW.block m' (Array.getElem?_eq_some_iff.1 k3).1).trans k3)⟩⟩
theorem law_nil:SpecC Tryz.prog true 3 [.c (gx (.int .i64 i)),.c (gx (.int .i64 j))] (.r (.c (gl (.bool true)))) :=
  ev_spi (L:=[gx (.int .i64 i),gx (.int .i64 j)]) tys_ok mixed
    [gs (nothNil i j) [.c (.lit .nilp),.c (.sym 0),.c (.sym 1)] (.r (.c (.lit (.bool true)))),gsm (nothZero i j) [8] [netT] [.c (.own 0 0),.c (.sym 0),.c (.sym 1)] (.r (.c (.lit (.bool true)))),
     gsm sameNZ [16] [netT] [.c (.lit .nilp),.c (.own 0 0)] (.r (.c (.lit (.bool true)))),gs lknown [] (.r (.c (.lit (.bool true))))]
    [] [] netF_ok 1 0 Tryz.func3 eo3 2000 [.c (.sym 0),.c (.sym 1)] (.r (.c (.lit (.bool true))))
end
end Go.Proofs.YtplakbflfckldaaGreat
