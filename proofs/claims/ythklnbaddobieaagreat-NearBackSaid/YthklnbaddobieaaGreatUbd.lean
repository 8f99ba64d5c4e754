/- Laws for the walk. -/
import Derived.Test.YthklnbaddobieaaGreatUbc
set_option linter.unusedVariables false
set_option maxHeartbeats 4000000
namespace Tr
open Go Go.RowKit
section
variable{T:Nat→Fact}{cx cx':Cx}{A0 M:Nat→Prop}{w0:World}{σs σ σ1:Sg}{s:AS}{a:Act}{w w':World}{P:Program}{bl:Nat→Option BK}
theorem inl_join(ht:TOk T cx.ints)(R:Rel T cx A0 M w0 σs σ s a w)(hbl:∀ b k,bl b=some k→s.blocks[b]?=some k){A0' M':Nat→Prop}
  (hA':∀ n,A0' n↔(A0 n∨∃ b ab,s.blocks[b]?=some (BK.live ab)∧σ b=some n∧∀ ab,bl b≠some (BK.live ab))) (hM':∀ n,M' n↔∃ b ab,bl b=some (BK.live ab)∧σ b=some n)
  {s1:AS} {a1:Act} (R1:Rel T cx A0' M' w σ σ1 s1 a1 w') {ids:List Nat} {new:Nat} {wv bs:List (Nat×BK)} (h1:ids.all (fun b=>decide (s.blocks.length≤b))=true) (h2:nodupB ids=true) (h3:freeB bl new ids.length=true)
  (h4:nodupB ((wv++bs).map (·.1))=true) (h5:wvis (renOf bl s.blocks.length new ids) bl s1.blocks (List.range s.blocks.length)=some wv) (h6:births (renOf bl s.blocks.length new ids) s1.blocks ids new=some bs)
  {r r':AV} {v:Value} (hr:r.ren (renOf bl s.blocks.length new ids)=some r') (hv:r.ok T σ1 v w' (Al A0' σ1 s1.blocks)) :
  ∃ σ2,∀ d,Rel T cx A0 M w0 σs σ2 (s.put d ⟨r',wv++bs⟩) (a.put d v) w':=by
 let ρ:=renOf bl s.blocks.length new ids
 let at2:Nat→Option Nat:=fun x=>match (if new≤x then ids[x - new]? else none) with|some id=>σ1 id|none=>σ x
 let rm2:Nat→Nat:=fun x=>match (if new≤x then ids[x - new]? else none) with|some id=>σ1.room id|none=>σ.room x
 obtain⟨σ2,hat,hrm⟩:∃ σ2:Sg,(∀ x,σ2 x=at2 x)∧∀ x,σ2.room x=rm2 x:=⟨⟨at2,rm2⟩,fun _=>rfl,fun _=>rfl⟩
 have hres:∀ k id,ids[k]?=some id→σ2 (new+k)=σ1 id∧σ2.room (new+k)=σ1.room id:=fun k id h=>by
  rw[hat,hrm]
  simp only[at2,rm2]
  rw[if_pos (by omega),show new+k - new=k by omega,h]
  exact⟨rfl,rfl⟩
 have hoth:∀ x,(∀ k,k<ids.length→x≠new+k)→σ2 x=σ x∧σ2.room x=σ.room x:=fun x h=>by
  rw[hat,hrm]
  simp only[at2,rm2]
  by_cases e:new≤x
  ·rw[if_pos e]
   have hn:ids[x - new]?=none:=by
    cases hq:ids[x - new]? with
    | none=>rfl
    | some id=>exact absurd (show x=new+(x - new) by omega) (h _ (List.getElem?_eq_some_iff.1 hq).1)
   rw[hn]; exact⟨rfl,rfl⟩
  ·rw[if_neg e]; exact⟨rfl,rfl⟩
 have hfree:∀ k,k<ids.length→s.blocks[new+k]?=some .unborn:=fun k hk=>hbl _ _ (freeB_spec h3 k hk)
 have hlen:∀{x:Nat} {k:BK},s.blocks[x]?=some k→x<s.blocks.length:=fun h=>(List.getElem?_eq_some_iff.1 h).1
 have hnr:∀{x:Nat} {k:BK},s.blocks[x]?=some k→k≠.unborn→∀ j,j<ids.length→x≠new+j:=fun h hk j hj e=>by
  subst e
  rw[hfree j hj] at h; cases h; exact hk rfl
 have hSub:Sub σ σ2:=fun b n hb=>by
  have hno:∀ k,k<ids.length→b≠new+k:=fun k hk e=>by
   subst e
   rw[R.unborn _ (hfree k hk)] at hb; cases hb
  obtain⟨e1,e2⟩:=hoth b hno
  exact⟨e1.trans hb,e2⟩
 have hle:∀ k id,ids[k]?=some id→s.blocks.length≤id:=fun k id h=>by
  rw[List.all_eq_true] at h1
  simpa using h1 id (List.mem_of_getElem? h)
 have hρv:∀ b ab,bl b=some (BK.live ab)→ρ b=some b:=fun b ab h=>by
  show renOf bl s.blocks.length new ids b=some b
  unfold renOf
  rw[if_pos (hlen (hbl _ _ h)),h]
 have hρr:∀ k id,ids[k]?=some id→ρ id=some (new+k):=fun k id h=>by
  show renOf bl s.blocks.length new ids id=some (new+k)
  unfold renOf
  rw[if_neg (by have:=hle k id h; omega),idx_get h2 h]
  rfl
 have hRn:Rn ρ σ1 σ2:=fun b c n hb hn=>by
  have hb:renOf bl s.blocks.length new ids b=some c:=hb
  unfold renOf at hb
  split at hb
  ·have key:∀ k,bl b=some k→k≠.unborn→(∃ m,σ b=some m)→σ2 b=some n∧σ2.room b=σ1.room b:=fun k hk hku ⟨m,hm⟩=>by
    obtain⟨e1,e2⟩:=hoth b (hnr (hbl _ _ hk) hku)
    obtain⟨e3,e4⟩:=R1.start b m hm
    rw[e3] at hn; cases hn
    exact⟨e1.trans hm,e2.trans e4.symm⟩
   split at hb
   ·rename_i ab hk
    cases hb
    obtain⟨m,hm,_⟩:=R.blocks b ab (hbl _ _ hk)
    exact key _ hk (by simp) ⟨m,hm⟩
   ·rename_i ab hk
    cases hb
    obtain⟨m,hm,_⟩:=R.lent b ab (hbl _ _ hk)
    exact key _ hk (by simp) ⟨m,hm⟩
   ·cases hb
  ·obtain⟨k,hk,rfl⟩:=Option.map_eq_some_iff.1 hb
   obtain⟨e1,e2⟩:=hres k b (idx_spec hk)
   exact⟨e1.trans hn,e2⟩
 obtain⟨hw1,hw2⟩:=wvis_spec List.nodup_range h5
 obtain⟨hb1,hb2⟩:=births_spec h6
 obtain⟨B,hB⟩:∃ B,B=setL s.blocks (wv++bs):=⟨_,rfl⟩
 have hBr:∀ k id,ids[k]?=some id→∃ ab1 ab2,s1.blocks[id]?=some (BK.live ab1)∧ab1.ren ρ=some ab2∧B[new+k]?=some (BK.live ab2):=fun k id h=>by
  obtain⟨ab1,ab2,e1,e2,e3⟩:=hb1 k id h
  refine⟨ab1,ab2,e1,e2,?_⟩
  rw[hB]
  exact setL_mem h4 (List.mem_append_right _ e3) (hlen (hfree k (List.getElem?_eq_some_iff.1 h).1))
 have hnb:∀{x:Nat},(∀ k,k<ids.length→x≠new+k)→∀ kk,(x,kk) ∉ bs:=fun h kk hm=>by
  obtain⟨k,e1,e2,_⟩:=hb2 _ _ hm
  exact h k e1 e2
 have hBv:∀ b ab,bl b=some (BK.live ab)→B[b]?=some .dead∨∃ ab1 ab2,s1.blocks[b]?=some (BK.live ab1)∧ab1.ren ρ=some ab2∧B[b]?=some (BK.live ab2):=fun b ab h=>by
  have hs:=hbl _ _ h
  rcases hw1 b (by simpa using hlen hs) ab h with⟨e1,e2⟩|⟨ab1,ab2,e1,e2,e3⟩
  ·left
   rw[hB]
   exact setL_mem h4 (List.mem_append_left _ e2) (hlen hs)
  ·right
   refine⟨ab1,ab2,e1,e2,?_⟩
   rw[hB]
   rcases e3 with⟨rfl,e4⟩|e4
   ·rw[setL_get]
    ·exact hs
    ·intro k hk
     rcases List.mem_append.1 hk with hk|hk
     ·exact e4 k hk
     ·exact hnb (hnr hs (by simp)) k hk
   ·exact setL_mem h4 (List.mem_append_left _ e4) (hlen hs)
 have hnw:∀ x,(∀ k,k<ids.length→x≠new+k)→(∀ ab,bl x≠some (BK.live ab))→∀ k,(x,k) ∉ wv++bs:=fun x g1 g2 k hk=>by
  rcases List.mem_append.1 hk with hk|hk
  ·obtain⟨_,⟨ab,e⟩,_⟩:=hw2 x k hk
   exact g2 ab e
  ·exact hnb g1 k hk
 have hBo:∀ x,(∀ k,k<ids.length→x≠new+k)→(∀ ab,bl x≠some (BK.live ab))→B[x]?=s.blocks[x]?:=fun x g1 g2=>by
  rw[hB]
  exact setL_get _ _ _ (hnw x g1 g2)
 have htri:∀ x,(∃ k id,ids[k]?=some id∧x=new+k)∨(∃ ab,bl x=some (BK.live ab))∨((∀ k,k<ids.length→x≠new+k)∧∀ ab,bl x≠some (BK.live ab)):=fun x=>by
  by_cases e1:∃ k,k<ids.length∧x=new+k
  ·obtain⟨k,hk,e⟩:=e1
   exact .inl ⟨k,ids[k],List.getElem?_eq_getElem hk,e⟩
  ·by_cases e2:∃ ab,bl x=some (BK.live ab)
   ·exact .inr (.inl e2)
   ·exact .inr (.inr ⟨fun k hk e=>e1 ⟨k,hk,e⟩,fun ab e=>e2 ⟨ab,e⟩⟩)
 have hcl:∀ x ab,B[x]?=some (BK.live ab)→(∃ id ab1,s1.blocks[id]?=some (BK.live ab1)∧ab1.ren ρ=some ab∧ρ id=some x)∨(s.blocks[x]?=some (BK.live ab)∧(∀ ab',bl x≠some (BK.live ab'))∧(∀ k,k<ids.length→x≠new+k)∧σ2 x=σ x):=fun x ab hx=>by
  rcases htri x with⟨k,id,hk,rfl⟩|⟨ab0,h0⟩|⟨g1,g2⟩
  ·obtain⟨ab1,ab2,e1,e2,e3⟩:=hBr k id hk
   rw[hx] at e3; cases e3
   exact .inl ⟨id,ab1,e1,e2,hρr k id hk⟩
  ·rcases hBv x ab0 h0 with e|⟨ab1,ab2,e1,e2,e3⟩
   ·rw[hx] at e; cases e
   ·rw[hx] at e3; cases e3
    exact .inl ⟨x,ab1,e1,e2,hρv x ab0 h0⟩
  ·right
   refine⟨by rw[←hBo x g1 g2]; exact hx,g2,g1,(hoth x g1).1⟩
 have hcat:∀{x id n m:Nat} {ab1:AB},s1.blocks[id]?=some (BK.live ab1)→ρ id=some x→σ2 x=some n→σ1 id=some n:=fun{x id n m ab1} e1 e2 e3=>by
  obtain⟨q,g1,_⟩:=R1.blocks id ab1 e1
  have:=(hRn _ _ _ e2 g1).1
  rw[e3] at this; cases this; exact g1
 have hA1:∀{n:Nat},A0 n→A0' n:=fun h=>(hA' _).2 (.inl h)
 have hI:∀{x n:Nat} {ab:AB},s.blocks[x]?=some (BK.live ab)→(∀ ab',bl x≠some (BK.live ab'))→σ x=some n→A0' n:=fun h h' h''=>(hA' _).2 (.inr ⟨_,_,h,h'',h'⟩)
 have hMA:∀{n:Nat},M' n→Al A0 σ s.blocks n:=fun h=>by
  obtain⟨c,ab,e1,e2⟩:=(hM' _).1 h
  exact .inr ⟨c,ab,hbl _ _ e1,e2⟩
 have hM0:∀{n:Nat},M' n→w0.heap.size≤n∨M n:=fun{n} h=>by
  obtain⟨c,ab,e1,e2⟩:=(hM' _).1 h
  obtain⟨m,g1,g2,_⟩:=R.blocks c ab (hbl _ _ e1)
  rw[e2] at g1; cases g1
  exact g2
 have hAl2:∀ n,Al A0 σ2 B n→Al A0' σ1 s1.blocks n:=fun n h=>by
  rcases h with h|⟨x,ab,hx,hn⟩
  ·exact .inl (hA1 h)
  ·rcases hcl x ab hx with⟨id,ab1,e1,e2,e3⟩|⟨e1,e2,e3,e4⟩
   ·exact .inr ⟨id,ab1,e1,hcat (m:=0) e1 e3 hn⟩
   ·exact .inl (hI e1 e2 (by rw[←e4]; exact hn))
 have hAl3:∀ n,n<w.heap.size→Al A0 σ2 B n→Al A0 σ s.blocks n:=fun n hlt h=>by
  rcases h with h|⟨x,ab,hx,hn⟩
  ·exact .inl h
  ·rcases hcl x ab hx with⟨id,ab1,e1,e2,e3⟩|⟨e1,e2,e3,e4⟩
   ·have e5:=hcat (m:=0) e1 e3 hn
    obtain⟨q,g1,g2,_⟩:=R1.blocks id ab1 e1
    rw[e5] at g1; cases g1
    rcases g2 with g2|g2
    ·omega
    ·exact hMA g2
   ·exact .inr ⟨x,ab,e1,by rw[←e4]; exact hn⟩
 have hk':Kp w' w' (Al A0' σ1 s1.blocks) (Al A0 σ2 B):=⟨Nat.le_refl _,fun b _ h=>⟨rfl,fun h'=>h (hAl2 b h')⟩⟩
 subst hB
 refine⟨σ2,fun d=>R.stepT (fun b=>∃ ab,bl b=some (BK.live ab)) ht hSub ⟨R1.below.size,fun b g1 g2=>⟨R1.below.block b g1 fun hm=>g2 (hMA hm),fun h=>g2 (hAl3 b g1 h)⟩⟩
  ⟨R1.below.os,R1.below.tape,R1.below.output,R1.below.size,fun b hlt hm=>R1.below.block b (Nat.lt_of_lt_of_le hlt R.below.size) fun h=>?_⟩ (fun n h=>?_) (fun b n g1 g2=>?_) (fun b ab g1 g2=>?_) (fun b ab g=>?_) (fun b g=>?_) (fun x y n ab ac hx hy h7 h8=>?_)
  ((AV.ren_ok hRn hr hv).keep ht (Sub.refl _) hk')⟩
 ·rcases hM0 h with h|h
  ·omega
  ·exact hm h
 ·have hA:A0' n:=by
   rcases h with h|⟨b,ab,e1,e2,e3,_⟩
   ·exact hA1 h
   ·exact hI e1 (fun ab' e=>e3 ⟨ab',e⟩) e2
  exact R1.below.block n (R1.low n hA) (R1.apart n hA)
 ·rcases htri b with⟨k,id,hk,rfl⟩|⟨ab0,h0⟩|⟨e1,e2⟩
  ·obtain⟨ab1,ab2,_,_,e3⟩:=hBr k id hk
   exact⟨hfree k (List.getElem?_eq_some_iff.1 hk).1,ab2,e3⟩
  ·obtain⟨m,e1,_⟩:=R.blocks b ab0 (hbl _ _ h0)
   rw[g2] at e1; cases e1
  ·rw[(hoth b e1).1,g2] at g1; cases g1
 ·rcases hcl b ab g1 with⟨id,ab1,e1,e2,e3⟩|⟨e1,e2,e3,e4⟩
  ·obtain⟨m,q1,q2,q3⟩:=R1.blocks id ab1 e1
   refine⟨m,(hRn _ _ _ e3 q1).1,?_,live_ren ht hRn e2 e3 q1 hk' q3⟩
   rcases q2 with q2|q2
   ·left; exact Nat.le_trans R.below.size q2
   ·exact hM0 q2
  ·exfalso
   rcases g2 with⟨ab',g2⟩|⟨k,g2⟩
   ·exact e2 ab' g2
   ·exact hnw b e3 e2 k g2
 ·rcases htri b with⟨k,id,hk,rfl⟩|⟨ab0,h0⟩|⟨e1,e2⟩
  ·obtain⟨ab1,ab2,_,_,e3⟩:=hBr k id hk
   rw[g] at e3; cases e3
  ·rcases hBv b ab0 h0 with e|⟨ab1,ab2,_,_,e⟩<;>(rw[g] at e; cases e)
  ·rw[←hBo b e1 e2]; exact g
 ·rcases htri b with⟨k,id,hk,rfl⟩|⟨ab0,h0⟩|⟨e1,e2⟩
  ·obtain⟨ab1,ab2,_,_,e3⟩:=hBr k id hk
   rw[g] at e3; cases e3
  ·rcases hBv b ab0 h0 with e|⟨ab1,ab2,_,_,e⟩<;>(rw[g] at e; cases e)
  ·rw[←hBo b e1 e2]; exact g
 ·have mix:∀{x y:Nat} {id:Nat} {ab1 ac:AB},s1.blocks[id]?=some (BK.live ab1)→ρ id=some x→σ2 x=some n→s.blocks[y]?=some (BK.live ac)→(∀ ab',bl y≠some (BK.live ab'))→σ2 y=σ y→σ2 y=some n→False:=fun{x y id ab1 ac} e1 e3 h7 f1 f2 f4 h8=>by
   have e5:=hcat (m:=0) e1 e3 h7
   obtain⟨q,g1,g2,_⟩:=R1.blocks id ab1 e1
   rw[e5] at g1; cases g1
   have hA:=hI f1 f2 (by rw[←f4]; exact h8)
   rcases g2 with g2|g2
   ·have:=R1.low n hA; omega
   ·exact R1.apart n hA g2
  rcases hcl x ab hx with⟨id,ab1,e1,e2,e3⟩|⟨e1,e2,e3,e4⟩
  ·rcases hcl y ac hy with⟨id',ab1',f1,f2,f3⟩|⟨f1,f2,f3,f4⟩
   ·have e5:=hcat (m:=0) e1 e3 h7
    have f5:=hcat (m:=0) f1 f3 h8
    have:=R1.inj id id' n ab1 ab1' e1 f1 e5 f5
    subst this
    rw[e3] at f3; cases f3; rfl
   ·exact(mix e1 e3 h7 f1 f2 f4 h8).elim
  ·rcases hcl y ac hy with⟨id',ab1',f1,f2,f3⟩|⟨f1,f2,f3,f4⟩
   ·exact(mix f1 f3 h8 e1 e2 e4 h7).elim
   ·exact R.inj x y n ab ac e1 f1 (by rw[←e4]; exact h7) (by rw[←f4]; exact h8)
theorem okCells_cx(e2:cx'.hp=cx.hp)(e3:cx'.ints=cx.ints):okCells cx'=okCells cx:=by
 funext l; unfold okCells; rw[e2,e3]
theorem LiveOk_cx(e2:cx'.hp=cx.hp)(e3:cx'.ints=cx.ints){A:Nat→Prop}{b n:Nat}{ab:AB}:LiveOk T cx' σ A w b ab n↔LiveOk T cx σ A w b ab n:=by
 unfold LiveOk; rw[okCells_cx e2 e3,e2]
theorem Rel.recx(e2:cx'.hp=cx.hp)(e3:cx'.ints=cx.ints)(e4:cx'.dfs=cx.dfs)(R:Rel T cx' A0 M w0 σs σ s a w):Rel T cx A0 M w0 σs σ s a w :=
 ⟨R.size,R.slots,R.defers.trans e4,fun b ab h=>by
  obtain⟨n,g1,g2,g3⟩:=R.blocks b ab h
  exact⟨n,g1,g2,(LiveOk_cx e2 e3).1 g3⟩,fun b ab h=>by
  obtain⟨n,g1,g2,g3⟩:=R.lent b ab h
  exact⟨n,g1,g2,(LiveOk_cx e2 e3).1 g3⟩,R.inj,R.unborn,R.beyond,R.below,fun h=>R.rcv (by rw[e2]; exact h),R.low,R.apart,R.mine,R.start⟩
theorem findF_spec{f:FuncId}{q:Fn}:∀{l:List Fn},findF f l=some q→q∈l∧q.f=f
 | [],h=>by cases h
 | p :: l,h=>by
  unfold findF at h
  split at h
  ·rename_i e; cases h; exact⟨List.mem_cons_self,by simpa using e⟩
  ·obtain⟨h1,h2⟩:=findF_spec h
   exact⟨List.mem_cons_of_mem _ h1,h2⟩
theorem inlEnd_sound(C:CxOk P T cx)(R:Rel T cx A0 M w0 σs σ s a w)(hbl:∀ b k,bl b=some k→s.blocks[b]?=some k){A0' M':Nat→Prop}
  (hA':∀ n,A0' n↔(A0 n∨∃ b ab,s.blocks[b]?=some (BK.live ab)∧σ b=some n∧∀ ab,bl b≠some (BK.live ab))) (hM':∀ n,M' n↔∃ b ab,bl b=some (BK.live ab)∧σ b=some n)
  {s1:AS} {a1:Act} (R1:Rel T cx A0' M' w σ σ1 s1 a1 w') {q:Fn} {args:List AR} {new:Nat} {r':AV} {ws:List (Nat×BK)} {rd:List Nat} (h:inlEnd cx q args bl s.blocks.length new s1=some (r',ws,rd)) :
  ∃ v,(results q.fn a1.tmps).run P w'=.ok v w'∧∃ σ2,∀ d,Rel T cx A0 M w0 σs σ2 (s.put d ⟨r',ws⟩) (a.put d v) w':=by
 unfold inlEnd at h
 split at h
 ·cases h
 ·rename_i r hr
  obtain⟨v,e1,e2⟩:=resA_ok C R1 hr
  refine⟨v,e1,?_⟩
  simp only at h
  split at h
  ·rename_i r2 wv bs k1 k2 k3
   split at h
   ·rename_i hc
    simp only[Bool.and_eq_true] at hc
    obtain⟨⟨⟨c1,c2⟩,c3⟩,c4⟩:=hc
    cases h
    exact inl_join C.table R hbl hA' hM' R1 c1 c2 c3 c4 k2 k3 k1 e2
   ·cases h
  ·cases h
theorem inl_sound(C:CxOk P T cx)(hm:P.follows .mixedOrders=true)(hcu:cx.cuts=[]){fs:List Fn}(hfs:∀ q∈fs,P.funcs[q.f]?=some q.fn∧Enters P q.f)(e1:cx'.inl=inlOf cx fs)(e2:cx'.hp=cx.hp)(e3:cx'.ints=cx.ints)(e4:cx'.dfs=cx.dfs)(hdf:cx.dfs=[]):InlOk P T cx':=by
 intro A0 M w0 σs σ s a w R' f args vs bl new r ws rd hbl hargs he
 have R:=R'.recx e2 e3 e4
 rw[e1] at he
 unfold inlOf at he
 split at he
 ·cases he
 ·rename_i q hq
  obtain⟨hq1,hq2⟩:=findF_spec hq
  obtain⟨hf,hen⟩:=hfs q hq1
  subst hq2
  refine⟨hen,?_⟩
  split at he
  ·cases he
  ·rename_i c hb
   obtain⟨A0',hA'⟩:∃ A0':Nat→Prop,∀ n,A0' n↔(A0 n∨∃ b ab,s.blocks[b]?=some (BK.live ab)∧σ b=some n∧∀ ab,bl b≠some (BK.live ab)):=⟨_,fun _=>Iff.rfl⟩
   obtain⟨M',hM'⟩:∃ M':Nat→Prop,∀ n,M' n↔∃ b ab,bl b=some (BK.live ab)∧σ b=some n:=⟨_,fun _=>Iff.rfl⟩
   have hAA:∀{n:Nat},A0' n→Al A0 σ s.blocks n:=fun h=>by
    rcases(hA' _).1 h with h|⟨b,ab,g1,g2,_⟩
    ·exact .inl h
    ·exact .inr ⟨b,ab,g1,g2⟩
   have hAl:Al A0' σ (visB bl s.blocks.length)=Al A0 σ s.blocks:=by
    funext n
    refine propext ⟨?_,?_⟩
    ·rintro(h|⟨b,ab,g1,g2⟩)
     ·exact hAA h
     ·obtain⟨_,g3⟩:=visB_get g1
      exact .inr ⟨b,ab,hbl _ _ (visK_live g3),g2⟩
    ·rintro(h|⟨b,ab,g1,g2⟩)
     ·exact .inl ((hA' _).2 (.inl h))
     ·by_cases e:∃ ab',bl b=some (BK.live ab')
      ·obtain⟨ab',e⟩:=e
       refine .inr ⟨b,ab',?_,g2⟩
       rw[visB_set (List.getElem?_eq_some_iff.1 g1).1,e]; rfl
      ·exact .inl ((hA' _).2 (.inr ⟨b,ab,g1,g2,fun ab' h=>e ⟨ab',h⟩⟩))
   have hlen:=hargs.length
   have R0:Rel T cx A0' M' w σ σ { tmps:=args.map AV.r++List.replicate (q.fn.ntmps - args.length) .undf,blocks:=visB bl s.blocks.length } { tmps:=vs.toArray++Array.replicate (q.fn.ntmps - vs.toArray.size) undef,defers:=[] } w:=by
    refine⟨?_,?_,hdf.symm,fun b ab h=>?_,fun b ab h=>?_,fun b c n ab ac hb hc h1 h2=>?_,fun b h=>?_,fun b h=>?_,BelowM.refl _ _ _,fun hp n hn=>R.rcvs C.table hp n (hAA hn),fun n hn=>R.low' n (hAA hn),fun n hn hm'=>?_,fun n hm'=>?_,Sub.refl _⟩
    ·simp[hlen]
    ·show ∀ i (av:AV),(args.map AV.r++List.replicate (q.fn.ntmps - args.length) AV.undf)[i]?=some av→av.ok T _ _ w (Al A0' σ (visB bl s.blocks.length))
     rw[hAl]
     have:q.fn.ntmps - vs.toArray.size=q.fn.ntmps - args.length:=by simp[hlen]
     rw[this]
     exact okr_slots hargs
    ·show ∃ n,σ b=some n∧_∧LiveOk T cx σ (Al A0' σ (visB bl s.blocks.length)) w b ab n
     rw[hAl]
     have hv:=visK_live (visB_get h).2
     obtain⟨n,g1,_,g3⟩:=R.blocks b ab (hbl _ _ hv)
     exact⟨n,g1,.inr ((hM' _).2 ⟨b,ab,hv,g1⟩),g3⟩
    ·show ∃ n,σ b=some n∧_∧LiveOk T cx σ (Al A0' σ (visB bl s.blocks.length)) w b ab n
     rw[hAl]
     have hv:=visK_lent (visB_get h).2
     obtain⟨n,g1,g2,g3⟩:=R.lent b ab (hbl _ _ hv)
     exact⟨n,g1,(hA' _).2 (.inl g2),g3⟩
    ·exact R.inj b c n ab ac (hbl _ _ (visK_live (visB_get hb).2)) (hbl _ _ (visK_live (visB_get hc).2)) h1 h2
    ·exact(visK_unborn (visB_get h).2).elim
    ·have h':(visB bl s.blocks.length).length≤b:=h
     exact R.beyond b (by simpa[visB] using h')
    ·obtain⟨c,ac,g1,g2⟩:=(hM' _).1 hm'
     obtain⟨m,g3,g4,_⟩:=R.blocks c ac (hbl _ _ g1)
     rw[g2] at g3; cases g3
     rcases(hA' _).1 hn with h|⟨b,ab,k1,k2,k3⟩
     ·rcases g4 with g4|g4
      ·have:=R.low n h; omega
      ·exact R.apart n h g4
     ·have:=R.inj b c n ab ac k1 (hbl _ _ g1) k2 g2
      subst this
      exact k3 _ g1
    ·obtain⟨c,ac,g1,g2⟩:=(hM' _).1 hm'
     exact R.lt (hbl _ _ g1) g2
   have fin:∀(s1:AS),inlEnd cx q args bl s.blocks.length new s1=some (r,ws,rd)→∀(σ':Sg) (a':Act) (w':World),Rel T cx A0' M' w σ σ' s1 a' w' →
     a'.defers=[]∧∃ v,(results q.fn a'.tmps).run P w'=.ok v w'∧∃ u,Ending.returned v=.returned u∧∃ σ2,∀ d,Rel T cx' A0 M w0 σs σ2 (s.put d ⟨r,ws⟩) (a.put d u) w':=fun s1 h1 σ' a' w' R1=>by
    obtain⟨v,g1,σ2,g2⟩:=inlEnd_sound C R hbl hA' hM' R1 h1
    exact⟨R1.defers.trans hdf,v,g1,v,rfl,σ2,fun d=>(g2 d).recx e2.symm e3.symm e4.symm⟩
   refine calls_of_wp hf hb ?_
   split at he
   ·rename_i s1 hev
    exact(evC_sound C hm (.inl hcu) (fun k hk=>by rw[hcu] at hk; cases hk) q.fuel (fun x _ k hk=>by rw[hcu] at hk; cases hk) R0 hev fun σ' a' w' R1=>fin s1 he σ' a' w' R1).1
   ·rename_i s1 hev
    exact(evC_sound C hm (.inl hcu) (fun k hk=>by rw[hcu] at hk; cases hk) q.fuel (fun x _ k hk=>by rw[hcu] at hk; cases hk) R0 hev fun σ' a' w' R1=>fin s1 he σ' a' w' R1).1
   ·cases he
def upC(cx:Cx)(fs:List Fn)(width:Nat):Cx:={ cx with inl:=inlOf cx fs,width }
theorem upC_ok(C:CxOk P T cx)(hm:P.follows .mixedOrders=true)(hcu:cx.cuts=[]){fs:List Fn}(hfs:∀ q∈fs,P.funcs[q.f]?=some q.fn∧Enters P q.f)(width:Nat)(hdf:cx.dfs=[]):CxOk P T (upC cx fs width) :=
 ⟨C.table,C.tys,C.calls,C.enters,C.bins,C.others,inl_sound C hm hcu hfs rfl rfl rfl rfl hdf⟩
end
end Tr
namespace Tr
open Go Go.RowKit
section
variable{P:Program}{L:List GF}{hp:Bool}
def upN(cx:Cx)(fs:List Fn)(width:Nat):Nat→Cx
 | 0=>cx
 | n+1=>upC (upN cx fs width n) fs width
theorem upN_cuts{cx:Cx}(h:cx.cuts=[])(fs:List Fn)(width:Nat):∀ n,(upN cx fs width n).cuts=[]
 | 0=>h
 | n+1=>upN_cuts h fs width n
theorem upN_hp(cx:Cx)(fs:List Fn)(width:Nat):∀ n,(upN cx fs width n).hp=cx.hp
 | 0=>rfl
 | n+1=>upN_hp cx fs width n
def FnsOk(P:Program)(fs:List Fn):Prop:=∀ q∈fs,P.funcs[q.f]?=some q.fn∧Enters P q.f
theorem FnsOk.nil:FnsOk P []:=fun q h=>by cases h
theorem FnsOk.cons{f:FuncId}{fn:Func}{n:Nat}{fs:List Fn}(h:P.funcs[f]?=some fn)(e:Enters P f)(k:FnsOk P fs):FnsOk P (⟨f,fn,n⟩ :: fs):=fun q hq=>by
 rcases List.mem_cons.1 hq with hq|hq
 ·subst hq; exact⟨h,e⟩
 ·exact k q hq
theorem upN_dfs(cx:Cx)(fs:List Fn)(width:Nat):∀ n,(upN cx fs width n).dfs=cx.dfs
 | 0=>rfl
 | n+1=>upN_dfs cx fs width n
theorem upN_ok'{T:Nat→Fact}{cx:Cx}(C:CxOk P T cx)(hm:P.follows .mixedOrders=true)(hcu:cx.cuts=[]){fs:List Fn}(hfs:FnsOk P fs)(width:Nat)(hdf:cx.dfs=[]):∀ n,CxOk P T (upN cx fs width n)
 | 0=>C
 | n+1=>upC_ok (upN_ok' C hm hcu hfs width hdf n) hm (upN_cuts hcu fs width n) hfs width ((upN_dfs cx fs width n).trans hdf)
theorem upN_ok{T:Nat→Fact}{cx:Cx}(C:CxOk P T cx)(hm:P.follows .mixedOrders=true)(hcu:cx.cuts=[]){fs:List Fn}(hfs:FnsOk P fs)(width n:Nat)(hdf:cx.dfs=[]:=by rfl):CxOk P T (upN cx fs width n):=upN_ok' C hm hcu hfs width hdf n
theorem ev_spi{tys:List (TypeId×TyI)}(ht:∀ p∈tys,p.2.good P p.1=true)(hm:P.follows .mixedOrders=true)(C:List (GC P L hp))(B:List (GB P L))(O:List (GO P L)){fs:List Fn}(hfs:FnsOk P fs)(width depth:Nat){f:FuncId}{fn:Func}(hf:P.funcs[f]?=some fn)(ent:Enters P f)(fuel:Nat)(args:List AR)(res:AV)
  {fa:List FR} {fr:FV} (hev:evF (upN (gcx tys hp L C B O) fs width depth) fn fuel args res=true:=by kernel_rfl) (ha:arsK L args=some fa:=by kernel_rfl) (hr:res.lk L=some fr:=by kernel_rfl):SpecC P hp f fa fr :=
 ⟨ent,fun w A vs hR hA hu=>(ev_spec (upN_ok (gcx_ok ht C B O) hm rfl hfs width depth) hm hf fuel hev (fun k hk=>by rw[upN_cuts rfl] at hk; cases hk) (fun c _ x _ k hk=>by rw[upN_cuts rfl] at hk; cases hk) σ0 w A vs (fun h=>hR (by rw[upN_hp] at h; exact h)) hA ((arsK_ok ha).2 hu) ((upN_dfs _ fs width depth).trans rfl)).mono fun r w' ⟨v,h1,h2,h3⟩=>⟨v,h1,(AV.lk_ok hr).1 h2,h3⟩⟩
end
end Tr
