/- Laws for the walk. -/
import Derived.Test.YthklnbaddobieaaGreatUar
set_option linter.unusedVariables false
set_option maxHeartbeats 4000000
namespace Tr
open Go
section
variable{P:Program}
theorem run_loadVar_part(w:World)(g off:Nat)(t ty:TypeId)(cs vs:Array Value)(fr:Nat×Nat)(d:TypeDesc)(hg:w.heap[g]?=some (.cells cs t fr))
  (hu:P.underlying ty=some d) (hd:(match d with|.struct _|.array _ _=>true|_=>false)=true) (hi:(P.info? ty).map (·.size)=some vs.size)
  (hv:(cs.toList.drop off).take vs.size=vs.toList) :
  (loadVar ty ⟨g,off,none⟩).run P w=.ok (.agg vs) w:=by
 have hl:(loadCells ⟨g,off,none⟩ vs.toList.length).run P w=.ok vs.toList.toArray w :=
  run_loadCells_list (P:=P) w ⟨g,off,none⟩ vs.toList (fun j v hj=>by
   have hadd:(⟨g,off,none⟩:Addr).add j=⟨g,off+j,none⟩:=by unfold Addr.add; split<;>simp_all
   rw[hadd,cell_of_row w g _ cs t fr hg]
   rw[←hv,List.getElem?_take] at hj
   split at hj
   ·rw[List.getElem?_drop] at hj
    simpa using hj
   ·cases hj)
 cases hq:P.info? ty with
 | none=>simp[hq] at hi
 | some i =>
  have hs:i.size=vs.size:=by simpa[hq] using hi
  have hagg:(isAgg ty).run P w=.ok true w:=by
   unfold isAgg
   rw[Sem.run_bind,run_underlying hu w]
   cases d<;>simp_all
  simp only[Array.length_toList,Array.toArray_toList] at hl
  simp[loadVar,Sem.run_bind,hagg,Go.sizeOf,typeInfo,hq,hs,hl]
end
end Tr
namespace Tr
open Go Go.RowKit
def σ0:Sg:=⟨fun _=>none,fun _=>0⟩
theorem Sub.zero(σ:Sg):Sub σ0 σ:=fun _ _ h=>by cases h
theorem Sub.trans{σ σ' σ'':Sg}(h:Sub σ σ')(k:Sub σ' σ''):Sub σ σ'':=fun b n e=>⟨(k b n (h b n e).1).1,(k b n (h b n e).1).2.trans (h b n e).2⟩
def Al(A0:Nat→Prop)(σ:Sg)(bs:List BK):Nat→Prop:=fun n=>A0 n∨∃ b ab,bs[b]?=some (.live ab)∧σ b=some n
structure BelowM(M:Nat→Prop)(n:Nat)(w w':World):Prop where
 os:w'.os=w.os
 tape:w'.tape=w.tape
 output:w'.output=w.output
 size:w.heap.size≤w'.heap.size
 block:∀ b,b<n→¬M b→w'.heap[b]?=w.heap[b]?
theorem BelowM.refl(M:Nat→Prop)(n:Nat)(w:World):BelowM M n w w:=⟨rfl,rfl,rfl,Nat.le_refl _,fun _ _ _=>rfl⟩
theorem BelowM.trans{M:Nat→Prop}{n:Nat}{w w1 w2:World}(h:BelowM M n w w1)(k:BelowM M n w1 w2):BelowM M n w w2 :=
 ⟨k.os.trans h.os,k.tape.trans h.tape,k.output.trans h.output,Nat.le_trans h.size k.size,fun b hb hm=>(k.block b hb hm).trans (h.block b hb hm)⟩
theorem BelowM.of{M:Nat→Prop}{n m:Nat}{w w':World}(h:Below m w w')(hn:n≤m):BelowM M n w w':=⟨h.os,h.tape,h.output,h.size,fun b hb _=>h.block b (by omega)⟩
theorem BelowM.below{n:Nat}{w w':World}(h:BelowM (fun _=>False) n w w'):Below n w w':=⟨h.os,h.tape,h.output,h.size,fun b hb=>h.block b hb (fun h=>h)⟩
def LiveOk(T:Nat→Fact)(cx:Cx)(σ:Sg)(A:Nat→Prop)(w:World)(b:Nat)(ab:AB)(n:Nat):Prop :=
 ∃ vs rest:List Value,w.heap[n]?=some (.cells (vs++rest).toArray ab.ty (0,0))∧oks T σ ab.cells vs w A∧okCells cx ab.cells=true ∧
  (cx.hp=true→∀ v∈rest,∀(k:Unit) (x:Int),v≠.int .u32 x)∧(∀ v∈rest,v.oneCell'=true)∧(match ab.more with|none=>rest=[]|some es=>(vs++rest).length=σ.room b*es)
structure Rel(T:Nat→Fact)(cx:Cx)(A0 M:Nat→Prop)(w0:World)(σs σ:Sg)(s:AS)(a:Act)(w:World):Prop where
 size:a.tmps.size=s.tmps.length
 slots:∀ i (av:AV),s.tmps[i]?=some av→av.ok T σ (a.tmps.getD i undef) w (Al A0 σ s.blocks)
 defers:a.defers=cx.dfs
 blocks:∀ b ab,s.blocks[b]?=some (.live ab)→∃ n,σ b=some n∧(w0.heap.size≤n∨M n)∧LiveOk T cx σ (Al A0 σ s.blocks) w b ab n
 lent:∀ b ab,s.blocks[b]?=some (.lent ab)→∃ n,σ b=some n∧A0 n∧LiveOk T cx σ (Al A0 σ s.blocks) w b ab n
 inj:∀ b c n ab ac,s.blocks[b]?=some (.live ab)→s.blocks[c]?=some (.live ac)→σ b=some n→σ c=some n→b=c
 unborn:∀ b,s.blocks[b]?=some .unborn→σ b=none
 beyond:∀ b,s.blocks.length≤b→σ b=none
 below:BelowM M w0.heap.size w0 w
 rcv:cx.hp=true→Rcv A0 w
 low:∀ n,A0 n→n<w0.heap.size
 apart:∀ n,A0 n→¬M n
 mine:∀ n,M n→n<w0.heap.size
 start:Sub σs σ
section
variable{T:Nat→Fact}{cx:Cx}{A0 M:Nat→Prop}{w0:World}{σs:Sg}{σ σ':Sg}{s:AS}{a:Act}{w w':World}{P:Program}
theorem Rel.slot(R:Rel T cx A0 M w0 σs σ s a w)(t:Nat):(s.tmps.getD t .undf).ok T σ (a.tmps.getD t undef) w (Al A0 σ s.blocks):=by
 cases h:s.tmps[t]? with
 | some av =>
  have:s.tmps.getD t .undf=av:=by simp[List.getD,h]
  rw[this]; exact R.slots t av h
 | none =>
  have h1:s.tmps.getD t .undf=.undf:=by simp[List.getD,h]
  have h2:a.tmps.getD t undef=undef:=by
   have:a.tmps[t]?=none:=by
    rw[List.getElem?_eq_none_iff] at h
    exact Array.getElem?_eq_none (by rw[R.size]; exact h)
   simp[this]
  rw[h1,h2]; rfl
theorem Rel.operand(R:Rel T cx A0 M w0 σs σ s a w){sl:Nat→AV}(hsl:∀ t,sl t=.junk∨sl t=s.tmps.getD t .undf)(x:Operand):(opv sl x).ok T σ (a.eval x) w (Al A0 σ s.blocks):=by
 cases x with
 | tmp t =>
  show(sl t).ok T σ (a.tmps.getD t undef) w _
  rcases hsl t with h|h
  ·rw[h]; trivial
  ·rw[h]; exact R.slot t
 | const v =>
  show(match LV.of v with|some l=>AV.r (.c (.lit l))|none=>.junk).ok T σ v w _
  cases h:LV.of v with
  | some l=>exact(LV.of_val h).symm
  | none=>trivial
 | global g=>trivial
 | func f=>exact⟨[],[],rfl,trivial,trivial⟩
theorem AV.ar_ok{x:AV}{y:AR}(h:x.ar=some y){v:Value}{A:Nat→Prop}(hx:x.ok T σ v w A):y.ok T σ v w A:=by
 cases x<;>simp[AV.ar] at h
 subst h; exact hx
theorem AV.bool_ok{x:AV}{b:Bool}(h:x.bool=some b){v:Value}{A:Nat→Prop}(hx:x.ok T σ v w A):v=.bool b:=by
 unfold AV.bool at h
 split at h
 ·cases h; exact hx
 ·cases h
theorem AV.own_ok{x:AV}{b o:Nat}(h:x.own=some (b,o)){v:Value}{A:Nat→Prop}(hx:x.ok T σ v w A):∃ n,σ b=some n∧v=.pointer (some ⟨n,o,none⟩):=by
 unfold AV.own at h
 split at h
 ·cases h; exact hx
 ·cases h
theorem Act.put_defers'(a:Act)(d:Option Tmp)(v:Value):(a.put d v).defers=a.defers:=by cases d<;>rfl
theorem setL_length:∀(ws:List (Nat×BK)) (l:List BK),(setL l ws).length=l.length
 | [],l=>rfl
 | (b,k) :: ws,l=>by simp[setL,setL_length ws]
theorem setL_get:∀(ws:List (Nat×BK)) (l:List BK) (b:Nat),(∀ k,(b,k) ∉ ws)→(setL l ws)[b]?=l[b]?
 | [],l,b,_=>rfl
 | (c,k) :: ws,l,b,h=>by
  have hne:c≠b:=fun e=>h k (by simp[e])
  rw[setL,setL_get ws _ b (fun k' hk=>h k' (by simp[hk])),List.getElem?_set_ne hne]
theorem slots_put(hsz:a.tmps.size=s.tmps.length){A':Nat→Prop}(hk:∀ i (av:AV),s.tmps[i]?=some av→av.ok T σ' (a.tmps.getD i undef) w' A'){d:Option Nat}{av:AV}{v:Value}(hv:av.ok T σ' v w' A')(wr:List (Nat×BK)) :
  (a.put d v).tmps.size=(s.put d ⟨av,wr⟩).tmps.length∧∀ i (x:AV),(s.put d ⟨av,wr⟩).tmps[i]?=some x→x.ok T σ' ((a.put d v).tmps.getD i undef) w' A':=by
 cases d with
 | none=>exact⟨hsz,hk⟩
 | some d =>
  refine⟨by simp[Act.put,AS.put,hsz],fun i x hx=>?_⟩
  simp only[AS.put,List.getElem?_set] at hx
  simp only[Act.put]
  split at hx
  ·rename_i e
   subst e
   split at hx
   ·rename_i hlt
    cases hx
    have:(a.tmps.setIfInBounds d v).getD d undef=v:=by simp[hsz,hlt]
    rw[this]; exact hv
   ·cases hx
  ·rename_i e
   have:(a.tmps.setIfInBounds d v).getD i undef=a.tmps.getD i undef:=by
    simp[Array.getElem?_setIfInBounds_ne e]
   rw[this]; exact hk i x hx
theorem LiveOk.keep(ht:TOk T cx.ints){A A':Nat→Prop}{b n:Nat}{ab:AB}(hs:Sub σ σ')(hb:σ b=some n)(hk:Kp w w' A A')(he:w'.heap[n]?=w.heap[n]?)(h:LiveOk T cx σ A w b ab n):LiveOk T cx σ' A' w' b ab n:=by
 obtain⟨vs,rest,h1,h2,h3,h4,h5,h6⟩:=h
 refine⟨vs,rest,he.trans h1,h2.keep ht hs hk,h3,h4,h5,?_⟩
 rw[(hs _ _ hb).2]; exact h6
theorem Rel.lt(R:Rel T cx A0 M w0 σs σ s a w){b n:Nat}{ab:AB}(h:s.blocks[b]?=some (.live ab))(hn:σ b=some n):n<w.heap.size:=by
 obtain⟨m,h1,_,vs,rest,h2,_⟩:=R.blocks b ab h
 rw[hn] at h1; cases h1
 exact(Array.getElem?_eq_some_iff.1 h2).1
theorem Rel.low'(R:Rel T cx A0 M w0 σs σ s a w):∀ n,Al A0 σ s.blocks n→n<w.heap.size:=by
 rintro n (h|⟨b,ab,h1,h2⟩)
 ·exact Nat.lt_of_lt_of_le (R.low n h) R.below.size
 ·exact R.lt h1 h2
theorem Rel.stepT(tch:Nat→Prop)(ht:TOk T cx.ints)(R:Rel T cx A0 M w0 σs σ s a w){ws:List (Nat×BK)}{d:Option Nat}{av:AV}{v:Value}(hs:Sub σ σ')
  (hk:Kp w w' (Al A0 σ s.blocks) (Al A0 σ' (setL s.blocks ws))) (hb:BelowM M w0.heap.size w w')
  (hsame:∀ n,(A0 n∨∃ b ab,s.blocks[b]?=some (.live ab)∧σ b=some n∧¬tch b∧∀ k,(b,k) ∉ ws)→w'.heap[n]?=w.heap[n]?)
  (hold:∀ b n,σ' b=some n→σ b=none→s.blocks[b]?=some .unborn∧∃ ab,(setL s.blocks ws)[b]?=some (.live ab))
  (hlive:∀ b ab,(setL s.blocks ws)[b]?=some (.live ab)→(tch b∨∃ k,(b,k)∈ws)→∃ n,σ' b=some n∧(w0.heap.size≤n∨M n)∧LiveOk T cx σ' (Al A0 σ' (setL s.blocks ws)) w' b ab n)
  (hlent:∀(b:Nat) (ab:AB),(setL s.blocks ws)[b]?=some (BK.lent ab)→s.blocks[b]?=some (BK.lent ab))
  (hun:∀ b:Nat,(setL s.blocks ws)[b]?=some BK.unborn→s.blocks[b]?=some BK.unborn)
  (hinj:∀ b c n ab ac,(setL s.blocks ws)[b]?=some (.live ab)→(setL s.blocks ws)[c]?=some (.live ac)→σ' b=some n→σ' c=some n→b=c)
  (hv:av.ok T σ' v w' (Al A0 σ' (setL s.blocks ws))):Rel T cx A0 M w0 σs σ' (s.put d ⟨av,ws⟩) (a.put d v) w':=by
 obtain⟨h1,h2⟩:=slots_put (σ':=σ') (w':=w') (A':=Al A0 σ' (setL s.blocks ws)) R.size (fun i av h=>(R.slots i av h).keep ht hs hk) (d:=d) hv ws
 refine⟨h1,h2,by rw[Act.put_defers']; exact R.defers,fun b ab h=>?_,fun b ab h=>?_,hinj,fun b h=>?_,fun b h=>?_,R.below.trans hb,fun hp=>?_,R.low,R.apart,R.mine,R.start.trans hs⟩
 ·by_cases hw:tch b∨∃ k,(b,k)∈ws
  ·exact hlive b ab h hw
  ·have hw':∀ k,(b,k) ∉ ws:=fun k hk=>hw (.inr ⟨k,hk⟩)
   have h':s.blocks[b]?=some (.live ab):=by rw[←setL_get ws _ b hw']; exact h
   obtain⟨n,g1,g2,g3⟩:=R.blocks b ab h'
   exact⟨n,(hs _ _ g1).1,g2,g3.keep ht hs g1 hk (hsame n (.inr ⟨b,ab,h',g1,fun ht=>hw (.inl ht),hw'⟩))⟩
 ·obtain⟨n,g1,g2,g3⟩:=R.lent b ab (hlent b ab h)
  exact⟨n,(hs _ _ g1).1,g2,g3.keep ht hs g1 hk (hsame n (.inl g2))⟩
 ·have hu:=hun b h
  cases e:σ' b with
  | none=>rfl
  | some n =>
   obtain⟨_,ab,g⟩:=hold b n e (R.unborn b hu)
   have h':(setL s.blocks ws)[b]?=some .unborn:=h
   rw[h'] at g; cases g
 ·have hl:s.blocks.length≤b:=by
   have:(setL s.blocks ws).length≤b:=h
   rwa[setL_length] at this
  cases e:σ' b with
  | none=>rfl
  | some n =>
   obtain⟨g,_⟩:=hold b n e (R.beyond b hl)
   exact absurd (List.getElem?_eq_some_iff.1 g).1 (by omega)
 ·intro n hn
  obtain⟨z,h3,h4⟩:=R.rcv hp n hn
  exact⟨z,(hsame n (.inl hn)).trans h3,h4⟩
theorem Rel.step(ht:TOk T cx.ints)(R:Rel T cx A0 M w0 σs σ s a w){ws:List (Nat×BK)}{d:Option Nat}{av:AV}{v:Value}(hs:Sub σ σ')
  (hk:Kp w w' (Al A0 σ s.blocks) (Al A0 σ' (setL s.blocks ws))) (hb:BelowM M w0.heap.size w w')
  (hsame:∀ n,(A0 n∨∃ b ab,s.blocks[b]?=some (.live ab)∧σ b=some n∧∀ k,(b,k) ∉ ws)→w'.heap[n]?=w.heap[n]?)
  (hold:∀ b n,σ' b=some n→σ b=none→s.blocks[b]?=some .unborn∧∃ ab,(setL s.blocks ws)[b]?=some (.live ab))
  (hlive:∀ b ab,(setL s.blocks ws)[b]?=some (.live ab)→(∃ k,(b,k)∈ws)→∃ n,σ' b=some n∧(w0.heap.size≤n∨M n)∧LiveOk T cx σ' (Al A0 σ' (setL s.blocks ws)) w' b ab n)
  (hlent:∀(b:Nat) (ab:AB),(setL s.blocks ws)[b]?=some (BK.lent ab)→s.blocks[b]?=some (BK.lent ab))
  (hun:∀ b:Nat,(setL s.blocks ws)[b]?=some BK.unborn→s.blocks[b]?=some BK.unborn)
  (hinj:∀ b c n ab ac,(setL s.blocks ws)[b]?=some (.live ab)→(setL s.blocks ws)[c]?=some (.live ac)→σ' b=some n→σ' c=some n→b=c)
  (hv:av.ok T σ' v w' (Al A0 σ' (setL s.blocks ws))):Rel T cx A0 M w0 σs σ' (s.put d ⟨av,ws⟩) (a.put d v) w' :=
 R.stepT (fun _=>False) ht hs hk hb (fun n h=>hsame n (h.imp id fun⟨b,ab,h1,h2,_,h3⟩=>⟨b,ab,h1,h2,h3⟩)) hold (fun b ab h1 h2=>hlive b ab h1 (h2.resolve_left id)) hlent hun hinj hv
theorem Rel.val(R:Rel T cx A0 M w0 σs σ s a w){av:AV}{v:Value}(hv:av.ok T σ v w (Al A0 σ s.blocks))(d:Option Nat):Rel T cx A0 M w0 σs σ (s.put d ⟨av,[]⟩) (a.put d v) w:=by
 obtain⟨h1,h2⟩:=slots_put (A':=Al A0 σ s.blocks) R.size R.slots hv (d:=d) []
 exact⟨h1,h2,by rw[Act.put_defers']; exact R.defers,R.blocks,R.lent,R.inj,R.unborn,R.beyond,R.below,R.rcv,R.low,R.apart,R.mine,R.start⟩
theorem Rel.world(ht:TOk T cx.ints)(R:Rel T cx A0 M w0 σs σ s a w)(hb:Below w.heap.size w w'):Rel T cx A0 M w0 σs σ s a w':=by
 have hk:Kp w w' (Al A0 σ s.blocks) (Al A0 σ s.blocks):=⟨hb.size,fun b h1 h2=>⟨hb.block b h1,h2⟩⟩
 refine⟨R.size,fun i av h=>(R.slots i av h).keep ht (Sub.refl _) hk,R.defers,fun b ab h=>?_,fun b ab h=>?_,R.inj,R.unborn,R.beyond,R.below.trans (.of hb R.below.size),fun hp=>?_,R.low,R.apart,R.mine,R.start⟩
 ·obtain⟨n,h1,h2,h3⟩:=R.blocks b ab h
  exact⟨n,h1,h2,h3.keep ht (Sub.refl _) h1 hk (hb.block n (R.lt h h1))⟩
 ·obtain⟨n,h1,h2,h3⟩:=R.lent b ab h
  exact⟨n,h1,h2,h3.keep ht (Sub.refl _) h1 hk (hb.block n (Nat.lt_of_lt_of_le (R.low n h2) R.below.size))⟩
 ·intro n hn
  obtain⟨z,h3,h4⟩:=R.rcv hp n hn
  exact⟨z,(hb.block n (Nat.lt_of_lt_of_le (R.low n hn) R.below.size)).trans h3,h4⟩
theorem Rel.rcvs(ht:TOk T cx.ints)(R:Rel T cx A0 M w0 σs σ s a w)(hp:cx.hp=true):Rcv (Al A0 σ s.blocks) w:=by
 intro n hn
 rcases hn with hn|⟨b,ab,h1,h2⟩
 ·exact R.rcv hp n hn
 ·obtain⟨n',h3,h4,vs,rest,h5,h6,h7,h8,_⟩:=R.blocks b ab h1
  rw[h2] at h3; cases h3
  refine⟨_,h5,fun cs T' fr e i k x=>?_⟩
  cases e
  intro hi
  have hm:Value.int .u32 x∈vs++rest:=by
   simp only[List.getElem?_toArray] at hi
   exact List.mem_of_getElem? hi
  rcases List.mem_append.1 hm with hm|hm
  ·have h9:ab.cells.all (AC.noint cx.ints)=true:=by simpa[okCells,hp] using h7
   exact oks.noint ht h6 h9 _ hm k x rfl
  ·exact h8 hp _ hm k x rfl
theorem setL_one(l:List BK)(b:Nat)(k:BK)(c:Nat):(setL l [(b,k)])[c]?=if b=c then(if c<l.length then some k else none) else l[c]?:=by
 simp only[setL,List.getElem?_set]
 split
 ·rename_i e; subst e; rfl
 ·rfl
theorem Rel.born(ht:TOk T cx.ints)(R:Rel T cx A0 M w0 σs σ s a w){b n room:Nat}(hu:s.blocks[b]?=some .unborn)(hn:w.heap.size≤n)(hb:Below w.heap.size w w'){ab:AB}
  (hl:∀ σ':Sg,Sub σ σ'→σ' b=some n→σ'.room b=room→LiveOk T cx σ' (Al A0 σ' (setL s.blocks [(b,.live ab)])) w' b ab n) {av:AV} {v:Value}
  (hv:∀ σ':Sg,Sub σ σ'→σ' b=some n→σ'.room b=room→av.ok T σ' v w' (Al A0 σ' (setL s.blocks [(b,.live ab)]))) (d:Option Nat) :
  ∃ σ',Rel T cx A0 M w0 σs σ' (s.put d ⟨av,[(b,.live ab)]⟩) (a.put d v) w':=by
 have hub:=R.unborn b hu
 let σ':Sg:=⟨fun x=>if x=b then some n else σ x,fun x=>if x=b then room else σ.room x⟩
 have hσb:σ' b=some n:=by show(if b=b then some n else σ b)=_; rw[if_pos rfl]
 have hσ:∀ x,x≠b→σ' x=σ x:=fun x h=>by show(if x=b then some n else σ x)=_; rw[if_neg h]
 have hs:Sub σ σ':=fun x m h=>by
  have:x≠b:=fun e=>by subst e; rw[hub] at h; cases h
  exact⟨by rw[hσ x this]; exact h,by show(if x=b then room else σ.room x)=_; rw[if_neg this]⟩
 have hrb:σ'.room b=room:=by show(if b=b then room else σ.room b)=_; rw[if_pos rfl]
 have hlen:b<s.blocks.length:=(List.getElem?_eq_some_iff.1 hu).1
 have hk:Kp w w' (Al A0 σ s.blocks) (Al A0 σ' (setL s.blocks [(b,.live ab)])):=by
  refine⟨hb.size,fun m h1 h2=>⟨hb.block m h1,?_⟩⟩
  rintro(h3|⟨x,ac,h3,h4⟩)
  ·exact h2 (.inl h3)
  ·rw[setL_one] at h3
   by_cases e:b=x
   ·subst e; rw[hσb] at h4; cases h4; omega
   ·rw[if_neg e] at h3; rw[hσ x (Ne.symm e)] at h4; exact h2 (.inr ⟨x,ac,h3,h4⟩)
 refine⟨σ',R.step ht hs hk (.of hb R.below.size) (fun m hm=>hb.block m ?_) (fun x m h1 h2=>?_) (fun x ac h hx=>?_) (fun x ac h=>?_) (fun x h=>?_) (fun x y m ac ad hx hy h3 h4=>?_) (hv σ' hs hσb hrb)⟩
 ·rcases hm with hm|⟨x,ac,hx,hm,_⟩
  ·exact Nat.lt_of_lt_of_le (R.low m hm) R.below.size
  ·exact R.lt hx hm
 ·have e:x=b:=by
   refine Classical.byContradiction fun e=>?_
   rw[hσ x e,h2] at h1; cases h1
  subst e
  exact⟨hu,ab,by rw[setL_one,if_pos rfl,if_pos hlen]⟩
 ·obtain⟨k,hk⟩:=hx
  simp only[List.mem_singleton,Prod.mk.injEq] at hk
  obtain⟨rfl,rfl⟩:=hk
  rw[setL_one,if_pos rfl,if_pos hlen] at h
  cases h
  exact⟨n,hσb,.inl (Nat.le_trans R.below.size hn),hl σ' hs hσb hrb⟩
 ·rw[setL_one] at h
  split at h
  ·split at h<;>cases h
  ·exact h
 ·rw[setL_one] at h
  split at h
  ·split at h<;>cases h
  ·exact h
 ·rw[setL_one] at hx hy
  by_cases ex:b=x
  ·by_cases ey:b=y
   ·rw[←ex,←ey]
   ·exfalso
    rw[if_neg ey] at hy
    subst ex
    rw[hσb] at h3; cases h3
    rw[hσ y (Ne.symm ey)] at h4
    exact absurd (R.lt hy h4) (by omega)
  ·by_cases ey:b=y
   ·exfalso
    rw[if_neg ex] at hx
    subst ey
    rw[hσb] at h4; cases h4
    rw[hσ x (Ne.symm ex)] at h3
    exact absurd (R.lt hx h3) (by omega)
   ·rw[if_neg ex] at hx; rw[if_neg ey] at hy
    rw[hσ x (Ne.symm ex)] at h3; rw[hσ y (Ne.symm ey)] at h4
    exact R.inj x y m ac ad hx hy h3 h4
theorem Rel.fresh(ht:TOk T cx.ints)(R:Rel T cx A0 M w0 σs σ s a w){b:Nat}(hu:s.blocks[b]?=some .unborn){cs:List AC}{vs:List Value}{ty:TypeId}(hc:oks T σ cs vs w (Al A0 σ s.blocks))(ho:okCells cx cs=true){av:AV}{v:Value}
  (hv:∀ σ':Sg,σ' b=some w.heap.size→av.ok T σ' v (w.alloc (.cells vs.toArray ty)) (Al A0 σ' (setL s.blocks [(b,.live ⟨cs,ty,none⟩)]))) (d:Option Nat) :
  ∃ σ',Rel T cx A0 M w0 σs σ' (s.put d ⟨av,[(b,.live ⟨cs,ty,none⟩)]⟩) (a.put d v) (w.alloc (.cells vs.toArray ty)):=by
 have hb:Below w.heap.size w (w.alloc (.cells vs.toArray ty)):=br.alloc (Nat.le_refl _) _
 refine R.born ht (room:=0) hu (Nat.le_refl _) hb (fun σ' hs h1 _=>?_) (fun σ' _ h1 _=>hv σ' h1) d
 refine⟨vs,[],by simpa using heap_alloc_new w _,hc.keep ht hs ?_,ho,by simp,by simp,rfl⟩
 have hlen:b<s.blocks.length:=(List.getElem?_eq_some_iff.1 hu).1
 refine⟨hb.size,fun m g1 g2=>⟨hb.block m g1,?_⟩⟩
 rintro(h3|⟨x,ac,h3,h4⟩)
 ·exact g2 (.inl h3)
 ·rw[setL_one] at h3
  by_cases e:b=x
  ·subst e; rw[h1] at h4; cases h4; omega
  ·rw[if_neg e] at h3
   cases ac
   obtain⟨m',k1,_⟩:=R.blocks x _ h3
   rw[(hs _ _ k1).1] at h4; cases h4
   exact g2 (.inr ⟨x,_,h3,k1⟩)
theorem Al_set(b:Nat)(ab ab':AB)(hb:s.blocks[b]?=some (.live ab)):Al A0 σ (setL s.blocks [(b,.live ab')])=Al A0 σ s.blocks:=by
 have hlen:b<s.blocks.length:=(List.getElem?_eq_some_iff.1 hb).1
 funext n
 unfold Al
 refine propext (or_congr Iff.rfl ⟨?_,?_⟩)
 ·rintro⟨x,c,h1,h2⟩
  rw[setL_one] at h1
  by_cases e:b=x
  ·subst e; exact⟨b,ab,hb,h2⟩
  ·rw[if_neg e] at h1; exact⟨x,c,h1,h2⟩
 ·rintro⟨x,c,h1,h2⟩
  by_cases e:b=x
  ·subst e; exact⟨b,ab',by rw[setL_one,if_pos rfl,if_pos hlen],h2⟩
  ·exact⟨x,c,by rw[setL_one,if_neg e]; exact h1,h2⟩
theorem Rel.write(ht:TOk T cx.ints)(R:Rel T cx A0 M w0 σs σ s a w){b n:Nat}{ab ab':AB}(hb:s.blocks[b]?=some (.live ab))(hn:σ b=some n)
  (hl:Kp w w' (Al A0 σ s.blocks) (Al A0 σ s.blocks)→LiveOk T cx σ (Al A0 σ s.blocks) w' b ab' n) (hoth:∀ k,k≠n→w'.heap[k]?=w.heap[k]?) (hsz:w'.heap.size=w.heap.size) (hos:w'.os=w.os∧w'.tape=w.tape∧w'.output=w.output) (d:Option Nat) :
  Rel T cx A0 M w0 σs σ (s.put d ⟨.undf,[(b,.live ab')]⟩) (a.put d undef) w':=by
 have hlen:b<s.blocks.length:=(List.getElem?_eq_some_iff.1 hb).1
 have hAl:=Al_set (A0:=A0) (σ:=σ) b ab ab' hb
 have hk:Kp w w' (Al A0 σ s.blocks) (Al A0 σ s.blocks):=by
  refine⟨by omega,fun k h1 h2=>⟨hoth k fun e=>?_,h2⟩⟩
  subst e
  exact h2 (.inr ⟨b,ab,hb,hn⟩)
 obtain⟨n',g1,g2,_⟩:=R.blocks b ab hb
 rw[hn] at g1; cases g1
 refine R.step ht (Sub.refl σ) (by rw[hAl]; exact hk) ⟨hos.1,hos.2.1,hos.2.2,by omega,fun k hk hm=>hoth k fun e=>?_⟩ (fun m hm=>hoth m fun e=>?_) (fun x m h1 h2=>?_) (fun x ac h hx=>?_) (fun x ac h=>?_) (fun x h=>?_) (fun x y m ac ad hx hy h3 h4=>?_) rfl
 ·subst e
  rcases g2 with g2|g2
  ·omega
  ·exact hm g2
 ·subst e
  rcases hm with hm|⟨x,ac,hx,hm,hw⟩
  ·rcases g2 with g2|g2
   ·exact absurd (R.low m hm) (by omega)
   ·exact R.apart m hm g2
  ·have:=R.inj x b m ac ab hx hb hm hn
   subst this
   exact hw _ (List.mem_singleton.2 rfl)
 ·rw[h2] at h1; cases h1
 ·obtain⟨k,hk⟩:=hx
  simp only[List.mem_singleton,Prod.mk.injEq] at hk
  obtain⟨rfl,rfl⟩:=hk
  rw[setL_one,if_pos rfl,if_pos hlen] at h
  cases h
  rw[hAl]
  exact⟨n,hn,g2,hl hk⟩
 ·rw[setL_one] at h
  split at h
  ·split at h<;>cases h
  ·exact h
 ·rw[setL_one] at h
  split at h
  ·split at h<;>cases h
  ·exact h
 ·have hlv:∀ x (c:AB),(setL s.blocks [(b,.live ab')])[x]?=some (BK.live c)→∃ c':AB,s.blocks[x]?=some (BK.live c'):=fun x c h=>by
   rw[setL_one] at h
   by_cases e:b=x
   ·subst e; exact⟨ab,hb⟩
   ·rw[if_neg e] at h; exact⟨c,h⟩
  obtain⟨c',hc'⟩:=hlv x ac hx
  obtain⟨e',he'⟩:=hlv y ad hy
  exact R.inj x y m c' e' hc' he' h3 h4
theorem Rel.gave(ht:TOk T cx.ints)(R:Rel T cx A0 M w0 σs σ s a w){b n:Nat}{ab:AB}(hb:s.blocks[b]?=some (.live ab))(hn:σ b=some n)(hm:Mod n w w'){av:AV}{v:Value}(hv:av.ok T σ v w' (fun x=>Al A0 σ s.blocks x∧x≠n))(d:Option Nat) :
  Rel T cx A0 M w0 σs σ (s.put d ⟨av,[(b,.dead)]⟩) (a.put d v) w':=by
 have hlen:b<s.blocks.length:=(List.getElem?_eq_some_iff.1 hb).1
 obtain⟨n',g1,gn,_⟩:=R.blocks b ab hb
 rw[hn] at g1; cases g1
 have hA0:¬A0 n:=fun h=>gn.elim (fun g=>absurd (R.low n h) (by omega)) (R.apart n h)
 have hAl:Al A0 σ (setL s.blocks [(b,BK.dead)])=fun x=>Al A0 σ s.blocks x∧x≠n:=by
  funext x
  refine propext ⟨?_,?_⟩
  ·rintro(h|⟨y,c,h1,h2⟩)
   ·exact⟨.inl h,fun e=>by subst e; exact hA0 h⟩
   ·rw[setL_one] at h1
    by_cases e:b=y
    ·rw[if_pos e] at h1; split at h1<;>cases h1
    ·rw[if_neg e] at h1
     exact⟨.inr ⟨y,c,h1,h2⟩,fun e2=>e (R.inj y b n c ab h1 hb (by rw[←e2]; exact h2) hn).symm⟩
  ·rintro⟨h|⟨y,c,h1,h2⟩,h3⟩
   ·exact .inl h
   ·refine .inr ⟨y,c,?_,h2⟩
    rw[setL_one,if_neg fun e=>?_]
    ·exact h1
    ·subst e; rw[hn] at h2; cases h2; exact h3 rfl
 have hk:Kp w w' (Al A0 σ s.blocks) (Al A0 σ (setL s.blocks [(b,BK.dead)])):=by
  rw[hAl]
  refine⟨hm.size,fun k h1 h2=>⟨hm.block k h1 fun e=>?_,fun h=>h2 h.1⟩⟩
  subst e; exact h2 (.inr ⟨b,ab,hb,hn⟩)
 rw[←hAl] at hv
 refine R.step ht (Sub.refl σ) hk ⟨hm.os,hm.tape,hm.output,hm.size,fun k hk' hnm=>hm.block k (by have:=R.below.size; omega) fun e=>?_⟩ (fun m hmm=>?_) (fun x m h1 h2=>?_) (fun x ac h hx=>?_) (fun x ac h=>?_) (fun x h=>?_) (fun x y m ac ad hx hy h3 h4=>?_) hv
 ·subst e
  rcases gn with g|g
  ·omega
  ·exact hnm g
 ·have hlt:m<w.heap.size:=by
   rcases hmm with h|⟨x,ac,hx,h,_⟩
   ·exact Nat.lt_of_lt_of_le (R.low m h) R.below.size
   ·exact R.lt hx h
  refine hm.block m hlt fun e=>?_
  subst e
  rcases hmm with h|⟨x,ac,hx,h,hw⟩
  ·exact hA0 h
  ·have:=R.inj x b m ac ab hx hb h hn
   subst this
   exact hw _ (List.mem_singleton.2 rfl)
 ·rw[h2] at h1; cases h1
 ·obtain⟨k,hk⟩:=hx
  simp only[List.mem_singleton,Prod.mk.injEq] at hk
  obtain⟨rfl,rfl⟩:=hk
  rw[setL_one,if_pos rfl,if_pos hlen] at h
  cases h
 ·rw[setL_one] at h
  split at h
  ·split at h<;>cases h
  ·exact h
 ·rw[setL_one] at h
  split at h
  ·split at h<;>cases h
  ·exact h
 ·have hlv:∀(x:Nat) (c:AB),(setL s.blocks [(b,.dead)])[x]?=some (BK.live c)→s.blocks[x]?=some (BK.live c):=fun x c h=>by
   rw[setL_one] at h
   by_cases e:b=x
   ·rw[if_pos e] at h; split at h<;>cases h
   ·rw[if_neg e] at h; exact h
  exact R.inj x y m ac ad (hlv x ac hx) (hlv y ad hy) h3 h4
theorem Rel.forget(ht:TOk T cx.ints)(R:Rel T cx A0 M w0 σs σ s a w){b:Nat}{ab:AB}(hb:s.blocks[b]?=some (.live ab)):Rel T cx A0 M w0 σs σ { s with blocks:=s.blocks.set b .dead } a w:=by
 have hlen:b<s.blocks.length:=(List.getElem?_eq_some_iff.1 hb).1
 have hget:∀(x:Nat) (k:BK),(s.blocks.set b .dead)[x]?=some k→k≠.dead→s.blocks[x]?=some k:=fun x k h hk=>by
  by_cases e:b=x
  ·subst e
   have:(s.blocks.set b .dead)[b]?=some .dead:=by simp[hlen]
   rw[this] at h; cases h; exact absurd rfl hk
  ·rwa[List.getElem?_set_ne e] at h
 have hk:Kp w w (Al A0 σ s.blocks) (Al A0 σ (s.blocks.set b .dead)):=⟨Nat.le_refl _,fun n _ h=>⟨rfl,fun h'=>h (by
  rcases h' with h'|⟨x,ac,h1,h2⟩
  ·exact .inl h'
  ·exact .inr ⟨x,ac,hget x _ h1 (by simp),h2⟩)⟩⟩
 refine⟨R.size,fun i av h=>(R.slots i av h).keep ht (Sub.refl _) hk,R.defers,fun x ac h=>?_,fun x ac h=>?_,fun x y n ac ad h1 h2=>R.inj x y n ac ad (hget x _ h1 (by simp)) (hget y _ h2 (by simp)),fun x h=>R.unborn x (hget x _ h (by simp)),fun x h=>R.beyond x (by simpa using h),R.below,R.rcv,R.low,R.apart,R.mine,R.start⟩
 ·obtain⟨n,g1,g2,g3⟩:=R.blocks x ac (hget x _ h (by simp))
  exact⟨n,g1,g2,g3.keep ht (Sub.refl _) g1 hk rfl⟩
 ·obtain⟨n,g1,g2,g3⟩:=R.lent x ac (hget x _ h (by simp))
  exact⟨n,g1,g2,g3.keep ht (Sub.refl _) g1 hk rfl⟩
theorem Rel.rename(ht:TOk T cx.ints)(R:Rel T cx A0 M w0 σs σ s a w){b c n:Nat}{ab:AB}(hb:s.blocks[b]?=some (.live ab))(hu:s.blocks[c]?=some .unborn)(hn:σ b=some n) :
  ∃ σ':Sg,σ' c=some n∧σ'.room c=σ.room b∧Sub σ σ'∧Rel T cx A0 M w0 σs σ' { s with blocks:=(s.blocks.set c (.live ab)).set b .dead } a w:=by
 have hub:=R.unborn c hu
 let σ':Sg:=⟨fun x=>if x=c then some n else σ x,fun x=>if x=c then σ.room b else σ.room x⟩
 have hσc:σ' c=some n:=if_pos rfl
 have hrc:σ'.room c=σ.room b:=if_pos rfl
 have hσ:∀ x,x≠c→σ' x=σ x:=fun x h=>if_neg h
 have hr:∀ x,x≠c→σ'.room x=σ.room x:=fun x h=>if_neg h
 have hs:Sub σ σ':=fun x m h=>by
  have:x≠c:=fun e=>by subst e; rw[hub] at h; cases h
  exact⟨(hσ x this).trans h,hr x this⟩
 have hbc:b≠c:=fun e=>by subst e; rw[hb] at hu; cases hu
 have hlb:b<s.blocks.length:=(List.getElem?_eq_some_iff.1 hb).1
 have hlc:c<s.blocks.length:=(List.getElem?_eq_some_iff.1 hu).1
 have hgc:((s.blocks.set c (.live ab)).set b .dead)[c]?=some (.live ab):=by
  rw[List.getElem?_set_ne hbc]; simp[hlc]
 have hget:∀(x:Nat) (k:BK),((s.blocks.set c (.live ab)).set b .dead)[x]?=some k→k≠.dead→(x=c∧k=.live ab)∨(x≠c∧x≠b∧s.blocks[x]?=some k):=fun x k h hk=>by
  by_cases e:x=b
  ·subst e
   have:((s.blocks.set c (.live ab)).set x .dead)[x]?=some .dead:=by simp[hlb]
   rw[this] at h; cases h; exact absurd rfl hk
  ·rw[List.getElem?_set_ne (Ne.symm e)] at h
   by_cases e2:x=c
   ·subst e2
    have:(s.blocks.set x (BK.live ab))[x]?=some (.live ab):=by simp[hlc]
    rw[this] at h; cases h; exact .inl ⟨rfl,rfl⟩
   ·rw[List.getElem?_set_ne (Ne.symm e2)] at h
    exact .inr ⟨e2,e,h⟩
 have hk:Kp w w (Al A0 σ s.blocks) (Al A0 σ' ((s.blocks.set c (.live ab)).set b .dead)):=⟨Nat.le_refl _,fun m _ h=>⟨rfl,fun h'=>h (by
  rcases h' with h'|⟨x,ac,h1,h2⟩
  ·exact .inl h'
  ·rcases hget x _ h1 (by simp) with⟨rfl,e⟩|⟨e1,e2,e3⟩
   ·rw[hσc] at h2; cases h2; exact .inr ⟨b,ab,hb,hn⟩
   ·exact .inr ⟨x,ac,e3,by rw[←hσ x e1]; exact h2⟩)⟩⟩
 obtain⟨m,q1,q2,q3⟩:=R.blocks b ab hb
 rw[hn] at q1; cases q1
 refine⟨σ',hσc,hrc,hs,R.size,fun i av h=>(R.slots i av h).keep ht hs hk,R.defers,fun x ac h=>?_,fun x ac h=>?_,fun x y m ac ad h1 h2 h3 h4=>?_,fun x h=>?_,fun x h=>?_,R.below,R.rcv,R.low,R.apart,R.mine,R.start.trans hs⟩
 ·rcases hget x _ h (by simp) with⟨rfl,e⟩|⟨e1,e2,e3⟩
  ·cases e
   obtain⟨vs,rest,g1,g2,g3,g4,g5,g6⟩:=q3
   exact⟨n,hσc,q2,vs,rest,g1,g2.keep ht hs hk,g3,g4,g5,by rw[hrc]; exact g6⟩
  ·obtain⟨k,g1,g2,g3⟩:=R.blocks x ac e3
   exact⟨k,(hs _ _ g1).1,g2,g3.keep ht hs g1 hk rfl⟩
 ·rcases hget x _ h (by simp) with⟨rfl,e⟩|⟨e1,e2,e3⟩
  ·cases e
  ·obtain⟨k,g1,g2,g3⟩:=R.lent x ac e3
   exact⟨k,(hs _ _ g1).1,g2,g3.keep ht hs g1 hk rfl⟩
 ·rcases hget x _ h1 (by simp) with⟨rfl,_⟩|⟨e1,e2,e3⟩
  ·rcases hget y _ h2 (by simp) with⟨rfl,_⟩|⟨f1,f2,f3⟩
   ·rfl
   ·rw[hσc] at h3; cases h3
    rw[hσ y f1] at h4
    exact absurd (R.inj y b n ad ab f3 hb h4 hn) f2
  ·rcases hget y _ h2 (by simp) with⟨rfl,_⟩|⟨f1,f2,f3⟩
   ·rw[hσc] at h4; cases h4
    rw[hσ x e1] at h3
    exact absurd (R.inj x b n ac ab e3 hb h3 hn) e2
   ·rw[hσ x e1] at h3; rw[hσ y f1] at h4
    exact R.inj x y m ac ad e3 f3 h3 h4
 ·rcases hget x _ h (by simp) with⟨_,e⟩|⟨e1,e2,e3⟩
  ·cases e
  ·exact(hσ x e1).trans (R.unborn x e3)
 ·have hx:s.blocks.length≤x:=by simpa using h
  exact(hσ x (by omega)).trans (R.beyond x hx)
theorem Rel.puts(ht:TOk T cx.ints)(R:Rel T cx A0 M w0 σs σ s a w){b n:Nat}{ab pb:AB}(hb:s.blocks[b]?=some (.live ab))(hn:σ b=some n)(hm:Mod n w w')(hmo:pb.more=none)(ho:okCells cx pb.cells=true)
  {us:List Value} (hw:w'.heap[n]?=some (.cells us.toArray pb.ty (0,0))) (hus:oks T σ pb.cells us w' (Al A0 σ s.blocks)) {av:AV} {v:Value} (hv:av.ok T σ v w' (Al A0 σ s.blocks)) (d:Option Nat) :
  Rel T cx A0 M w0 σs σ (s.put d ⟨av,[(b,.live pb)]⟩) (a.put d v) w':=by
 have hlen:b<s.blocks.length:=(List.getElem?_eq_some_iff.1 hb).1
 obtain⟨n',g1,gn,_⟩:=R.blocks b ab hb
 rw[hn] at g1; cases g1
 have hA0:¬A0 n:=fun h=>gn.elim (fun g=>absurd (R.low n h) (by omega)) (R.apart n h)
 have hget:∀(x:Nat) (k:BK),(setL s.blocks [(b,BK.live pb)])[x]?=some k→(x=b∧k=.live pb)∨(x≠b∧s.blocks[x]?=some k):=fun x k h=>by
  rw[setL_one] at h
  by_cases e:b=x
  ·rw[if_pos e,if_pos (by omega)] at h; cases h; exact .inl ⟨e.symm,rfl⟩
  ·rw[if_neg e] at h; exact .inr ⟨fun h'=>e h'.symm,h⟩
 have hAl:Al A0 σ (setL s.blocks [(b,BK.live pb)])=Al A0 σ s.blocks:=by
  funext x
  refine propext ⟨?_,?_⟩
  ·rintro(h|⟨y,c,h1,h2⟩)
   ·exact .inl h
   ·rcases hget y _ h1 with⟨rfl,_⟩|⟨_,h3⟩
    ·exact .inr ⟨y,ab,hb,h2⟩
    ·exact .inr ⟨y,c,h3,h2⟩
  ·rintro(h|⟨y,c,h1,h2⟩)
   ·exact .inl h
   ·by_cases e:b=y
    ·subst e
     refine .inr ⟨b,pb,?_,h2⟩
     rw[setL_one,if_pos rfl,if_pos hlen]
    ·refine .inr ⟨y,c,?_,h2⟩
     rw[setL_one,if_neg e]; exact h1
 have hk:Kp w w' (Al A0 σ s.blocks) (Al A0 σ (setL s.blocks [(b,BK.live pb)])):=by
  rw[hAl]
  refine⟨hm.size,fun k h1 h2=>⟨hm.block k h1 fun e=>?_,h2⟩⟩
  subst e; exact h2 (.inr ⟨b,ab,hb,hn⟩)
 rw[←hAl] at hv hus
 refine R.step ht (Sub.refl σ) hk ⟨hm.os,hm.tape,hm.output,hm.size,fun k hk' hnm=>hm.block k (by have:=R.below.size; omega) fun e=>?_⟩ (fun m hmm=>?_) (fun x m h1 h2=>?_) (fun x ac h hx=>?_) (fun x ac h=>?_) (fun x h=>?_) (fun x y m ac ad hx hy h3 h4=>?_) hv
 ·subst e
  rcases gn with g|g
  ·omega
  ·exact hnm g
 ·have hlt:m<w.heap.size:=by
   rcases hmm with h|⟨x,ac,hx,h,_⟩
   ·exact Nat.lt_of_lt_of_le (R.low m h) R.below.size
   ·exact R.lt hx h
  refine hm.block m hlt fun e=>?_
  subst e
  rcases hmm with h|⟨x,ac,hx,h,hw⟩
  ·exact hA0 h
  ·have:=R.inj x b m ac ab hx hb h hn
   subst this
   exact hw _ (List.mem_singleton.2 rfl)
 ·rw[h2] at h1; cases h1
 ·obtain⟨k,hk⟩:=hx
  simp only[List.mem_singleton,Prod.mk.injEq] at hk
  obtain⟨rfl,rfl⟩:=hk
  rw[setL_one,if_pos rfl,if_pos hlen] at h
  cases h
  refine⟨n,hn,gn,us,[],by rw[List.append_nil]; exact hw,hus,ho,fun _ v hv=>(by cases hv),fun v hv=>(by cases hv),?_⟩
  rw[hmo]
 ·rcases hget x _ h with⟨_,e⟩|⟨_,e⟩
  ·cases e
  ·exact e
 ·rcases hget x _ h with⟨_,e⟩|⟨_,e⟩
  ·cases e
  ·exact e
 ·have hlv:∀(x:Nat) (c:AB),(setL s.blocks [(b,.live pb)])[x]?=some (BK.live c)→∃ c',s.blocks[x]?=some (BK.live c'):=fun x c h=>by
   rcases hget x _ h with⟨rfl,_⟩|⟨_,e⟩
   ·exact⟨ab,hb⟩
   ·exact⟨c,e⟩
  obtain⟨c',k1⟩:=hlv x ac hx
  obtain⟨d',k2⟩:=hlv y ad hy
  exact R.inj x y m c' d' k1 k2 h3 h4
theorem AC.fz_ok{b i n:Nat}(hn:σ b=some n){A:Nat→Prop}(hT:T i (.pointer (some ⟨n,0,none⟩)) w A){x:AC}{v:Value}(h:x.ok T σ v w A):(x.fz b i).ok T σ v w A:=by
 cases x with
 | own c o =>
  show(if(c == b && o == 0)=true then AC.sym i else .own c o).ok T σ v w A
  by_cases e:(c == b && o == 0)=true
  ·rw[if_pos e]
   simp only[Bool.and_eq_true,beq_iff_eq] at e
   obtain⟨rfl,rfl⟩:=e
   obtain⟨m,h1,rfl⟩:=h
   rw[hn] at h1; cases h1
   exact hT
  ·rw[if_neg e]; exact h
 | _=>exact h
theorem oks.fz{b i n:Nat}(hn:σ b=some n){A:Nat→Prop}(hT:T i (.pointer (some ⟨n,0,none⟩)) w A):∀{l:List AC} {vs:List Value},oks T σ l vs w A→oks T σ (l.map (AC.fz b i)) vs w A
 | [],[],_=>trivial
 | x :: l,v :: vs,h=>⟨AC.fz_ok hn hT h.1,oks.fz hn hT h.2⟩
 | [],_ :: _,h=>h.elim
 | _ :: _,[],h=>h.elim
theorem AR.fz_ok{b i n:Nat}(hn:σ b=some n){A:Nat→Prop}(hT:T i (.pointer (some ⟨n,0,none⟩)) w A){x:AR}{v:Value}(h:x.ok T σ v w A):(x.fz b i).ok T σ v w A:=by
 cases x with
 | c x=>exact AC.fz_ok (x:=x) hn hT h
 | row l=>obtain⟨vs,h1,h2⟩:=h; exact⟨vs,h1,oks.fz hn hT h2⟩
theorem okr.fz{b i n:Nat}(hn:σ b=some n){A:Nat→Prop}(hT:T i (.pointer (some ⟨n,0,none⟩)) w A):∀{l:List AR} {vs:List Value},okr T σ l vs w A→okr T σ (l.map (AR.fz b i)) vs w A
 | [],[],_=>trivial
 | x :: l,v :: vs,h=>⟨AR.fz_ok hn hT h.1,okr.fz hn hT h.2⟩
 | [],_ :: _,h=>h.elim
 | _ :: _,[],h=>h.elim
theorem AV.fz_ok{b i n:Nat}(hn:σ b=some n){A:Nat→Prop}(hT:T i (.pointer (some ⟨n,0,none⟩)) w A){x:AV}{v:Value}(h:x.ok T σ v w A):(x.fz b i).ok T σ v w A:=by
 cases x with
 | r x=>exact AR.fz_ok (x:=x) hn hT h
 | tup l=>obtain⟨vs,h1,h2⟩:=h; exact⟨vs,h1,okr.fz hn hT h2⟩
 | undf=>exact h
 | junk=>trivial
theorem okCells_fz{b i:Nat}(hi:okCells cx [.sym i]=true){l:List AC}(h:okCells cx l=true):okCells cx (l.map (AC.fz b i))=true:=by
 unfold okCells at *
 cases hp:cx.hp
 ·rfl
 ·rw[hp] at h hi
  simp only[Bool.not_true,Bool.false_or,List.all_cons,List.all_nil,Bool.and_true] at h hi ⊢
  rw[List.all_eq_true] at h ⊢
  intro x hx
  obtain⟨y,hy,rfl⟩:=List.mem_map.1 hx
  cases y with
  | own c o =>
   show(if(c == b && o == 0)=true then AC.sym i else .own c o).noint cx.ints=true
   by_cases e:(c == b && o == 0)=true
   ·rw[if_pos e]; exact hi
   ·rw[if_neg e]; rfl
  | _=>exact h _ hy
theorem Rel.freeze(ht:TOk T cx.ints)(R:Rel T cx A0 M w0 σs σ s a w){b i n:Nat}{ab:AB}(hb:s.blocks[b]?=some (.live ab))(hn:σ b=some n)(hi:okCells cx [.sym i]=true)
  (hT:T i (.pointer (some ⟨n,0,none⟩)) w (fun x=>Al A0 σ s.blocks x∧x≠n)):Rel T cx A0 M w0 σs σ (s.frozen b i) a w:=by
 have hlen:b<s.blocks.length:=(List.getElem?_eq_some_iff.1 hb).1
 obtain⟨n',g1,gn,_⟩:=R.blocks b ab hb
 rw[hn] at g1; cases g1
 have hA0:¬A0 n:=fun h=>gn.elim (fun g=>absurd (R.low n h) (by omega)) (R.apart n h)
 have hget:∀(x:Nat) (k:BK),(s.frozen b i).blocks[x]?=some k→k≠.dead→x≠b∧∃ k0,s.blocks[x]?=some k0∧k=k0.fz b i:=fun x k h hk=>by
  unfold AS.frozen at h
  by_cases e:b=x
  ·subst e
   have:((s.blocks.map (BK.fz b i)).set b .dead)[b]?=some .dead:=by simp[hlen]
   rw[this] at h; cases h; exact absurd rfl hk
  ·rw[List.getElem?_set_ne e,List.getElem?_map] at h
   cases h0:s.blocks[x]? with
   | none=>rw[h0] at h; cases h
   | some k0=>rw[h0] at h; cases h; exact⟨fun h=>e h.symm,k0,rfl,rfl⟩
 have hlv:∀(x:Nat) (ac:AB),(s.frozen b i).blocks[x]?=some (.live ac)→x≠b∧∃ ac0,s.blocks[x]?=some (.live ac0)∧ac={ ac0 with cells:=ac0.cells.map (AC.fz b i) }:=fun x ac h=>by
  obtain⟨h1,k0,h2,h3⟩:=hget x _ h (by simp)
  cases k0 with
  | live ac0=>cases h3; exact⟨h1,ac0,h2,rfl⟩
  | _=>cases h3
 have hAl:Al A0 σ (s.frozen b i).blocks=fun x=>Al A0 σ s.blocks x∧x≠n:=by
  funext x
  refine propext ⟨?_,?_⟩
  ·rintro(h|⟨y,c,h1,h2⟩)
   ·exact⟨.inl h,fun e=>by subst e; exact hA0 h⟩
   ·obtain⟨e,c0,h3,_⟩:=hlv y c h1
    exact⟨.inr ⟨y,c0,h3,h2⟩,fun e2=>e (R.inj y b n c0 ab h3 hb (by rw[←e2]; exact h2) hn)⟩
  ·rintro⟨h|⟨y,c,h1,h2⟩,h3⟩
   ·exact .inl h
   ·have e:b≠y:=fun e=>by subst e; rw[hn] at h2; cases h2; exact h3 rfl
    refine .inr ⟨y,{ c with cells:=c.cells.map (AC.fz b i) },?_,h2⟩
    show((s.blocks.map (BK.fz b i)).set b .dead)[y]?=_
    rw[List.getElem?_set_ne e,List.getElem?_map,h1]; rfl
 have hk:Kp w w (Al A0 σ s.blocks) (Al A0 σ (s.frozen b i).blocks):=⟨Nat.le_refl _,fun k _ h=>⟨rfl,fun h'=>h (by rw[hAl] at h'; exact h'.1)⟩⟩
 rw[←hAl] at hT
 refine⟨by rw[R.size]; simp[AS.frozen],fun j av h=>?_,R.defers,fun x ac h=>?_,fun x ac h=>?_,fun x y m ac ad h1 h2=>?_,fun x h=>?_,fun x h=>R.beyond x (by simpa[AS.frozen] using h),R.below,R.rcv,R.low,R.apart,R.mine,R.start⟩
 ·have h:(s.tmps.map (AV.fz b i))[j]?=some av:=h
  rw[List.getElem?_map] at h
  cases h0:s.tmps[j]? with
  | none=>rw[h0] at h; cases h
  | some av0 =>
   rw[h0] at h; cases h
   exact AV.fz_ok hn hT ((R.slots j av0 h0).keep ht (Sub.refl _) hk)
 ·obtain⟨_,ac0,h2,rfl⟩:=hlv x ac h
  obtain⟨m,q1,q2,q3⟩:=R.blocks x ac0 h2
  obtain⟨vs,rest,p1,p2,p3,p4,p5,p6⟩:=q3.keep ht (Sub.refl _) q1 hk rfl
  exact⟨m,q1,q2,vs,rest,p1,oks.fz hn hT p2,okCells_fz hi p3,p4,p5,p6⟩
 ·obtain⟨_,k0,h2,h3⟩:=hget x _ h (by simp)
  cases k0 with
  | lent ac0 =>
   cases h3
   obtain⟨m,q1,q2,q3⟩:=R.lent x ac h2
   exact⟨m,q1,q2,q3.keep ht (Sub.refl _) q1 hk rfl⟩
  | _=>cases h3
 ·obtain⟨_,c0,k1,_⟩:=hlv x ac h1
  obtain⟨_,d0,k2,_⟩:=hlv y ad h2
  exact R.inj x y m c0 d0 k1 k2
 ·obtain⟨_,k0,h2,h3⟩:=hget x _ h (by simp)
  cases k0 with
  | unborn=>exact R.unborn x h2
  | _=>cases h3
theorem findZ_spec{ab:AB}:∀{l:List BK} {i b:Nat},findZ ab i l=some b→∃ k,b=i+k∧l[k]?=some (.live ab)
 | [],i,b,h=>by cases h
 | x :: l,i,b,h=>by
  have rec_:findZ ab (i+1) l=some b→∃ k,b=i+k∧(x :: l)[k]?=some (.live ab):=fun h=>by
   obtain⟨k,e,h2⟩:=findZ_spec h
   exact⟨k+1,by omega,by simpa using h2⟩
  unfold findZ at h
  cases x with
  | live c =>
   simp only at h
   split at h
   ·next e=>cases h; exact⟨0,rfl,by rw[←AB.eq_of e]; rfl⟩
   ·exact rec_ h
  | unborn=>exact rec_ h
  | dead=>exact rec_ h
  | lent c=>exact rec_ h
theorem dropU_spec:∀(l:List BK) (b:Nat),(dropU l)[b]?=l[b]?∨((dropU l)[b]?=none∧l[b]?=some .unborn)
 | [],_=>.inl rfl
 | k :: l,b=>by
  have ih:=dropU_spec l
  unfold dropU
  cases h:dropU l with
  | nil =>
   have ih':∀ b:Nat,l[b]?=none∨l[b]?=some BK.unborn:=fun b=>by
    rcases ih b with e|⟨_,e⟩
    ·rw[h] at e; exact .inl (by rw[←e]; rfl)
    ·exact .inr e
   cases b with
   | zero=>cases k<;>simp
   | succ b =>
    have e:=ih' b
    cases k<;>simp<;>exact e.imp List.getElem?_eq_none_iff.1 id
  | cons x m =>
   cases b with
   | zero=>exact .inl rfl
   | succ b =>
    have:=ih b
    rw[h] at this
    simpa using this
theorem Rel.trim(R:Rel T cx A0 M w0 σs σ s a w):Rel T cx A0 M w0 σs σ { s with blocks:=dropU s.blocks } a w:=by
 have hget:∀(b:Nat) (k:BK),(dropU s.blocks)[b]?=some k→s.blocks[b]?=some k:=fun b k h=>by
  rcases dropU_spec s.blocks b with e|⟨e,_⟩
  ·rw[←e]; exact h
  ·rw[e] at h; cases h
 have hput:∀(b:Nat) (ab:AB),s.blocks[b]?=some (.live ab)→(dropU s.blocks)[b]?=some (.live ab):=fun b ab h=>by
  rcases dropU_spec s.blocks b with e|⟨_,e⟩
  ·rw[e]; exact h
  ·rw[e] at h; cases h
 have hAl:Al A0 σ (dropU s.blocks)=Al A0 σ s.blocks:=by
  funext n
  refine propext ⟨?_,?_⟩
  ·rintro(h|⟨b,ab,h1,h2⟩)
   ·exact .inl h
   ·exact .inr ⟨b,ab,hget _ _ h1,h2⟩
  ·rintro(h|⟨b,ab,h1,h2⟩)
   ·exact .inl h
   ·exact .inr ⟨b,ab,hput _ _ h1,h2⟩
 refine⟨R.size,fun i av h=>?_,R.defers,fun b ab h=>?_,fun b ab h=>?_,fun b c n ab ac h1 h2=>R.inj b c n ab ac (hget _ _ h1) (hget _ _ h2),fun b h=>R.unborn b (hget _ _ h),fun b h=>?_,R.below,R.rcv,R.low,R.apart,R.mine,R.start⟩
 ·show av.ok T σ _ w (Al A0 σ (dropU s.blocks))
  rw[hAl]; exact R.slots i av h
 ·show ∃ n,_∧_∧LiveOk T cx σ (Al A0 σ (dropU s.blocks)) w b ab n
  rw[hAl]; exact R.blocks b ab (hget _ _ h)
 ·show ∃ n,_∧_∧LiveOk T cx σ (Al A0 σ (dropU s.blocks)) w b ab n
  rw[hAl]; exact R.lent b ab (hget _ _ h)
 ·have hn:(dropU s.blocks)[b]?=none:=List.getElem?_eq_none h
  rcases dropU_spec s.blocks b with e|⟨_,e⟩
  ·rw[hn] at e; exact R.beyond b (List.getElem?_eq_none_iff.1 e.symm)
  ·exact R.unborn b e
end
end Tr
