/- Laws for the walk. -/
import Derived.Test.YtplakbflfckldaaGreatYaj
import Derived.Test.YtplakbflfckldaaGreatChecked
set_option linter.unusedVariables false
set_option maxHeartbeats 4000000
namespace Tr
open Go Go.RowKit Go.Shelf
theorem grownBy_of_below{w w':World}(h:Below w.heap.size w w'):w.grownBy w' none:=⟨h.os,h.tape,h.output,h.size,fun k hk _=>h.block k hk⟩
def noEnc:Empty→Array Value:=fun x=>by cases x
theorem seq_none{P:Program}{gf:Nat}{lb:Array Value}{n₀:Nat}{w0:World}
  (h:∀(l:Nat) (W:World),Below w0.heap.size w0 W→Calls P gf (#[.func (.yield l) #[] #[]]++lb) W fun e W'=>(∃ v,e=.returned v)∧Below W.heap.size W W') :
  SeqStopsK Fence.wide 2 P gf lb noEnc (Below n₀) (fun xs=>xs=[]) (fun _=>False) 0 w0:=fun l J Jx W hW hJ _ _ h0 =>
 callsIn_wide.2 ((h l W hW).mono fun e W' ⟨h1,h2⟩=>⟨h1,.inl ⟨[],rfl,hJ [] W W' none h0 (grownBy_of_below h2) (fun r e=>by cases e)⟩⟩)
def markD(D:Nat):Deferred:={ target:=.collected D,args:=#[] }
theorem wp_rangeNone{P:Program}{g:Operand}{ps:Array Tmp}{asg bdy:Code}{Q:Exit→Act→World→Prop}{a:Act}{w:World}
  {gf:Nat} {lb:Array Value} (hg:a.eval g=.func (.func gf) #[] lb) (eg:Enters P gf)
  (h:∀(l:Nat) (W:World),Below w.heap.size w W→Calls P gf (#[.func (.yield l) #[] #[]]++lb) W fun e W'=>(∃ v,e=.returned v)∧Below W.heap.size W W')
  (hK:∀(D:Nat) (W:World),w.heap.size≤D→Below w.heap.size w W→W.heap[D]?=some (.deferred (some []))→Q .normal { a with defers:=markD D :: a.defers } W) :
  (Code.rangeFunc g ps asg bdy).wp P Q a w :=
 Go.Proofs.YtplakbflfckldaaGreat.wp_rangeF (α:=Empty) hg eg (seq_none (n₀:=w.heap.size) h) (Nat.le_refl _) br (fun x=>by cases x)
  (fun _ W=>Below w.heap.size w W) (fun _ _ _=>False) (fun s W W' row hs hg hr=>hs.grown hg hs.size (fun k e=>(hr k e).1)) (fun c s W W' row hs _ _=>hs.elim) br (fun _ t=>t)
  (fun l x=>by cases x) (fun l pre x=>by cases x) (fun D xs W h1 _ h3 h4=>hK D W h1 h3 h4) (fun D c pre W _ h2=>h2.elim)
def wpL(P:Program):List Code→(Exit→Act→World→Prop)→Act→World→Prop
 | [],Q,a,w=>Q .normal a w
 | c :: l,Q,a,w=>c.wp P (Exit.then (wpL P l Q) Q) a w
def evCL(cx:Cx)(n:Nat):List Code→AS→Option (Ex×AS)
 | [],s=>some (.normal,s)
 | c :: l,s=>match evC cx n c s with
  | some (.normal,s1)=>evCL cx n l s1
  | r=>r
def splitF:Code→Option (Code×Code×List Code)
 | .seq x y=>match x with
  | .block id (.rangeFunc g ps a b)=>some (.skip,.block id (.rangeFunc g ps a b),[y])
  | x=>match splitF x with
   | some (h,r,t)=>some (h,r,t++[y])
   | none=>match splitF y with|some (h,r,t)=>some (.seq x h,r,t)|none=>none
 | .block id (.rangeFunc g ps a b)=>some (.skip,.block id (.rangeFunc g ps a b),[])
 | _=>none
def endsN:Option (Ex×AS)→Bool|some (.normal,_)=>true|_=>false
def stOf(x:Option (Ex×AS)):AS:=(x.map Prod.snd).getD ⟨[],[]⟩
theorem endsN_ok{x:Option (Ex×AS)}(h:endsN x=true):x=some (.normal,stOf x):=by
 unfold endsN at h
 split at h
 ·rfl
 ·cases h
def endsL(cx:Cx)(fn:Func)(l:LV):Option (Ex×AS)→Bool
 | some (.exit _,_)=>false
 | some (_,s)=>(match resA cx fn s with|some r=>r.beq (.r (.c (.lit l)))|none=>false)
 | none=>false
section
variable{P:Program}{T:Nat→Fact}{cx:Cx}{A0 M:Nat→Prop}{w0:World}{σs:Sg}
theorem wpL_snoc{y:Code}{Q:Exit→Act→World→Prop}:∀{t:List Code} {a:Act} {w:World},wpL P (t++[y]) Q a w→wpL P t (Exit.then (y.wp P Q) Q) a w
 | [],a,w,h=>wp_mono h fun e a w h=>by cases e<;>exact h
 | c :: t,a,w,h=>by
  refine wp_mono (show c.wp P (Exit.then (wpL P (t++[y]) Q) Q) a w from h) fun e a w h=>?_
  cases e with
  | normal=>exact wpL_snoc h
  | _=>exact h
theorem evCL_sound(C:CxOk P T cx)(hm:P.follows .mixedOrders=true)(hcu:cx.cuts=[])(n:Nat):∀{l:List Code} {σ:Sg} {s s1:AS} {e:Ex} {a:Act} {w:World} {Q:Exit→Act→World→Prop},
  Rel T cx A0 M w0 σs σ s a w→evCL cx n l s=some (e,s1)→(∀ σ' a' w',Rel T cx A0 M w0 σs σ' s1 a' w'→Q e.exit' a' w')→wpL P l Q a w
 | [],σ,s,s1,e,a,w,Q,R,h,hK=>by cases h; exact hK σ a w R
 | c :: l,σ,s,s1,e,a,w,Q,R,h,hK=>by
  unfold evCL at h
  have hz:∀ k∈cx.cuts,(k.pre.low && k.pre.blocks.all (fun b=>match b with|.live ab|.lent ab=>okCells cx ab.cells|_=>true))=true:=fun k hk=>by rw[hcu] at hk; cases hk
  split at h
  ·rename_i s2 h1
   exact(evC_sound C hm (.inl hcu) hz n (fun z _ k hk=>by rw[hcu] at hk; cases hk) R h1 fun σ' a' w' R'=>evCL_sound C hm hcu n R' h hK).1
  ·rename_i r hne
   refine(evC_sound C hm (.inl hcu) hz n (fun z _ k hk=>by rw[hcu] at hk; cases hk) R h fun σ' a' w' R'=>?_).1
   cases e with
   | normal=>exact absurd h (hne _)
   | ret=>exact hK σ' a' w' R'
   | exit id=>exact hK σ' a' w' R'
theorem sound_splitF(C:CxOk P T cx)(hm:P.follows .mixedOrders=true)(hcu:cx.cuts=[]):∀{c:Code} {σ:Sg} {s s1:AS} {a:Act} {w:World} {Q:Exit→Act→World→Prop} (n:Nat) (h r:Code) (t:List Code),splitF c=some (h,r,t) →
  Rel T cx A0 M w0 σs σ s a w→evC cx n h s=some (.normal,s1) →
  (∀ σ' a' w',Rel T cx A0 M w0 σs σ' s1 a' w'→r.wp P (Exit.then (wpL P t Q) Q) a' w')→c.wp P Q a w:=by
 intro c
 induction c with
 | seq x y ihx ihy =>
  intro σ s s1 a w Q n h r t hs R he hK
  unfold splitF at hs
  split at hs
  ·cases hs
   cases n with
   | zero=>cases he
   | succ n =>
    simp only[evC] at he
    cases he
    exact wp_seq (wp_mono (hK σ a w R) fun e a w h=>by
     cases e with
     | normal=>exact wp_mono (show y.wp P (Exit.then (wpL P [] Q) Q) a w from h) fun e a w h=>by cases e<;>exact h
     | _=>exact h)
  ·split at hs
   ·rename_i x' hx p q u hq
    cases hs
    refine wp_seq (ihx n _ _ _ hq R he fun σ' a' w' R'=>wp_mono (hK σ' a' w' R') fun e a w h=>?_)
    cases e with
    | normal=>exact wpL_snoc h
    | _=>exact h
   ·split at hs
    ·rename_i x' hx hxn p q u hq
     cases hs
     cases n with
     | zero=>cases he
     | succ n =>
      simp only[evC] at he
      split at he
      ·rename_i s2 h1
       exact wp_seq (evC_sound C hm (.inl hcu) (fun k hk=>by rw[hcu] at hk; cases hk) n (fun z _ k hk=>by rw[hcu] at hk; cases hk) R h1 fun σ' a' w' R'=>ihy n _ _ _ hq R' he hK).1
      ·rename_i r' h1
       exact absurd he (h1 _)
    ·cases hs
 | block id x ih =>
  intro σ s s1 a w Q n h r t hs R he hK
  unfold splitF at hs
  split at hs
  ·rename_i e; cases e
  ·rename_i e; cases e; cases hs
   cases n with
   | zero=>cases he
   | succ n =>
    simp only[evC] at he
    cases he
    exact wp_mono (hK σ a w R) fun e a w h=>by cases e<;>exact h
  ·cases hs
 | _=>intro σ s s1 a w Q n h r t hs; cases hs
theorem putObj_self{w:World}{D:Nat}{o o':Obj}(h:w.heap[D]?=some o):(w.putObj D o').heap[D]?=some o':=by
 have hlt:D<w.heap.size:=(Array.getElem?_eq_some_iff.1 h).1
 simp[World.putObj,hlt]
theorem Rel.again{cx':Cx}{σ:Sg}{s:AS}{a a':Act}{w w':World}{A1:Nat→Prop}(ht:TOk T cx.ints)(e1:cx.hp=cx'.hp)(e2:cx.ints=cx'.ints)(htm:a'.tmps=a.tmps)(hd:a'.defers=cx'.dfs)(hk:Kp w w' (Al A0 σ s.blocks) (Al A1 σ s.blocks))
  (hsame:∀ n,(∃ vs T' fr,w.heap[n]?=some (.cells vs T' fr))→Al A0 σ s.blocks n→w'.heap[n]?=w.heap[n]?) (hlow:∀ n,A1 n→n<w'.heap.size) (hap:∀ n,A1 n→¬∃ b ab,s.blocks[b]?=some (.live ab)∧σ b=some n) (hr:cx'.hp=true→Rcv A1 w') (hA1:∀ n,A0 n→A1 n)
  (R:Rel T cx A0 M w0 σs σ s a w):Rel T cx' A1 (fun n=>∃ b ab,s.blocks[b]?=some (.live ab)∧σ b=some n) w' σ0 σ s a' w' :=
 ⟨by rw[htm]; exact R.size,fun i av h=>by rw[htm]; exact(R.slots i av h).keep ht (Sub.refl _) hk,hd,fun b ab h=>by
  obtain⟨n,h1,h2,h3⟩:=R.blocks b ab h
  refine⟨n,h1,.inr ⟨b,ab,h,h1⟩,(LiveOk_cx e1 e2).1 (h3.keep ht (Sub.refl _) h1 hk (hsame n ?_ (.inr ⟨b,ab,h,h1⟩)))⟩
  obtain⟨vs,rest,h4,_⟩:=h3
  exact⟨_,_,_,h4⟩,fun b ab h=>by
  obtain⟨n,h1,h2,h3⟩:=R.lent b ab h
  refine⟨n,h1,hA1 n h2,(LiveOk_cx e1 e2).1 (h3.keep ht (Sub.refl _) h1 hk (hsame n ?_ (.inl h2)))⟩
  obtain⟨vs,rest,h4,_⟩:=h3
  exact⟨_,_,_,h4⟩,R.inj,R.unborn,R.beyond,BelowM.refl _ _ _,hr,hlow,hap,fun n ⟨b,ab,g1,g2⟩=>Nat.lt_of_lt_of_le (R.lt g1 g2) hk.1,Sub.zero _⟩
theorem ev_rg(C:CxOk P T cx)(hm:P.follows .mixedOrders=true)(hcu:cx.cuts=[])(hdf:cx.dfs=[]){cx2:Deferred→Cx}(C2:∀ d,CxOk P T (cx2 d))(e1:∀ d,cx.hp=(cx2 d).hp)(e2:∀ d,cx.ints=(cx2 d).ints)(e3:∀ d,(cx2 d).dfs=[d])(e4:∀ d,(cx2 d).cuts=[])
  {f:FuncId} {fn:Func} (hf:P.funcs[f]?=some fn) {c h asg bdy:Code} {t:List Code} {id:Nat} {g:Operand} {ps:Array Tmp} (hb:fn.body=some c) (hs:splitF c=some (h,.block id (.rangeFunc g ps asg bdy),t)) {bs:List AB} {args:List AR} {l:LV} (fuel:Nat) {s1:AS}
  (hbo:bs.all (fun b=>okCells cx b.cells && b.more.isNone)=true) (h1:evC cx fuel h (enter fn bs args)=some (.normal,s1)) (h2:∀ d,endsL (cx2 d) fn l (evCL (cx2 d) fuel t s1)=true) {gf:FuncId} (eg:Enters P gf)
  (hcl:∀(A0:Nat→Prop) (w0:World) (σ:Sg) (a:Act) (w:World),Rel T cx A0 (fun _=>False) w0 σ0 σ s1 a w→∃ lb,a.eval g=.func (.func gf) #[] lb∧∀(k:Nat) (W:World),Below w.heap.size w W→Calls P gf (#[.func (.yield k) #[] #[]]++lb) W fun e W'=>(∃ v,e=.returned v)∧Below W.heap.size W W')
  (σ:Sg) (w:World) (A:Nat→Prop) (vs:List Value) (hR:cx.hp=true→Rcv A w) (hA:∀ n,A n→n<w.heap.size) (hargs:okr T σ args vs w A)
  (hbs:∀ b ab,bs[b]?=some ab→∃ n us,σ b=some n∧A n∧w.heap[n]?=some (.cells us.toArray ab.ty (0,0))∧oks T σ ab.cells us w A) (hbey:∀ b,bs.length≤b→σ b=none) :
  Calls P f vs.toArray w fun r w'=>r=.returned l.val∧Below w.heap.size w w':=by
 rw[List.all_eq_true] at hbo
 refine(callsIn_wide (n:=3)).1 (callsIn_of_wp_marks hf hb trivial (wpIn_wide.2 ?_) rfl)
 have hlen:=hargs.length
 have hnl:∀(b:Nat) (ab:AB),(bs.map BK.lent)[b]?≠some (.live ab):=fun b ab h=>by
  rw[List.getElem?_map] at h
  obtain⟨x,_,e⟩:=Option.map_eq_some_iff.1 h
  cases e
 have hAl:Al A σ (bs.map BK.lent)=A:=by
  funext n; unfold Al
  refine propext ⟨?_,.inl⟩
  rintro(h|⟨b,ab,h,_⟩)
  ·exact h
  ·exact absurd h (hnl b ab)
 have R0:Rel T cx A (fun _=>False) w σ0 σ (enter fn bs args) { tmps:=vs.toArray++Array.replicate (fn.ntmps - vs.toArray.size) undef,defers:=[] } w:=by
  refine⟨?_,?_,hdf.symm,fun b ab h=>absurd h (hnl b ab),fun b ab h=>?_,fun b c n ab ac h=>absurd h (hnl b ab),fun b h=>?_,fun b h=>?_,BelowM.refl _ _ _,hR,hA,fun _ _ h=>h,fun _ h=>h.elim,Sub.zero _⟩
  ·simp[enter,hlen]
  ·show ∀ i (av:AV),(args.map AV.r++List.replicate (fn.ntmps - args.length) AV.undf)[i]?=some av→av.ok T _ _ w (Al A σ (bs.map BK.lent))
   rw[hAl]
   have:fn.ntmps - vs.toArray.size=fn.ntmps - args.length:=by simp[hlen]
   rw[this]
   exact okr_slots hargs
  ·show ∃ n,σ b=some n∧A n∧LiveOk T cx σ (Al A σ (bs.map BK.lent)) w b ab n
   rw[hAl]
   have h':(bs.map BK.lent)[b]?=some (.lent ab):=h
   rw[List.getElem?_map] at h'
   obtain⟨x,hx,e⟩:=Option.map_eq_some_iff.1 h'
   cases e
   obtain⟨n,us,g1,g2,g3,g4⟩:=hbs b ab hx
   have hok:=hbo ab (List.mem_of_getElem? hx)
   simp only[Bool.and_eq_true,Option.isNone_iff_eq_none] at hok
   exact⟨n,g1,g2,us,[],by simpa using g3,g4,hok.1,by simp,by simp,by rw[hok.2]⟩
  ·have h':(bs.map BK.lent)[b]?=some .unborn:=h
   rw[List.getElem?_map] at h'
   obtain⟨x,hx,e⟩:=Option.map_eq_some_iff.1 h'
   cases e
  ·have h':(bs.map BK.lent).length≤b:=h
   exact hbey b (by simpa using h')
 refine sound_splitF C hm hcu fuel _ _ _ hs R0 h1 fun σ1 a1 w1 R1=>?_
 obtain⟨lb,hg,hcall⟩:=hcl _ _ _ _ _ R1
 refine wp_block (wp_rangeNone hg eg hcall fun D W hD hW hm1=>?_)
 show wpL P t _ _ W
 have hd0:a1.defers=[]:=R1.defers.trans hdf
 have hDW:D<W.heap.size:=(Array.getElem?_eq_some_iff.1 hm1).1
 have hlv:∀ n,(∃ b ab,s1.blocks[b]?=some (.live ab)∧σ1 b=some n)→w.heap.size≤n∧n<w1.heap.size:=by
  rintro n ⟨b,ab,g1,g2⟩
  obtain⟨m,g3,g4,_⟩:=R1.blocks b ab g1
  rw[g2] at g3; cases g3
  exact⟨g4.resolve_right (fun h=>h),R1.lt g1 g2⟩
 have hws:w.heap.size≤w1.heap.size:=R1.below.size
 have R3:Rel T (cx2 (markD D)) (fun n=>A n∨n=D) (fun n=>∃ b ab,s1.blocks[b]?=some (.live ab)∧σ1 b=some n) W σ0 σ1 s1 { a1 with defers:=markD D :: a1.defers } W:=by
  refine Rel.again (a:=a1) (R:=R1) C.table (e1 _) (e2 _) rfl (by rw[e3,hd0]) (A1:=fun n=>A n∨n=D) ⟨hW.size,fun b g1 g2=>⟨hW.block b g1,?_⟩⟩ (fun n _ hn=>hW.block n (R1.low' n hn)) ?_ ?_ ?_ (fun n h=>.inl h)
  ·rintro((h|h)|h)
   ·exact g2 (.inl h)
   ·omega
   ·exact g2 (.inr h)
  ·rintro n (h|h)
   ·exact Nat.lt_of_lt_of_le (hA n h) (Nat.le_trans hws hW.size)
   ·omega
  ·rintro n (h|h) hl
   ·have:=hA n h; have:=(hlv n hl).1; omega
   ·have:=(hlv n hl).2; omega
  ·rintro hp' n (h|h)
   ·obtain⟨z,h3,h4⟩:=R1.rcv (by rw[e1 (markD D)]; exact hp') n h
    exact⟨z,(hW.block n (Nat.lt_of_lt_of_le (hA n h) hws)).trans h3,h4⟩
   ·subst h
    exact⟨_,hm1,fun cs T' fr e=>by cases e⟩
 have fin:∀(σ':Sg) (s2:AS) (a':Act) (w':World),Rel T (cx2 (markD D)) (fun n=>A n∨n=D) (fun n=>∃ b ab,s1.blocks[b]?=some (.live ab)∧σ1 b=some n) W σ0 σ' s2 a' w'→(match resA (cx2 (markD D)) fn s2 with|some r=>r.beq (.r (.c (.lit l)))|none=>false)=true →
   bodyPostM Fence.wide 3 P fn (fun r w'=>r=.returned l.val∧Below w.heap.size w w') .ret a' w':=fun σ' s2 a' w' R' hr=>by
  cases hx:resA (cx2 (markD D)) fn s2 with
  | none=>simp[hx] at hr
  | some r =>
   simp only[hx] at hr
   have:=AV.eq_of hr
   subst this
   have hD':w'.heap[D]?=some (.deferred (some [])):=(R'.below.block D hDW (fun hm'=>by have:=(hlv D hm').2; omega)).trans hm1
   have hbw:Below w.heap.size w w':=by
    have h3:Below w.heap.size w w1:=R1.below.below
    have h4:Below w.heap.size w1 W:=⟨hW.os,hW.tape,hW.output,hW.size,fun b hb=>hW.block b (by omega)⟩
    exact(h3.trans h4).trans ⟨R'.below.os,R'.below.tape,R'.below.output,R'.below.size,fun b hb=>R'.below.block b (by have:=hW.size; omega) (fun hm'=>by have:=(hlv b hm').1; omega)⟩
   have hdd:a'.defers=[markD D]:=R'.defers.trans (e3 _)
   have R4:Rel T (cx2 (markD D)) (fun n=>A n∨n=D) (fun n=>∃ b ab,s2.blocks[b]?=some (.live ab)∧σ' b=some n) (w'.putObj D (.deferred none)) σ0 σ' s2 a' (w'.putObj D (.deferred none)):=by
    have hsz:(w'.putObj D (.deferred none)).heap.size=w'.heap.size:=by simp[World.putObj]
    have hoth:∀ n,n≠D→(w'.putObj D (.deferred none)).heap[n]?=w'.heap[n]?:=fun n h=>World.putObj_heap_other h
    refine Rel.again (R:=R') (C2 _).table rfl rfl rfl R'.defers (A1:=fun n=>A n∨n=D) ⟨Nat.le_of_eq hsz.symm,fun b g1 g2=>⟨hoth b (fun h=>g2 (.inl (.inr h))),g2⟩⟩ (fun n hc _=>hoth n (fun h=>by subst h; obtain⟨vs',T',fr,hc⟩:=hc; rw[hD'] at hc; cases hc)) ?_ ?_ ?_ (fun n h=>h)
    ·intro n h
     rw[hsz]
     exact Nat.lt_of_lt_of_le (R'.low n h) R'.below.size
    ·rintro n h ⟨b,ab,g1,g2⟩
     obtain⟨m,g3,g4,_⟩:=R'.blocks b ab g1
     rw[g2] at g3; cases g3
     rcases g4 with g4|g4
     ·have:=R'.low n h; omega
     ·exact R'.apart n h g4
    ·intro hp' n h
     obtain⟨z,h3,h4⟩:=R'.rcv hp' n h
     by_cases hn:n=D
     ·subst hn
      exact⟨_,putObj_self hD',fun cs T' fr e=>by cases e⟩
     ·exact⟨z,(hoth n hn).trans h3,h4⟩
   obtain⟨v,k1,k2⟩:=resA_ok (C2 _) R4 hx
   have hv:v=l.val:=k2
   subst hv
   obtain⟨tm,df⟩:=a'
   simp only at hdd k1
   subst hdd
   exact Go.Proofs.YtplakbflfckldaaGreat.leave_marks (v:=l.val) hD' k1 ⟨rfl,Go.Proofs.YtplakbflfckldaaGreat.below_putObj hbw (Nat.le_trans hws hD) _⟩
 have hh:=h2 (markD D)
 unfold endsL at hh
 split at hh
 ·cases hh
 ·rename_i e s2 hne he
  refine evCL_sound (C2 _) hm (e4 _) fuel R3 he fun σ' a' w' R'=>?_
  cases e with
  | normal=>exact fin σ' s2 a' w' R' hh
  | ret=>exact fin σ' s2 a' w' R' hh
  | exit id=>exact(hne id rfl).elim
 ·cases hh
end
end Tr
namespace Go.Proofs.YtplakbflfckldaaGreat
open Go.RowKit Tr
def tys:List (TypeId×TyI):=[
 (1,⟨false,1,[.nilf],[],none⟩),
 (2,⟨false,1,[.int .i64 0],[],none⟩),
 (3,⟨false,1,[.int .i64 0],[],none⟩),
 (4,⟨false,1,[.bool false],[],none⟩),
 (5,⟨false,1,[.int .u8 0],[],none⟩),
 (6,⟨false,1,[.int .u8 0],[],none⟩),
 (7,⟨true,4,[.int .i64 0,.int .i64 0,.bool false,.int .u8 0],[(0,1,false),(1,1,false),(2,1,false),(3,1,false)],none⟩),
 (8,⟨true,4,[.int .i64 0,.int .i64 0,.bool false,.int .u8 0],[(0,1,false),(1,1,false),(2,1,false),(3,1,false)],none⟩),
 (9,⟨false,1,[.str0],[],none⟩),
 (10,⟨false,1,[.str0],[],none⟩),
 (11,⟨false,1,[.str0],[],none⟩),
 (12,⟨false,1,[.int .u64 0],[],none⟩),
 (13,⟨true,2,[.str0,.int .u64 0],[(0,1,false),(1,1,false)],none⟩),
 (14,⟨true,2,[.str0,.int .u64 0],[(0,1,false),(1,1,false)],none⟩),
 (15,⟨false,1,[.nilp],[],none⟩),
 (16,⟨false,1,[.nilp],[],none⟩),
 (17,⟨false,1,[.nilp],[],none⟩),
 (18,⟨true,1,[.nilp],[(0,1,false)],none⟩),
 (19,⟨true,1,[.nilp],[(0,1,false)],none⟩),
 (21,⟨false,1,[.int .i32 0],[],none⟩),
 (22,⟨false,1,[.nilp],[],none⟩),
 (23,⟨false,1,[.nilf],[],none⟩),
 (24,⟨false,1,[.nils],[],some (0,8,36)⟩),
 (25,⟨false,1,[.nils],[],some (0,1,53)⟩),
 (26,⟨true,3,[.nils,.nils,.nils],[(0,1,false),(1,1,false),(2,1,false)],none⟩),
 (27,⟨true,3,[.nils,.nils,.nils],[(0,1,false),(1,1,false),(2,1,false)],none⟩),
 (28,⟨false,1,[.nilf],[],none⟩),
 (29,⟨false,1,[.nilf],[],none⟩),
 (30,⟨false,1,[.nilf],[],none⟩),
 (31,⟨true,2,[.bool false,.str0],[(0,1,false),(1,1,false)],none⟩),
 (32,⟨true,2,[.bool false,.str0],[(0,1,false),(1,1,false)],none⟩),
 (33,⟨true,4,[.bool false,.str0,.bool false,.str0],[(0,2,true),(2,2,true)],none⟩),
 (34,⟨true,4,[.bool false,.str0,.bool false,.str0],[(0,2,true),(2,2,true)],none⟩),
 (35,⟨true,8,[.bool false,.str0,.bool false,.str0,.bool false,.str0,.bool false,.str0],[(0,4,true),(4,4,true)],none⟩),
 (36,⟨true,8,[.bool false,.str0,.bool false,.str0,.bool false,.str0,.bool false,.str0],[(0,4,true),(4,4,true)],none⟩),
 (37,⟨true,9,[.bool false,.bool false,.str0,.bool false,.str0,.bool false,.str0,.bool false,.str0],[(0,1,false),(1,8,true)],none⟩),
 (38,⟨true,9,[.bool false,.bool false,.str0,.bool false,.str0,.bool false,.str0,.bool false,.str0],[(0,1,false),(1,8,true)],none⟩),
 (39,⟨false,1,[.int .i64 0],[],none⟩),
 (41,⟨false,1,[.nilf],[],none⟩),
 (42,⟨true,36,[.bool false,.bool false,.str0,.bool false,.str0,.bool false,.str0,.bool false,.str0,.bool false,.bool false,.str0,.bool false,.str0,.bool false,.str0,.bool false,.str0,.bool false,.bool false,.str0,.bool false,.str0,.bool false,.str0,.bool false,.str0,.bool false,.bool false,.str0,.bool false,.str0,.bool false,.str0,.bool false,.str0],[],some (4,9,38)⟩),
 (44,⟨false,1,[.nilf],[],none⟩),
 (46,⟨false,1,[.nilf],[],none⟩),
 (48,⟨false,1,[.nilf],[],none⟩),
 (49,⟨true,33,[.bool false,.str0,.bool false,.str0,.bool false,.str0,.bool false,.str0,.bool false,.str0,.bool false,.str0,.bool false,.str0,.bool false,.str0,.bool false,.str0,.bool false,.str0,.bool false,.str0,.bool false,.str0,.bool false,.str0,.bool false,.str0,.bool false,.str0,.bool false,.str0,.bool false],[(0,8,true),(8,8,true),(16,8,true),(24,8,true),(32,1,false)],none⟩),
 (50,⟨true,33,[.bool false,.str0,.bool false,.str0,.bool false,.str0,.bool false,.str0,.bool false,.str0,.bool false,.str0,.bool false,.str0,.bool false,.str0,.bool false,.str0,.bool false,.str0,.bool false,.str0,.bool false,.str0,.bool false,.str0,.bool false,.str0,.bool false,.str0,.bool false,.str0,.bool false],[(0,8,true),(8,8,true),(16,8,true),(24,8,true),(32,1,false)],none⟩),
 (51,⟨false,1,[.nilf],[],none⟩),
 (52,⟨false,1,[.nilf],[],none⟩),
 (53,⟨false,1,[.nils],[],some (0,9,38)⟩),
 (54,⟨true,4,[.nils,.nils,.nils,.nils],[(0,1,false),(1,1,false),(2,1,false),(3,1,false)],none⟩),
 (55,⟨true,4,[.nils,.nils,.nils,.nils],[(0,1,false),(1,1,false),(2,1,false),(3,1,false)],none⟩),
 (57,⟨false,1,[.nilf],[],none⟩),
 (59,⟨false,1,[.nilf],[],none⟩),
 (60,⟨false,1,[.nilf],[],none⟩),
 (61,⟨false,1,[.nilf],[],none⟩),
 (62,⟨false,1,[.nilf],[],none⟩),
 (63,⟨false,1,[.nilf],[],none⟩),
 (64,⟨false,1,[.nilf],[],none⟩),
 (65,⟨false,1,[.nilf],[],none⟩),
 (66,⟨false,1,[.nilf],[],none⟩),
 (67,⟨false,1,[.nilf],[],none⟩),
 (68,⟨false,1,[.nilf],[],none⟩),
 (70,⟨false,1,[.nilf],[],none⟩),
 (71,⟨false,1,[.int .i64 0],[],none⟩),
 (73,⟨false,1,[.nilf],[],none⟩),
 (74,⟨false,1,[.nilf],[],none⟩),
 (75,⟨false,1,[.nilf],[],none⟩),
 (76,⟨true,16,[.bool false,.str0,.bool false,.str0,.bool false,.str0,.bool false,.str0,.bool false,.str0,.bool false,.str0,.bool false,.str0,.bool false,.str0],[(0,4,true),(4,8,true),(12,4,true)],none⟩),
 (77,⟨true,16,[.bool false,.str0,.bool false,.str0,.bool false,.str0,.bool false,.str0,.bool false,.str0,.bool false,.str0,.bool false,.str0,.bool false,.str0],[(0,4,true),(4,8,true),(12,4,true)],none⟩),
 (78,⟨false,1,[.nilf],[],none⟩),
 (80,⟨false,1,[.nilf],[],none⟩),
 (82,⟨false,1,[.nilf],[],none⟩),
 (83,⟨false,1,[.nilf],[],none⟩),
 (85,⟨false,1,[.nilf],[],none⟩),
 (86,⟨false,1,[.nilf],[],none⟩),
 (87,⟨false,1,[.nilf],[],none⟩),
 (88,⟨false,1,[.nilf],[],none⟩),
 (89,⟨false,1,[.nilf],[],none⟩),
 (90,⟨false,1,[.nilf],[],none⟩),
 (91,⟨false,1,[.nilf],[],none⟩),
 (92,⟨true,2,[.nils,.nils],[],some (2,1,24)⟩),
 (93,⟨false,1,[.nilf],[],none⟩),
 (95,⟨false,1,[.nilf],[],none⟩),
 (96,⟨false,1,[.nilp],[],none⟩),
 (97,⟨true,2,[.nilp,.nilp],[(0,1,false),(1,1,false)],none⟩),
 (98,⟨true,2,[.nilp,.nilp],[(0,1,false),(1,1,false)],none⟩),
 (99,⟨true,9,[.nilp,.nilp,.nilp,.nilp,.nilp,.nilp,.nilp,.nilp,.bool false],[(0,2,true),(2,2,true),(4,2,true),(6,2,true),(8,1,false)],none⟩),
 (100,⟨true,9,[.nilp,.nilp,.nilp,.nilp,.nilp,.nilp,.nilp,.nilp,.bool false],[(0,2,true),(2,2,true),(4,2,true),(6,2,true),(8,1,false)],none⟩),
 (101,⟨false,1,[.nilf],[],none⟩),
 (102,⟨false,1,[.nilf],[],none⟩),
 (103,⟨false,1,[.nilf],[],none⟩),
 (104,⟨false,1,[.nilf],[],none⟩),
 (105,⟨true,2,[.int .i64 0,.int .i64 0],[],some (2,1,3)⟩),
 (106,⟨false,1,[.nilf],[],none⟩),
 (107,⟨false,1,[.nilf],[],none⟩),
 (108,⟨false,1,[.nilf],[],none⟩),
 (109,⟨false,1,[.nilf],[],none⟩),
 (110,⟨true,4,[.int .i64 0,.int .i64 0,.int .i64 0,.int .i64 0],[],some (4,1,2)⟩),
 (111,⟨true,14,[.nilf,.int .i64 0,.int .i64 0,.int .i64 0,.int .i64 0,.int .i64 0,.bool false,.str0,.bool false,.str0,.bool false,.str0,.bool false,.str0],[(0,1,false),(1,4,true),(5,1,false),(6,8,true)],none⟩),
 (112,⟨true,14,[.nilf,.int .i64 0,.int .i64 0,.int .i64 0,.int .i64 0,.int .i64 0,.bool false,.str0,.bool false,.str0,.bool false,.str0,.bool false,.str0],[(0,1,false),(1,4,true),(5,1,false),(6,8,true)],none⟩),
 (113,⟨false,1,[.nils],[],some (0,2,98)⟩),
 (115,⟨false,1,[.nilf],[],none⟩),
 (116,⟨false,1,[.nilf],[],none⟩),
 (117,⟨false,1,[.nilf],[],none⟩),
 (119,⟨false,1,[.nilf],[],none⟩),
 (120,⟨false,1,[.nilf],[],none⟩),
 (121,⟨false,1,[.nilf],[],none⟩),
 (123,⟨false,1,[.nilf],[],none⟩),
 (124,⟨true,3,[.bool false,.nilp,.nilp],[(0,1,false),(1,2,true)],none⟩),
 (125,⟨true,3,[.bool false,.nilp,.nilp],[(0,1,false),(1,2,true)],none⟩),
 (127,⟨false,1,[.nilf],[],none⟩),
 (128,⟨false,1,[.nilf],[],none⟩),
 (129,⟨false,1,[.nilf],[],none⟩),
 (130,⟨false,1,[.nilf],[],none⟩),
 (131,⟨true,4,[.nilp,.nilp,.nilp,.nilp],[],some (4,1,96)⟩),
 (132,⟨true,4,[.nilp,.nilp,.nilp,.nilp],[],some (4,1,96)⟩),
 (134,⟨false,1,[.nilf],[],none⟩),
 (136,⟨false,1,[.nilf],[],none⟩),
 (137,⟨false,1,[.nilf],[],none⟩),
 (138,⟨false,1,[.nilf],[],none⟩),
 (139,⟨false,1,[.nilf],[],none⟩),
 (140,⟨false,1,[.nilf],[],none⟩),
 (142,⟨false,1,[.nilf],[],none⟩),
 (143,⟨true,16,[.bool false,.str0,.bool false,.str0,.bool false,.str0,.bool false,.str0,.bool false,.str0,.bool false,.str0,.bool false,.str0,.bool false,.str0],[],some (4,4,34)⟩),
 (144,⟨true,16,[.bool false,.str0,.bool false,.str0,.bool false,.str0,.bool false,.str0,.bool false,.str0,.bool false,.str0,.bool false,.str0,.bool false,.str0],[],some (4,4,34)⟩),
 (145,⟨false,1,[.nilf],[],none⟩),
 (146,⟨false,1,[.nilf],[],none⟩),
 (147,⟨false,1,[.nilf],[],none⟩),
 (148,⟨false,1,[.nilf],[],none⟩),
 (149,⟨true,48,[.bool false,.str0,.bool false,.str0,.bool false,.str0,.bool false,.str0,.bool false,.str0,.bool false,.str0,.bool false,.str0,.bool false,.str0,.bool false,.str0,.bool false,.str0,.bool false,.str0,.bool false,.str0,.bool false,.str0,.bool false,.str0,.bool false,.str0,.bool false,.str0,.bool false,.str0,.bool false,.str0,.bool false,.str0,.bool false,.str0,.bool false,.str0,.bool false,.str0,.bool false,.str0,.bool false,.str0],[],some (3,16,144)⟩),
 (150,⟨false,1,[.nilf],[],none⟩),
 (151,⟨false,1,[.nilf],[],none⟩),
 (152,⟨false,1,[.nilf],[],none⟩),
 (153,⟨false,1,[.nilf],[],none⟩),
 (154,⟨false,1,[.nilf],[],none⟩),
 (155,⟨false,1,[.nilf],[],none⟩),
 (156,⟨false,1,[.nilf],[],none⟩),
 (158,⟨false,1,[.nilf],[],none⟩),
 (159,⟨false,1,[.nilf],[],none⟩),
 (160,⟨false,1,[.nilf],[],none⟩),
 (161,⟨false,1,[.nilf],[],none⟩),
 (162,⟨false,1,[.nilf],[],none⟩),
 (163,⟨false,1,[.nilf],[],none⟩),
 (164,⟨false,1,[.nilf],[],none⟩),
 (165,⟨false,1,[.nilf],[],none⟩),
 (166,⟨false,1,[.nilf],[],none⟩),
 (167,⟨false,1,[.nilf],[],none⟩),
 (168,⟨false,1,[.nilf],[],none⟩),
 (169,⟨false,1,[.nilp],[],none⟩),
 (170,⟨true,3,[.nilp,.nilp,.nilp],[(0,1,false),(1,2,true)],none⟩),
 (171,⟨false,1,[.nils],[],some (0,3,170)⟩),
 (172,⟨false,1,[.nilf],[],none⟩),
 (173,⟨false,1,[.nilf],[],none⟩),
 (174,⟨true,2,[.nilp,.nilp],[(0,1,false),(1,1,false)],none⟩),
 (175,⟨true,2,[.nilp,.nilp],[(0,1,false),(1,1,false)],none⟩),
 (176,⟨true,4,[.nilp,.nilp,.nilp,.nilp],[(0,2,true),(2,2,true)],none⟩),
 (177,⟨true,4,[.nilp,.nilp,.nilp,.nilp],[(0,2,true),(2,2,true)],none⟩),
 (179,⟨false,1,[.nilf],[],none⟩),
 (180,⟨false,1,[.nilf],[],none⟩),
 (181,⟨false,1,[.nilf],[],none⟩),
 (182,⟨false,1,[.nilf],[],none⟩),
 (183,⟨false,1,[.nils],[],some (0,1,221)⟩),
 (184,⟨true,2,[.bool false,.nils],[(0,1,false),(1,1,false)],none⟩),
 (185,⟨true,2,[.bool false,.nils],[(0,1,false),(1,1,false)],none⟩),
 (186,⟨true,4,[.bool false,.nils,.bool false,.nils],[(0,2,true),(2,2,true)],none⟩),
 (187,⟨true,4,[.bool false,.nils,.bool false,.nils],[(0,2,true),(2,2,true)],none⟩),
 (188,⟨false,1,[.nilf],[],none⟩),
 (189,⟨false,1,[.nilf],[],none⟩),
 (190,⟨false,1,[.nilf],[],none⟩),
 (191,⟨false,1,[.nils],[],some (0,1,5)⟩),
 (192,⟨false,1,[.nilp],[],none⟩),
 (193,⟨false,1,[.nilf],[],none⟩),
 (194,⟨false,1,[.nilf],[],none⟩),
 (195,⟨false,1,[.nilf],[],none⟩),
 (196,⟨true,28,[.nilf,.int .i64 0,.int .i64 0,.int .i64 0,.int .i64 0,.int .i64 0,.bool false,.str0,.bool false,.str0,.bool false,.str0,.bool false,.str0,.nilf,.int .i64 0,.int .i64 0,.int .i64 0,.int .i64 0,.int .i64 0,.bool false,.str0,.bool false,.str0,.bool false,.str0,.bool false,.str0],[],some (2,14,112)⟩),
 (197,⟨false,1,[.nilf],[],none⟩),
 (198,⟨false,1,[.nilp],[],none⟩),
 (199,⟨true,9,[.nilp,.bool false,.str0,.bool false,.str0,.bool false,.str0,.bool false,.str0],[(0,1,false),(1,8,true)],none⟩),
 (200,⟨false,1,[.nils],[],some (0,9,199)⟩),
 (201,⟨false,1,[.nilf],[],none⟩),
 (203,⟨false,1,[.nilf],[],none⟩),
 (204,⟨false,1,[.nilf],[],none⟩),
 (205,⟨false,1,[.nilf],[],none⟩),
 (206,⟨false,1,[.nilf],[],none⟩),
 (208,⟨false,1,[.nilf],[],none⟩),
 (209,⟨false,1,[.nils],[],some (0,4,132)⟩),
 (210,⟨true,3,[.int .i64 0,.int .i64 0,.int .i64 0],[],some (3,1,3)⟩),
 (211,⟨false,1,[.nilf],[],none⟩),
 (212,⟨false,1,[.nilf],[],none⟩),
 (213,⟨false,1,[.nilf],[],none⟩),
 (214,⟨false,1,[.nilf],[],none⟩),
 (215,⟨false,1,[.nilf],[],none⟩),
 (216,⟨false,1,[.nilf],[],none⟩),
 (217,⟨false,1,[.nilf],[],none⟩),
 (218,⟨false,1,[.nilf],[],none⟩),
 (219,⟨false,1,[.int .u64 0],[],none⟩),
 (220,⟨false,1,[.nilf],[],none⟩),
 (221,⟨false,1,[.int .u32 0],[],none⟩),
 (222,⟨false,1,[.nilf],[],none⟩),
 (223,⟨false,1,[.nilf],[],none⟩),
 (224,⟨false,1,[.nilf],[],none⟩),
 (226,⟨false,1,[.nilf],[],none⟩),
 (228,⟨false,1,[.nilf],[],none⟩),
 (230,⟨false,1,[.nilf],[],none⟩),
 (231,⟨false,1,[.nilf],[],none⟩),
 (232,⟨false,1,[.nilf],[],none⟩),
 (233,⟨false,1,[.nilf],[],none⟩),
 (234,⟨false,1,[.nilf],[],none⟩),
 (235,⟨false,1,[.nilf],[],none⟩),
 (236,⟨false,1,[.nilf],[],none⟩),
 (237,⟨false,1,[.nilf],[],none⟩),
 (238,⟨false,1,[.nilf],[],none⟩),
 (239,⟨false,1,[.nilf],[],none⟩),
 (240,⟨false,1,[.nilf],[],none⟩),
 (241,⟨false,1,[.nilf],[],none⟩),
 (242,⟨false,1,[.nilf],[],none⟩),
 (243,⟨false,1,[.nilf],[],none⟩),
 (244,⟨false,1,[.nilf],[],none⟩),
 (245,⟨false,1,[.nilf],[],none⟩),
 (246,⟨false,1,[.nilf],[],none⟩),
 (247,⟨false,1,[.nilf],[],none⟩),
 (248,⟨false,1,[.nilf],[],none⟩),
 (249,⟨false,1,[.nilf],[],none⟩),
 (251,⟨false,1,[.nilf],[],none⟩),
 (252,⟨false,1,[.nilf],[],none⟩),
 (253,⟨false,1,[.nilf],[],none⟩),
 (254,⟨false,1,[.nilf],[],none⟩),
 (255,⟨false,1,[.nilf],[],none⟩),
 (256,⟨false,1,[.nilf],[],none⟩),
 (257,⟨false,1,[.nilf],[],none⟩),
 (258,⟨false,1,[.int .u64 0],[],none⟩),
 (259,⟨true,4,[.nilp,.nilp,.nilp,.nilp],[(0,1,false),(1,2,true),(3,1,false)],none⟩),
 (260,⟨true,4,[.nilp,.nilp,.nilp,.nilp],[(0,1,false),(1,2,true),(3,1,false)],none⟩),
 (262,⟨false,1,[.nilf],[],none⟩),
 (263,⟨false,1,[.nilf],[],none⟩),
 (264,⟨false,1,[.nilf],[],none⟩),
 (265,⟨false,1,[.nilf],[],none⟩),
 (266,⟨false,1,[.nilf],[],none⟩),
 (267,⟨false,1,[.nilf],[],none⟩),
 (269,⟨false,1,[.nilf],[],none⟩),
 (270,⟨false,1,[.nilf],[],none⟩),
 (271,⟨false,1,[.nilf],[],none⟩),
 (272,⟨false,1,[.nilf],[],none⟩),
 (273,⟨false,1,[.nilf],[],none⟩),
 (274,⟨false,1,[.nilf],[],none⟩),
 (275,⟨false,1,[.nilf],[],none⟩),
 (276,⟨false,1,[.nilf],[],none⟩),
 (277,⟨false,1,[.nilf],[],none⟩),
 (279,⟨false,1,[.nilf],[],none⟩),
 (280,⟨false,1,[.nils],[],some (0,1,96)⟩),
 (282,⟨false,1,[.nilf],[],none⟩),
 (283,⟨false,1,[.nilf],[],none⟩),
 (284,⟨false,1,[.nilf],[],none⟩),
 (285,⟨true,4,[.nilp,.nilp,.nilp,.str0],[(0,1,false),(1,1,false),(2,1,false),(3,1,false)],none⟩),
 (286,⟨true,4,[.nilp,.nilp,.nilp,.str0],[(0,1,false),(1,1,false),(2,1,false),(3,1,false)],none⟩),
 (287,⟨true,0,[],[],some (0,1,16)⟩),
 (288,⟨true,0,[],[(0,0,true)],none⟩),
 (289,⟨true,0,[],[(0,0,true)],none⟩),
 (290,⟨false,1,[.int .u8 0],[],none⟩),
 (291,⟨false,1,[.int .u8 0],[],none⟩),
 (292,⟨false,1,[.nilf],[],none⟩),
 (293,⟨false,1,[.nilp],[],none⟩),
 (294,⟨false,1,[.int .i32 0],[],none⟩),
 (295,⟨false,1,[.int .i32 0],[],none⟩),
 (296,⟨true,11,[.int .u64 0,.int .u64 0,.int .u32 0,.int .u8 0,.int .u8 0,.int .u8 0,.int .u8 0,.nilf,.nilp,.int .i32 0,.int .i32 0],[(0,1,false),(1,1,false),(2,1,false),(3,1,false),(4,1,false),(5,1,false),(6,1,false),(7,1,false),(8,1,false),(9,1,false),(10,1,false)],none⟩),
 (297,⟨true,11,[.int .u64 0,.int .u64 0,.int .u32 0,.int .u8 0,.int .u8 0,.int .u8 0,.int .u8 0,.nilf,.nilp,.int .i32 0,.int .i32 0],[(0,1,false),(1,1,false),(2,1,false),(3,1,false),(4,1,false),(5,1,false),(6,1,false),(7,1,false),(8,1,false),(9,1,false),(10,1,false)],none⟩),
 (298,⟨false,1,[.nilf],[],none⟩),
 (299,⟨false,1,[.nilp],[],none⟩)]
theorem tys_ok:∀ p∈tys,p.2.good Tryz.prog p.1=true:=List.all_eq_true.1 (by kernel_rfl)
theorem mixed:Tryz.prog.follows .mixedOrders=true:=by kernel_rfl
end Go.Proofs.YtplakbflfckldaaGreat
namespace Go.Proofs.YtplakbflfckldaaGreat
open Go Go.RowKit Tr
theorem eo3:Enters Tryz.prog 3:=Tr.enters_of Tryz.func3 (by kernel_rfl)
theorem eo5:Enters Tryz.prog 5:=Tr.enters_of Tryz.func5 (by kernel_rfl)
theorem eo6:Enters Tryz.prog 6:=Tr.enters_of Tryz.func6 (by kernel_rfl)
theorem eo7:Enters Tryz.prog 7:=Tr.enters_of Tryz.func7 (by kernel_rfl)
theorem eo9:Enters Tryz.prog 9:=Tr.enters_of Tryz.func9 (by kernel_rfl)
theorem eo10:Enters Tryz.prog 10:=Tr.enters_of Tryz.func10 (by kernel_rfl)
theorem eo11:Enters Tryz.prog 11:=Tr.enters_of Tryz.func11 (by kernel_rfl)
theorem eo12:Enters Tryz.prog 12:=Tr.enters_of Tryz.func12 (by kernel_rfl)
theorem eo13:Enters Tryz.prog 13:=Tr.enters_of Tryz.func13 (by kernel_rfl)
theorem eo14:Enters Tryz.prog 14:=Tr.enters_of Tryz.func14 (by kernel_rfl)
theorem eo15:Enters Tryz.prog 15:=Tr.enters_of Tryz.func15 (by kernel_rfl)
theorem eo16:Enters Tryz.prog 16:=Tr.enters_of Tryz.func16 (by kernel_rfl)
theorem eo17:Enters Tryz.prog 17:=Tr.enters_of Tryz.func17 (by kernel_rfl)
theorem eo18:Enters Tryz.prog 18:=Tr.enters_of Tryz.func18 (by kernel_rfl)
theorem eo22:Enters Tryz.prog 22:=Tr.enters_of Tryz.func22 (by kernel_rfl)
theorem eo23:Enters Tryz.prog 23:=Tr.enters_of Tryz.func23 (by kernel_rfl)
theorem eo24:Enters Tryz.prog 24:=Tr.enters_of Tryz.func24 (by kernel_rfl)
theorem eo38:Enters Tryz.prog 38:=Tr.enters_of Tryz.func38 (by kernel_rfl)
theorem eo44:Enters Tryz.prog 44:=Tr.enters_of Tryz.func44 (by kernel_rfl)
theorem eo45:Enters Tryz.prog 45:=Tr.enters_of Tryz.func45 (by kernel_rfl)
theorem eo47:Enters Tryz.prog 47:=Tr.enters_of Tryz.func47 (by kernel_rfl)
theorem eo48:Enters Tryz.prog 48:=Tr.enters_of Tryz.func48 (by kernel_rfl)
theorem eo49:Enters Tryz.prog 49:=Tr.enters_of Tryz.func49 (by kernel_rfl)
theorem eo50:Enters Tryz.prog 50:=Tr.enters_of Tryz.func50 (by kernel_rfl)
theorem eo51:Enters Tryz.prog 51:=Tr.enters_of Tryz.func51 (by kernel_rfl)
theorem eo70:Enters Tryz.prog 70:=Tr.enters_of Tryz.func70 (by kernel_rfl)
theorem eo91:Enters Tryz.prog 91:=Tr.enters_of Tryz.func91 (by kernel_rfl)
theorem eo92:Enters Tryz.prog 92:=Tr.enters_of Tryz.func92 (by kernel_rfl)
theorem eo99:Enters Tryz.prog 99:=Tr.enters_of Tryz.func99 (by kernel_rfl)
theorem eo100:Enters Tryz.prog 100:=Tr.enters_of Tryz.func100 (by kernel_rfl)
theorem eo103:Enters Tryz.prog 103:=Tr.enters_of Tryz.func103 (by kernel_rfl)
theorem eo104:Enters Tryz.prog 104:=Tr.enters_of Tryz.func104 (by kernel_rfl)
theorem eo105:Enters Tryz.prog 105:=Tr.enters_of Tryz.func105 (by kernel_rfl)
theorem eo106:Enters Tryz.prog 106:=Tr.enters_of Tryz.func106 (by kernel_rfl)
theorem eo161:Enters Tryz.prog 161:=Tr.enters_of Tryz.func161 (by kernel_rfl)
theorem eo162:Enters Tryz.prog 162:=Tr.enters_of Tryz.func162 (by kernel_rfl)
theorem eo163:Enters Tryz.prog 163:=Tr.enters_of Tryz.func163 (by kernel_rfl)
theorem eo164:Enters Tryz.prog 164:=Tr.enters_of Tryz.func164 (by kernel_rfl)
theorem eo201:Enters Tryz.prog 201:=Tr.enters_of Tryz.func201 (by kernel_rfl)
end Go.Proofs.YtplakbflfckldaaGreat
