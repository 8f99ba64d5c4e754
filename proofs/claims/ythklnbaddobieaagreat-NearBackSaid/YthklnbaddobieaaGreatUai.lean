/- Laws for the walk. -/
import Derived.Test.YthklnbaddobieaaGreatUaa
import Derived.Deep.RegionHeld3
import Derived.StillTail
import Derived.Below
set_option linter.unusedVariables false
set_option maxHeartbeats 4000000
namespace Tr
open Go Go.RowKit
structure Mod(m:Nat)(w w':World):Prop where
 os:w'.os=w.os
 tape:w'.tape=w.tape
 output:w'.output=w.output
 size:w.heap.size≤w'.heap.size
 block:∀ k,k<w.heap.size→k≠m→w'.heap[k]?=w.heap[k]?
def NoW(z:Obj):Prop:=∀ cs T fr,z=.cells cs T fr→∀(i:Nat) (k:Unit) (x:Int),cs[i]?≠some (.int .u32 x)
def Rcv(A:Nat→Prop)(w:World):Prop:=∀ b,A b→∃ z,w.heap[b]?=some z∧NoW z
theorem Rcv.lt{A:Nat→Prop}{w:World}(h:Rcv A w){b:Nat}(hb:A b):b<w.heap.size:=by
 obtain⟨z,h1,_⟩:=h b hb
 exact(Array.getElem?_eq_some_iff.1 h1).1
def NoA:Nat→Prop:=fun _=>False
abbrev Fact:=Value→World→(Nat→Prop)→Prop
def Fact.Keeps(R:Fact):Prop:=∀ v w w' (A A':Nat→Prop),w.heap.size≤w'.heap.size→(∀ b,b<w.heap.size→¬A b→w'.heap[b]?=w.heap[b]?∧¬A' b)→R v w A→R v w' A'
inductive Kd where
 | lit (v:Value)
 | new (z:Obj)
 | val
 | on (r:Nat) (z:Obj)
 | skip
structure It where
 i:Nat
 o:Oper
 k:Kd
 deps:List Nat
 g:Bool
 s:Bool
def It.val(f:Nat→Value)(t:It):Value:=match t.k with|.lit v=>v|.skip=>undef|_=>f t.i
def It.runs(t:It):Bool:=match t.k with|.skip=>false|_=>true
def puts(f:Nat→Value):List It→Act→Act
 | [],a=>a
 | t :: l,a=>puts f l (a.put t.o.dst (t.val f))
def QF:Exit→Act→World→Prop:=fun _ _ _=>False
def Obl(P:Program)(w0:World)(F:Nat→Fact)(f:Nat→Value)(b:Act)(t:It):Prop :=
 match t.k with
 | .lit v=>∀ w,Below w0.heap.size w0 w→(execOp b.eval t.o).run P w=.ok (.value v) w
 | .new z=>∀ w,(execOp b.eval t.o).run P w=.ok (.value (.pointer (some ⟨w.heap.size,0,none⟩))) (w.alloc z)
 | .val=>∀ w A,Below w0.heap.size w0 w→Rcv A w→(∀ b,A b→w0.heap.size≤b)→(∀ j∈t.deps,F j (f j) w A) →
   ∀ K:Act→World→Prop,(∀ v w',Below w.heap.size w w'→F t.i v w' A→K (b.put t.o.dst v) w')→t.o.wp P b w K QF
 | .on r z=>∀ w A m,Below w0.heap.size w0 w→Rcv A w→(∀ b,A b→w0.heap.size≤b)→A m→w0.heap.size≤m→f r=.pointer (some ⟨m,0,none⟩)→w.heap[m]?=some z→(∀ j∈t.deps,F j (f j) w A) →
   ∀ K:Act→World→Prop,(∀ v w',(t.s=true→v=f r)→Mod m w w'→F t.i v w' (fun b=>A b∧b≠m)→K (b.put t.o.dst v) w')→t.o.wp P b w K QF
 | .skip=>True
def OblOn(P:Program)(w0:World)(F:Nat→Fact)(f:Nat→Value)(b:Act)(i:Nat)(o:Oper)(r:Nat)(z:Obj)(deps:List Nat):Prop :=
 ∀ w A m,Below w0.heap.size w0 w→Rcv A w→(∀ b,A b→w0.heap.size≤b)→A m→w0.heap.size≤m→f r=.pointer (some ⟨m,0,none⟩)→w.heap[m]?=some z→(∀ j∈deps,F j (f j) w A) →
   ∀ K:Act→World→Prop,(∀ v w',Mod m w w'→F i v w' (fun b=>A b∧b≠m)→K (b.put o.dst v) w')→o.wp P b w K QF
def OblSt(P:Program)(w0:World)(F:Nat→Fact)(f:Nat→Value)(b:Act)(i:Nat)(o:Oper)(r:Nat)(z:Obj)(deps:List Nat):Prop :=
 ∀ w A m,Below w0.heap.size w0 w→Rcv A w→(∀ b,A b→w0.heap.size≤b)→A m→w0.heap.size≤m→f r=.pointer (some ⟨m,0,none⟩)→w.heap[m]?=some z→(∀ j∈deps,F j (f j) w A) →
   ∀ K:Act→World→Prop,(∀ w',Mod m w w'→F i (.pointer (some ⟨m,0,none⟩)) w' (fun b=>A b∧b≠m)→K (b.put o.dst (f r)) w')→o.wp P b w K QF
def Grd(ops:Array Oper)(w0:World)(F:Nat→Fact)(f:Nat→Value)(b:Act)(t:It):Prop :=
 t.g=true→∀ w A,Below w0.heap.size w0 w→(∀ j∈t.deps,F j (f j) w A)→Region.wanted t.o (yielded ops b.tmps)=t.runs
def Obls(P:Program)(ops:Array Oper)(w0:World)(F:Nat→Fact)(a:Act):List It→List It→Prop
 | _,[]=>True
 | pre,t :: l=>(∀ f,Obl P w0 F f (puts f pre a) t∧Grd ops w0 F f (puts f pre a) t)∧Obls P ops w0 F a (pre++[t]) l
def It.isNew(t:It):Bool:=match t.k with|.new _=>true|_=>false
def It.isVal(t:It):Bool:=match t.k with|.val=>true|.on _ _=>true|_=>false
def behind(md:Region.Mode)(x:Nat)(y:Oper):Bool:=y.after.any fun e=>Region.binds md e && e.on == x
def reach(md:Region.Mode)(ops:Array Oper):Nat→Nat→Oper→Bool
 | 0,_,_=>false
 | n+1,x,y=>behind md x y || y.after.any fun e=>Region.binds md e && match ops[e.on]? with|some o=>reach md ops n x o|none=>false
def pairOk(md:Region.Mode)(ops:Array Oper)(x y:It):Bool :=
  -- x stands before y in the text
  (match x.o.dst with
   | some d=>(!(y.o.looksAt ops).contains d || behind md x.i y.o) && y.o.dst != some d
   | none=>true) &&
  (match y.o.dst with
   | some d=>(!(x.o.looksAt ops).contains d || behind md x.i y.o)
   | none=>true) && x.i != y.i
def allPairs(p:It→It→Bool):List It→Bool
 | []=>true
 | t :: l=>l.all (p t) && allPairs p l
def itsOk(md:Region.Mode)(ops:Array Oper)(listed:Array Bool)(its:List It)(tail:List Nat):Bool :=
 allPairs (pairOk md ops) its &&
 its.all (fun t=>(t.g || (t.o.guard.isNone && t.runs)) && t.deps.all (fun j=>behind md j t.o && its.any fun x=>x.i == j && x.isVal)) &&
 its.all (fun t=>match t.k with|.on r _=>behind md r t.o && (its.any fun x=>x.i == r && x.isNew) && its.all (fun y=>y.i == t.i || match y.k with|.on r' _=>r' != r|_=>true)|_=>true) &&
 listed.size == ops.size &&
 (List.range ops.size).all (fun k=>(tail.contains k || its.any fun t=>t.i == k) && (listed.getD k true == !(tail.contains k || its.any fun t=>t.i == k)) && !(tail.contains k && its.any fun t=>t.i == k)) &&
 tail.all (fun k=>match ops[k]? with|some o=>its.all (fun t=>reach md ops ops.size t.i o)|none=>true) &&
 its.all (fun t=>t.o.after.all fun e=>!Region.binds md e || (decide (e.on<t.i) && !tail.contains e.on))
section
variable{P:Program}{Q:Exit→Act→World→Prop}{md:Region.Mode}{S:World→Prop}{ops:Array Oper}{f:Nat→Value}
theorem allPairs_pairwise{p:It→It→Bool}:∀{l:List It},allPairs p l=true→l.Pairwise (fun x y=>p x y=true)
 | [],_=>List.Pairwise.nil
 | t :: l,h=>by
  simp only[allPairs,Bool.and_eq_true,List.all_eq_true] at h
  exact List.Pairwise.cons h.1 (allPairs_pairwise h.2)
theorem pairwise_any{p:It→It→Prop}:∀{l:List It},l.Pairwise p→∀ x∈l,∀ y∈l,x=y∨p x y∨p y x
 | [],_,x,hx,_,_=>by cases hx
 | t :: l,h,x,hx,y,hy=>by
  rw[List.pairwise_cons] at h
  rcases List.mem_cons.1 hx with ex|hx'
  ·rcases List.mem_cons.1 hy with ey|hy'
   ·exact .inl (ex.trans ey.symm)
   ·exact .inr (.inl (ex▸h.1 y hy'))
  ·rcases List.mem_cons.1 hy with ey|hy'
   ·exact .inr (.inr (ey▸h.1 x hx'))
   ·exact pairwise_any h.2 x hx' y hy'
theorem pairOk_spec{x y:It}(h:pairOk md ops x y=true) :
  (∀ d,x.o.dst=some d→d∈y.o.looksAt ops→behind md x.i y.o=true)∧(∀ d,x.o.dst=some d→y.o.dst≠some d) ∧
  (∀ d,y.o.dst=some d→d∈x.o.looksAt ops→behind md x.i y.o=true)∧x.i≠y.i:=by
 simp only[pairOk,Bool.and_eq_true] at h
 refine⟨fun d hd hm=>?_,fun d hd=>?_,fun d hd hm=>?_,?_⟩
 ·have h1:=h.1.1
  rw[hd] at h1
  simp only[Bool.and_eq_true,Bool.or_eq_true,Bool.not_eq_true'] at h1
  rcases h1.1 with h2|h2
  ·rw[List.contains_iff_mem.2 hm] at h2; cases h2
  ·exact h2
 ·have h1:=h.1.1
  rw[hd] at h1
  simp only[Bool.and_eq_true,bne_iff_ne] at h1
  exact h1.2
 ·have h1:=h.1.2
  rw[hd] at h1
  simp only[Bool.or_eq_true,Bool.not_eq_true'] at h1
  rcases h1 with h2|h2
  ·rw[List.contains_iff_mem.2 hm] at h2; cases h2
  ·exact h2
 ·simpa using h.2
theorem behind_spec{x:Nat}{y:Oper}(h:behind md x y=true):∃ e∈y.after,Region.binds md e=true∧e.on=x:=by
 unfold behind at h
 rw[Array.any_eq_true] at h
 obtain⟨i,hi,h1⟩:=h
 simp only[Bool.and_eq_true,beq_iff_eq] at h1
 exact⟨_,Array.getElem_mem hi,h1.1,h1.2⟩
def slot(f:Nat→Value)(l:List It)(a:Act)(s:Nat):Option Value :=
 match l.find? (fun t=>t.o.dst == some s) with
 | some t=>if s<a.tmps.size then some (t.val f) else none
 | none=>a.tmps[s]?
theorem puts_size(l:List It)(a:Act):(puts f l a).tmps.size=a.tmps.size:=by
 induction l generalizing a with
 | nil=>rfl
 | cons t l ih =>
  rw[puts,ih]
  unfold Act.put; split<;>simp
theorem puts_defers(l:List It)(a:Act):(puts f l a).defers=a.defers:=by
 induction l generalizing a with
 | nil=>rfl
 | cons t l ih=>rw[puts,ih]; unfold Act.put; split<;>rfl
theorem put_slot(a:Act)(d:Option Tmp)(v:Value)(s:Nat):(a.put d v).tmps[s]?=if d=some s then(if s<a.tmps.size then some v else none) else a.tmps[s]?:=by
 cases d with
 | none=>simp[Act.put]
 | some d =>
  by_cases h:d=s
  ·subst h; simp[Act.put,Array.getElem?_setIfInBounds]
  ·simp[Act.put,Array.getElem?_setIfInBounds_ne h,h]
theorem puts_slot{l:List It}(hd:l.Pairwise (fun x y=>∀ d,x.o.dst=some d→y.o.dst≠some d))(a:Act)(s:Nat):(puts f l a).tmps[s]?=slot f l a s:=by
 induction l generalizing a with
 | nil=>rfl
 | cons t l ih =>
  rw[List.pairwise_cons] at hd
  rw[puts,ih hd.2]
  unfold slot
  rw[List.find?_cons]
  have hsz:(a.put t.o.dst (t.val f)).tmps.size=a.tmps.size:=by unfold Act.put; split<;>simp
  by_cases ht:t.o.dst=some s
  ·have hn:l.find? (fun t=>t.o.dst == some s)=none:=by
    rw[List.find?_eq_none]
    intro y hy
    simpa using hd.1 y hy s ht
   rw[hn]
   simp only[ht,beq_self_eq_true]
   rw[←ht,put_slot,if_pos ht]
  ·have:(t.o.dst == some s)=false:=by simpa using ht
   rw[this]
   simp only
   split
   ·rw[hsz]
   ·rw[put_slot,if_neg ht]
theorem slot_congr{its l1 l2:List It}{f1 f2:Nat→Value}(hd:∀ x∈its,∀ y∈its,∀ d,x.o.dst=some d→y.o.dst=some d→x=y)(h1:∀ x∈l1,x∈its)(h2:∀ x∈l2,x∈its){s:Nat}
  (h:∀ x∈its,x.o.dst=some s→((x∈l1↔x∈l2)∧(x∈l1→x.val f1=x.val f2))) (a:Act):slot f1 l1 a s=slot f2 l2 a s:=by
 unfold slot
 cases hf1:l1.find? (fun t=>t.o.dst == some s) with
 | none =>
  cases hf2:l2.find? (fun t=>t.o.dst == some s) with
  | none=>rfl
  | some y =>
   exfalso
   have hm:=List.mem_of_find?_eq_some hf2
   have hy:=List.find?_some hf2
   simp only[beq_iff_eq] at hy
   have:=(h y (h2 y hm) hy).1.2 hm
   rw[List.find?_eq_none] at hf1
   exact hf1 y this (by simpa using hy)
 | some x =>
  have hm:=List.mem_of_find?_eq_some hf1
  have hx:=List.find?_some hf1
  simp only[beq_iff_eq] at hx
  have hx2:=(h x (h1 x hm) hx).1.1 hm
  cases hf2:l2.find? (fun t=>t.o.dst == some s) with
  | none =>
   exfalso
   rw[List.find?_eq_none] at hf2
   exact hf2 x hx2 (by simpa using hx)
  | some y =>
   have hm2:=List.mem_of_find?_eq_some hf2
   have hy:=List.find?_some hf2
   simp only[beq_iff_eq] at hy
   have e:=hd x (h1 x hm) y (h2 y hm2) s hx hy
   subst e
   simp only
   rw[(h x (h1 x hm) hx).2 hm]
theorem execOp_slots{o:Oper}(hs:∀ cs b,o.op≠.select cs b){a b:Act}(h:∀ s∈o.looksAt ops,a.tmps[s]?=b.tmps[s]?):execOp a.eval o=execOp b.eval o:=by
 refine execOp_congr o hs fun x hx=>?_
 cases x with
 | tmp s =>
  have:=h s (List.mem_append_left _ (List.mem_filterMap.2 ⟨.tmp s,by simpa using hx,rfl⟩))
  simp[Act.eval,this]
 | _=>rfl
theorem put_same{a b:Act}{d:Option Tmp}{v v':Value}(hs:a.tmps.size=b.tmps.size)(h:b.put d v=b.put d v'):a.put d v=a.put d v':=by
 cases d with
 | none=>rfl
 | some d =>
  by_cases hd:d<b.tmps.size
  ·have:(b.put (some d) v).tmps[d]?=(b.put (some d) v').tmps[d]?:=by rw[h]
   rw[put_slot,put_slot] at this
   simp[hd] at this
   rw[this]
  ·have h1:¬d<a.tmps.size:=by rw[hs]; exact hd
   simp[Act.put,Array.setIfInBounds,h1]
theorem wp_other{o:Oper}{a b:Act}{w:World}{G:Value→World→Prop}{K:Act→World→Prop}(he:execOp a.eval o=execOp b.eval o)(hs:a.tmps.size=b.tmps.size)
  (h:∀ K:Act→World→Prop,(∀ v w',G v w'→K (b.put o.dst v) w')→o.wp P b w K QF) (hK:∀ v w',G v w'→K (a.put o.dst v) w'):o.wp P a w K Q:=by
 have h1:=h (fun a' w'=>∃ v,a'=b.put o.dst v∧G v w') (fun v w' hg=>⟨v,rfl,hg⟩)
 unfold Oper.wp at *
 rw[he]
 generalize (execOp b.eval o).run P w=r at *
 have key:∀ v' w',(∃ v,b.put o.dst v'=b.put o.dst v∧G v w')→K (a.put o.dst v') w':=by
  rintro v' w' ⟨v,e,hg⟩
  rw[put_same hs e]
  exact hK v w' hg
 cases r with
 | ok n w' =>
  cases n<;>simp only[Oper.upon] at h1 ⊢
  case value u=>exact key u w' h1
  case skip=>exact key undef w' h1
  case defer d =>
   obtain⟨v,e,_⟩:=h1
   exfalso
   have:(({ b with defers:=d :: b.defers }:Act).put o.dst undef).defers=(b.put o.dst v).defers:=by rw[e]
   unfold Act.put at this
   cases hd:o.dst<;>simp[hd] at this
  case enter g args =>
   refine Calls.mono h1 fun e w'' he=>?_
   cases e with
   | returned u=>exact key u w'' he
   | panicked c=>exact he.elim
   | outgrown=>exact absurd he (fun⟨_,_,h⟩=>h)
  case row row args=>exact Rows.mono h1 fun u w'' he=>key u w'' he
 | halt x w' =>
  cases x<;>simp only[Oper.upon] at h1 ⊢
  case panic u=>exact h1.elim
end
section
variable{P:Program}{Q:Exit→Act→World→Prop}{md:Region.Mode}{ops:Array Oper}{w0:World}{F:Nat→Fact}{a0:Act}
theorem Obls.get{l:List It}{pre:List It}(h:Obls P ops w0 F a0 pre l):∀ l1 t l2,l=l1++t :: l2→∀ f,Obl P w0 F f (puts f (pre++l1) a0) t∧Grd ops w0 F f (puts f (pre++l1) a0) t:=by
 induction l generalizing pre with
 | nil=>intro l1 t l2 e; simp at e
 | cons x l ih =>
  intro l1 t l2 e f
  cases l1 with
  | nil =>
   simp at e
   obtain⟨rfl,rfl⟩:=e
   simpa using h.1 f
  | cons y l1 =>
   simp at e
   obtain⟨rfl,rfl⟩:=e
   have:=ih h.2 l1 t l2 rfl f
   simpa using this
def Up(listed:Array Bool)(t:It):Prop:=listed.getD t.i true=true
def Waits(its:List It)(listed:Array Bool)(t:It):Prop:=t.isNew=true∧Up listed t∧∀ y∈its,∀ z,y.k=.on t.i z→¬Up listed y
def Alive(its:List It)(listed:Array Bool)(f:Nat→Value)(m:Nat):Prop:=∃ t∈its,Waits its listed t∧f t.i=.pointer (some ⟨m,0,none⟩)
structure Inv(its:List It)(listed0:Array Bool)(w0:World)(F:Nat→Fact)(a0:Act)(ops:Array Oper)(md:Region.Mode)(f:Nat→Value)(listed:Array Bool)(a:Act)(w:World):Prop where
 size:listed.size=listed0.size
 same:∀ k,(∀ t∈its,t.i≠k)→listed.getD k true=listed0.getD k true
 closed:∀ t∈its,Up listed t→∀ e∈t.o.after,Region.binds md e=true→listed.getD e.on false=true
 tsize:a.tmps.size=a0.tmps.size
 defers:a.defers=a0.defers
 frame:∀ s,a.tmps[s]?=slot f (its.filter fun t=>listed.getD t.i true) a0 s
 below:Below w0.heap.size w0 w
 facts:∀ t∈its,Up listed t→t.isVal=true→F t.i (f t.i) w (Alive its listed f)
 news:∀ t∈its,∀ z,t.k=.new z→Waits its listed t→∃ m,f t.i=.pointer (some ⟨m,0,none⟩)∧w0.heap.size≤m∧w.heap[m]?=some z
 apart:∀ t∈its,∀ t'∈its,Waits its listed t→Waits its listed t'→f t.i=f t'.i→t=t'
 tie:∀ t∈its,∀ r z,t.k=.on r z→t.s=true→Up listed t→f t.i=f r
structure Ok(md:Region.Mode)(ops:Array Oper)(listed:Array Bool)(its:List It)(tail:List Nat):Prop where
 sel:∀(j:Nat) (o:Oper) cs b,ops[j]?=some o→o.op≠.select cs b
 oper:∀ t∈its,ops[t.i]?=some t.o
 pairs:its.Pairwise (fun x y=>pairOk md ops x y=true)
 guard:∀ t∈its,t.g=false→t.o.guard=none∧t.runs=true
 now:∀ t∈its,∀ z,t.k=.new z→NoW z
 deps:∀ t∈its,∀ j∈t.deps,behind md j t.o=true∧∃ x∈its,x.i=j∧x.isVal=true
 on:∀ t∈its,∀ r z,t.k=.on r z→behind md r t.o=true∧(∃ x∈its,x.i=r∧x.k=.new z)∧∀ y∈its,∀ z',y.k=.on r z'→y.i=t.i
 size:listed.size=ops.size
 all:∀ k,k<ops.size→(∀ t∈its,t.i≠k)→k∈tail
 rest:∀ k,k<ops.size→(listed.getD k true=true↔k ∉ tail∧∀ t∈its,t.i≠k)
 last:∀ k∈tail,∀ o,ops[k]?=some o→∀ t∈its,reach md ops ops.size t.i o=true
 back:∀ t∈its,∀ e∈t.o.after,Region.binds md e=true→e.on<t.i∧e.on ∉ tail
theorem ready_of{listed:Array Bool}{t:It}(ht:ops[t.i]?=some t.o)(hu:¬Up listed t)(h:∀ e∈t.o.after,Region.binds md e=true→listed.getD e.on false=true):t.i∈Region.ready md ops listed:=by
 rw[mem_ready]
 exact⟨by simpa[Up] using hu,t.o,ht,h⟩
theorem getD_tf{listed:Array Bool}{k:Nat}(h:k<listed.size):listed.getD k true=listed.getD k false:=by
 simp[h]
theorem getD_false_lt{listed:Array Bool}{k:Nat}(h:listed.getD k true=false):k<listed.size:=by
 rcases Nat.lt_or_ge k listed.size with h1|h1
 ·exact h1
 ·simp[Array.getElem?_eq_none h1] at h
theorem least_unlisted(its:List It)(listed:Array Bool)(h:∃ t∈its,¬Up listed t):∃ t∈its,¬Up listed t∧∀ y∈its,¬Up listed y→t.i≤y.i:=by
 obtain⟨t,ht,hu⟩:=h
 induction hn:t.i using Nat.strongRecOn generalizing t with
 | ind n ih =>
  by_cases h:∃ y∈its,¬Up listed y∧y.i<n
  ·obtain⟨y,hy,hyu,hlt⟩:=h
   exact ih y.i hlt y hy hyu rfl
  ·refine⟨t,ht,hu,fun y hy hyu=>?_⟩
   rcases Nat.lt_or_ge y.i t.i with h1|h1
   ·exact absurd ⟨y,hy,hyu,by omega⟩ h
   ·exact h1
theorem Inv.step{its:List It}{listed0:Array Bool}{tail:List Nat}(ok:Ok md ops listed0 its tail)(hob:Obls P ops w0 F a0 [] its)(hkeep:∀ i,(F i).Keeps)
  {f:Nat→Value} {listed:Array Bool} {a:Act} {w:World} (I:Inv its listed0 w0 F a0 ops md f listed a w) {t:It} (ht:t∈its) (hr:t.i∈Region.ready md ops listed)
  {K:Act→World→Prop} (hK:∀ f' a' w',Inv its listed0 w0 F a0 ops md f' (listed.setIfInBounds t.i true) a' w'→K a' w'):wpOp P ops Q t.i K a w:=by
 obtain⟨hun,o,ho,hafter⟩:=mem_ready.1 hr
 have hot:=ok.oper t ht
 rw[hot] at ho
 cases ho
 have hlt:t.i<listed.size:=getD_false_lt hun
 have hnu:¬Up listed t:=by unfold Up; rw[hun]; decide
 have idx:∀ x∈its,∀ y∈its,x.i=y.i→x=y:=fun x hx y hy e=>by
  rcases pairwise_any ok.pairs x hx y hy with h|h|h
  ·exact h
  ·exact absurd e (pairOk_spec h).2.2.2
  ·exact absurd e.symm (pairOk_spec h).2.2.2
 have dsts:∀ x∈its,∀ y∈its,∀ d,x.o.dst=some d→y.o.dst=some d→x=y:=fun x hx y hy d h1 h2=>by
  rcases pairwise_any ok.pairs x hx y hy with h|h|h
  ·exact h
  ·exact absurd h2 ((pairOk_spec h).2.1 d h1)
  ·exact absurd h1 ((pairOk_spec h).2.1 d h2)
 -- who is up behind it
 have upS:∀ y∈its,(Up (listed.setIfInBounds t.i true) y↔y=t∨Up listed y):=fun y hy=>by
  unfold Up
  by_cases h:t.i=y.i
  ·have:=idx t ht y hy h
   subst this
   simp[hlt]
  ·rw[getD_set_ne true h]
   exact⟨.inr,fun h1=>h1.resolve_left fun e=>h (by rw[e])⟩
 have upBehind:∀ j,behind md j t.o=true→∀ x∈its,x.i=j→Up listed x:=fun j hj x hx e=>by
  obtain⟨ed,he,hb,hon⟩:=behind_spec hj
  have h1:=hafter ed he hb
  rw[hon,←e] at h1
  unfold Up
  rcases Nat.lt_or_ge x.i listed.size with h2|h2
  ·rw[getD_tf h2]; exact h1
  ·simp[Array.getElem?_eq_none h2]
 obtain⟨l1,l2,hsplit⟩:=List.append_of_mem ht
 have hOb2:=hob.get l1 t l2 hsplit f
 rw[List.nil_append] at hOb2
 obtain⟨hOb,hGr⟩:=hOb2
 have hpre:∀ x∈l1,x∈its:=fun x hx=>by rw[hsplit]; exact List.mem_append_left _ hx
 have hpw:its.Pairwise (fun x y=>∀ d,x.o.dst=some d→y.o.dst≠some d):=ok.pairs.imp fun h=>(pairOk_spec h).2.1
 have hpw1:l1.Pairwise (fun x y=>∀ d,x.o.dst=some d→y.o.dst≠some d):=by
  rw[hsplit] at hpw; exact(List.pairwise_append.1 hpw).1
 have hord:=ok.pairs
 rw[hsplit] at hord
 have hbefore:∀ x∈l1,pairOk md ops x t=true:=fun x hx=>(List.pairwise_append.1 hord).2.2 x hx t (by simp)
 have hbehind:∀ y∈l2,pairOk md ops t y=true:=fun y hy=>(List.pairwise_cons.1 (List.pairwise_append.1 hord).2.1).1 y hy
 -- the frame at hand agrees with the text's
 have hslots:∀ s∈t.o.looksAt ops,a.tmps[s]?=(puts f l1 a0).tmps[s]?:=fun s hs=>by
  rw[I.frame s,puts_slot hpw1]
  refine slot_congr dsts (fun x hx=>(List.mem_filter.1 hx).1) hpre (fun x hx hxd=>⟨?_,fun _=>rfl⟩) a0
  rw[List.mem_filter]
  have hx':=hx
  rw[hsplit] at hx'
  rcases List.mem_append.1 hx' with h|h
  ·have h1:=(pairOk_spec (hbefore x h)).1 s hxd hs
   have:=upBehind _ h1 x hx rfl
   exact⟨fun _=>h,fun _=>⟨hx,this⟩⟩
  ·rcases List.mem_cons.1 h with h|h
   ·subst h
    refine⟨fun h1=>absurd h1.2 hnu,fun h1=>?_⟩
    exact absurd rfl ((pairOk_spec (hbefore _ h1)).2.2.2)
   ·have h1:=(pairOk_spec (hbehind x h)).2.2.1 s hxd hs
    obtain⟨e,he,hb,hon⟩:=behind_spec h1
    refine⟨fun h2=>?_,fun h2=>?_⟩
    ·have:=I.closed x hx h2.2 e he hb
     rw[hon,←getD_tf hlt,hun] at this
     cases this
    ·exfalso
     have h3:=(List.pairwise_append.1 hord).2.2 x h2 x (List.mem_cons_of_mem _ h)
     exact absurd rfl (pairOk_spec h3).2.2.2
 have hexec:execOp a.eval t.o=execOp (puts f l1 a0).eval t.o:=execOp_slots (fun cs b=>ok.sel t.i t.o cs b hot) hslots
 have hsz:a.tmps.size=(puts f l1 a0).tmps.size:=by rw[I.tsize,puts_size]
 have hbound:∀ m,Alive its listed f m→m<w.heap.size:=fun m hm=>by
  obtain⟨x,hx,hwx,hfx⟩:=hm
  have hn:=hwx.1
  unfold It.isNew at hn
  cases hk:x.k with
  | new z =>
   obtain⟨m',e1,_,e3⟩:=I.news x hx z hk hwx
   rw[e1] at hfx
   cases hfx
   exact(Array.getElem?_eq_some_iff.1 e3).1
  | lit v=>rw[hk] at hn; cases hn
  | val=>rw[hk] at hn; cases hn
  | on r z=>rw[hk] at hn; cases hn
  | skip=>rw[hk] at hn; cases hn
 have hrcv:Rcv (Alive its listed f) w:=fun m hm=>by
  obtain⟨x,hx,hwx,hfx⟩:=hm
  have hn:=hwx.1
  unfold It.isNew at hn
  cases hk:x.k with
  | new z =>
   obtain⟨m',e1,_,e3⟩:=I.news x hx z hk hwx
   rw[e1] at hfx
   cases hfx
   exact⟨z,e3,ok.now x hx z hk⟩
  | lit v=>rw[hk] at hn; cases hn
  | val=>rw[hk] at hn; cases hn
  | on r z=>rw[hk] at hn; cases hn
  | skip=>rw[hk] at hn; cases hn
 have hfrom:∀ b,Alive its listed f b→w0.heap.size≤b:=fun m hm=>by
  obtain⟨x,hx,hwx,hfx⟩:=hm
  have hn:=hwx.1
  unfold It.isNew at hn
  cases hk:x.k with
  | new z =>
   obtain⟨m',e1,e2,_⟩:=I.news x hx z hk hwx
   rw[e1] at hfx
   cases hfx
   exact e2
  | lit v=>rw[hk] at hn; cases hn
  | val=>rw[hk] at hn; cases hn
  | on r z=>rw[hk] at hn; cases hn
  | skip=>rw[hk] at hn; cases hn
 have hdeps:∀ j∈t.deps,F j (f j) w (Alive its listed f):=fun j hj=>by
  obtain⟨h1,x,hx,hxi,hxn⟩:=ok.deps t ht j hj
  subst hxi
  exact I.facts x hx (upBehind _ h1 x hx rfl) hxn
 -- the new letter
 have hfx:∀ v:Value,∀ x∈its,x≠t→(fun k=>if k=t.i then v else f k) x.i=f x.i:=fun v x hx hne=>by
  simp only
  rw[if_neg fun e=>hne (idx x hx t ht e)]
 -- the next invariant but for the facts
 have next:∀(v:Value) (w':World),t.val (fun k=>if k=t.i then v else f k)=v→Below w0.heap.size w0 w' →
   (∀ x∈its,Up (listed.setIfInBounds t.i true) x→x.isVal=true→F x.i (if x.i=t.i then v else f x.i) w' (Alive its (listed.setIfInBounds t.i true) fun k=>if k=t.i then v else f k)) →
   (∀ x∈its,∀ z,x.k=.new z→Waits its (listed.setIfInBounds t.i true) x→∃ m,(if x.i=t.i then v else f x.i)=.pointer (some ⟨m,0,none⟩)∧w0.heap.size≤m∧w'.heap[m]?=some z) →
   (∀ x∈its,∀ x'∈its,Waits its (listed.setIfInBounds t.i true) x→Waits its (listed.setIfInBounds t.i true) x'→(if x.i=t.i then v else f x.i)=(if x'.i=t.i then v else f x'.i)→x=x') →
   (∀ r z,t.k=.on r z→t.s=true→v=f r) →
   K (a.put t.o.dst v) w':=fun v w' hv hb hf hn ha hti=>by
  refine hK (fun k=>if k=t.i then v else f k) _ _ ⟨by simp[I.size],fun k hk=>?_,fun x hx hux e he hbe=>?_,?_,?_,fun s=>?_,hb,hf,hn,ha,fun x hx r z hxk hxs hux=>?_⟩
  ·rw[getD_set_ne true (hk t ht)]; exact I.same k hk
  ·rcases(upS x hx).1 hux with rfl|h
   ·exact getD_set_true (hafter e he hbe)
   ·exact getD_set_true (I.closed x hx h e he hbe)
  ·have:(a.put t.o.dst v).tmps.size=a.tmps.size:=by unfold Act.put; split<;>simp
   rw[this,I.tsize]
  ·have:(a.put t.o.dst v).defers=a.defers:=by unfold Act.put; split<;>rfl
   rw[this,I.defers]
  ·rw[put_slot,I.tsize]
   by_cases hd:t.o.dst=some s
   ·rw[if_pos hd]
    unfold slot
    cases hfd:(its.filter fun x=>(listed.setIfInBounds t.i true).getD x.i true).find? (fun x=>x.o.dst == some s) with
    | none =>
     exfalso
     rw[List.find?_eq_none] at hfd
     exact hfd t (List.mem_filter.2 ⟨ht,(upS t ht).2 (.inl rfl)⟩) (by simpa using hd)
    | some x =>
     have hm:=(List.mem_filter.1 (List.mem_of_find?_eq_some hfd)).1
     have hx:=List.find?_some hfd
     simp only[beq_iff_eq] at hx
     have:=dsts x hm t ht s hx hd
     subst this
     simp only[hv]
   ·rw[if_neg hd,I.frame s]
    refine slot_congr dsts (fun x hx=>(List.mem_filter.1 hx).1) (fun x hx=>(List.mem_filter.1 hx).1) (fun x hx hxd=>⟨?_,fun hm=>?_⟩) a0
    ·have hne:x≠t:=fun e=>hd (by rw[←e]; exact hxd)
     rw[List.mem_filter,List.mem_filter]
     have:=upS x hx
     unfold Up at this
     rw[this]
     exact⟨fun h=>⟨h.1,.inr h.2⟩,fun h=>⟨h.1,h.2.resolve_left hne⟩⟩
    ·have hne:x≠t:=fun e=>hd (by rw[←e]; exact hxd)
     unfold It.val
     split
     ·rfl
     ·rfl
     ·exact(hfx v x hx hne).symm
  ·have hri:r<x.i:=by
    obtain⟨hb1,_⟩:=ok.on x hx r z hxk
    obtain⟨ed,he,hbd,hon⟩:=behind_spec hb1
    have:=(ok.back x hx ed he hbd).1
    omega
   rcases(upS x hx).1 hux with rfl|h
   ·simp only[if_true]
    rw[if_neg (by omega)]
    exact hti r z hxk hxs
   ·have hxt:x.i≠t.i:=fun e=>hnu (idx x hx t ht e▸h)
    have hrt:r≠t.i:=fun e=>by
     obtain⟨hb1,_⟩:=ok.on x hx r z hxk
     obtain⟨ed,he,hbd,hon⟩:=behind_spec hb1
     have h1:=I.closed x hx h ed he hbd
     rw[hon,e,←getD_tf hlt,hun] at h1
     cases h1
    rw[if_neg hxt,if_neg hrt]
    exact I.tie x hx r z hxk hxs h
 unfold wpOp
 simp only[hot]
 have hwant:Region.wanted t.o (yielded ops a.tmps)=t.runs:=by
  cases hg:t.g with
  | false =>
   obtain⟨h1,h2⟩:=ok.guard t ht hg
   unfold Region.wanted; rw[h1,h2]
  | true =>
   rw[←hGr hg w _ I.below hdeps]
   unfold Region.wanted
   cases hgd:t.o.guard with
   | none=>rfl
   | some p =>
    obtain⟨j,want⟩:=p
    simp only
    have:yielded ops a.tmps j=yielded ops (puts f l1 a0).tmps j:=by
     unfold yielded
     cases hd:(ops[j]?).bind (·.dst) with
     | none=>rfl
     | some d =>
      have:=hslots d (by unfold Oper.looksAt; rw[hgd]; simp[hd])
      simp only[Option.bind_some,this]
    rw[this]
 rw[hwant]
 unfold Obl at hOb
 cases hk:t.k with
 | lit u =>
  rw[hk] at hOb
  have hr:t.runs=true:=by unfold It.runs; rw[hk]
  rw[if_pos hr]
  refine .inl ?_
  have hrun:=hOb w I.below
  unfold Oper.wp
  rw[hexec,hrun]
  simp only[Oper.upon]
  have htn:t.isNew=false:=by unfold It.isNew; rw[hk]
  have htv:t.isVal=false:=by unfold It.isVal; rw[hk]
  have hwS:∀ x∈its,(Waits its (listed.setIfInBounds t.i true) x↔Waits its listed x):=fun x hx=>by
   unfold Waits
   rw[upS x hx]
   have:∀ y∈its,∀ z',y.k=.on x.i z'→(Up (listed.setIfInBounds t.i true) y↔Up listed y):=fun y hy z' hyk=>by
    rw[upS y hy]
    refine⟨fun h=>h.resolve_left fun e=>?_,.inr⟩
    subst e; rw[hk] at hyk; cases hyk
   refine⟨fun⟨h1,h2,h3⟩=>⟨h1,h2.resolve_left fun e=>?_,fun y hy z' e h=>h3 y hy z' e ((this y hy z' e).2 h)⟩,fun⟨h1,h2,h3⟩=>⟨h1,.inr h2,fun y hy z' e h=>h3 y hy z' e ((this y hy z' e).1 h)⟩⟩
   subst e; rw[htn] at h1; cases h1
  have hwt:∀ x∈its,Waits its listed x→x≠t:=fun x hx hw e=>by subst e; have:=hw.1; rw[htn] at this; cases this
  have hal:∀ b,Alive its (listed.setIfInBounds t.i true) (fun k=>if k=t.i then u else f k) b→Alive its listed f b:=fun b=>by
   rintro⟨x,hx,hwx,hfx'⟩
   have hwx':=(hwS x hx).1 hwx
   rw[hfx _ x hx (hwt x hx hwx')] at hfx'
   exact⟨x,hx,hwx',hfx'⟩
  refine next u w (by unfold It.val; rw[hk]) I.below (fun x hx hux hxn=>?_) (fun x hx z' hxk hwx=>?_) (fun x hx x' hx' hwx hwx' e=>?_) (fun r z hh=>by rw[hk] at hh; cases hh)
  ·by_cases hxt:x=t
   ·subst hxt; rw[htv] at hxn; cases hxn
   ·have e:(if x.i=t.i then u else f x.i)=f x.i:=if_neg fun e=>hxt (idx x hx t ht e)
    rw[e]
    exact hkeep x.i _ w _ _ _ (Nat.le_refl _) (fun b hbs hna=>⟨rfl,fun h=>hna (hal b h)⟩) (I.facts x hx (((upS x hx).1 hux).resolve_left hxt) hxn)
  ·have hwx':=(hwS x hx).1 hwx
   have e:(if x.i=t.i then u else f x.i)=f x.i:=if_neg fun e=>hwt x hx hwx' (idx x hx t ht e)
   rw[e]
   exact I.news x hx z' hxk hwx'
  ·have h1:=(hwS x hx).1 hwx
   have h2:=(hwS x' hx').1 hwx'
   have e1:(if x.i=t.i then u else f x.i)=f x.i:=if_neg fun e=>hwt x hx h1 (idx x hx t ht e)
   have e2:(if x'.i=t.i then u else f x'.i)=f x'.i:=if_neg fun e=>hwt x' hx' h2 (idx x' hx' t ht e)
   rw[e1,e2] at e
   exact I.apart x hx x' hx' h1 h2 e
 | skip =>
  have hr:¬t.runs=true:=by unfold It.runs; rw[hk]; decide
  rw[if_neg hr]
  obtain⟨u,hu⟩:∃ u:Value,u=undef:=⟨_,rfl⟩
  rw[←hu]
  have htn:t.isNew=false:=by unfold It.isNew; rw[hk]
  have htv:t.isVal=false:=by unfold It.isVal; rw[hk]
  have hwS:∀ x∈its,(Waits its (listed.setIfInBounds t.i true) x↔Waits its listed x):=fun x hx=>by
   unfold Waits
   rw[upS x hx]
   have:∀ y∈its,∀ z',y.k=.on x.i z'→(Up (listed.setIfInBounds t.i true) y↔Up listed y):=fun y hy z' hyk=>by
    rw[upS y hy]
    refine⟨fun h=>h.resolve_left fun e=>?_,.inr⟩
    subst e; rw[hk] at hyk; cases hyk
   refine⟨fun⟨h1,h2,h3⟩=>⟨h1,h2.resolve_left fun e=>?_,fun y hy z' e h=>h3 y hy z' e ((this y hy z' e).2 h)⟩,fun⟨h1,h2,h3⟩=>⟨h1,.inr h2,fun y hy z' e h=>h3 y hy z' e ((this y hy z' e).1 h)⟩⟩
   subst e; rw[htn] at h1; cases h1
  have hwt:∀ x∈its,Waits its listed x→x≠t:=fun x hx hw e=>by subst e; have:=hw.1; rw[htn] at this; cases this
  have hal:∀ b,Alive its (listed.setIfInBounds t.i true) (fun k=>if k=t.i then u else f k) b→Alive its listed f b:=fun b=>by
   rintro⟨x,hx,hwx,hfx'⟩
   have hwx':=(hwS x hx).1 hwx
   rw[hfx _ x hx (hwt x hx hwx')] at hfx'
   exact⟨x,hx,hwx',hfx'⟩
  refine next u w (by unfold It.val; rw[hk]; exact hu.symm) I.below (fun x hx hux hxn=>?_) (fun x hx z' hxk hwx=>?_) (fun x hx x' hx' hwx hwx' e=>?_) (fun r z hh=>by rw[hk] at hh; cases hh)
  ·by_cases hxt:x=t
   ·subst hxt; rw[htv] at hxn; cases hxn
   ·have e:(if x.i=t.i then u else f x.i)=f x.i:=if_neg fun e=>hxt (idx x hx t ht e)
    rw[e]
    exact hkeep x.i _ w _ _ _ (Nat.le_refl _) (fun b hbs hna=>⟨rfl,fun h=>hna (hal b h)⟩) (I.facts x hx (((upS x hx).1 hux).resolve_left hxt) hxn)
  ·have hwx':=(hwS x hx).1 hwx
   have e:(if x.i=t.i then u else f x.i)=f x.i:=if_neg fun e=>hwt x hx hwx' (idx x hx t ht e)
   rw[e]
   exact I.news x hx z' hxk hwx'
  ·have h1:=(hwS x hx).1 hwx
   have h2:=(hwS x' hx').1 hwx'
   have e1:(if x.i=t.i then u else f x.i)=f x.i:=if_neg fun e=>hwt x hx h1 (idx x hx t ht e)
   have e2:(if x'.i=t.i then u else f x'.i)=f x'.i:=if_neg fun e=>hwt x' hx' h2 (idx x' hx' t ht e)
   rw[e1,e2] at e
   exact I.apart x hx x' hx' h1 h2 e
 | new z =>
  rw[hk] at hOb
  have hr:t.runs=true:=by unfold It.runs; rw[hk]
  rw[if_pos hr]
  refine .inl ?_
  have hrun:=hOb w
  unfold Oper.wp
  rw[hexec,hrun]
  simp only[Oper.upon]
  have hne:∀ x∈its,x.isVal=true→x≠t:=fun x hx h e=>by subst e; unfold It.isVal at h; rw[hk] at h; cases h
  have hwS:∀ x∈its,x≠t→(Waits its (listed.setIfInBounds t.i true) x↔Waits its listed x):=fun x hx hxt=>by
   unfold Waits
   rw[upS x hx]
   have:∀ y∈its,∀ z',y.k=.on x.i z'→(Up (listed.setIfInBounds t.i true) y↔Up listed y):=fun y hy z' hyk=>by
    rw[upS y hy]
    refine⟨fun h=>h.resolve_left fun e=>?_,.inr⟩
    subst e; rw[hk] at hyk; cases hyk
   exact⟨fun⟨h1,h2,h3⟩=>⟨h1,h2.resolve_left hxt,fun y hy z' e h=>h3 y hy z' e ((this y hy z' e).2 h)⟩,fun⟨h1,h2,h3⟩=>⟨h1,.inr h2,fun y hy z' e h=>h3 y hy z' e ((this y hy z' e).1 h)⟩⟩
  have halive:∀ b,b<w.heap.size→¬Alive its listed f b→¬Alive its (listed.setIfInBounds t.i true) (fun k=>if k=t.i then .pointer (some ⟨w.heap.size,0,none⟩) else f k) b:=fun b hb hna=>by
   rintro⟨x,hx,hwx,hfx'⟩
   by_cases hxt:x=t
   ·subst hxt
    simp only[if_true,Value.pointer.injEq,Option.some.injEq,Addr.mk.injEq] at hfx'
    omega
   ·rw[hfx _ x hx hxt] at hfx'
    exact hna ⟨x,hx,(hwS x hx hxt).1 hwx,hfx'⟩
  refine next _ _ (by unfold It.val; rw[hk]; simp) (I.below.alloc I.below.size z) (fun x hx hux hxn=>?_) (fun x hx z' hxk hwx=>?_) (fun x hx x' hx' hwx hwx' e=>?_) (fun r z hh=>by rw[hk] at hh; cases hh)
  ·have hxt:=hne x hx hxn
   have e:(if x.i=t.i then Value.pointer (some ⟨w.heap.size,0,none⟩) else f x.i)=f x.i:=if_neg fun e=>hxt (idx x hx t ht e)
   rw[e]
   exact hkeep x.i _ w _ _ _ (by simp) (fun b hb hna=>⟨Below.heap_alloc _ _ _ hb,halive b hb hna⟩) (I.facts x hx (((upS x hx).1 hux).resolve_left hxt) hxn)
  ·by_cases hxt:x=t
   ·subst hxt
    rw[if_pos rfl]
    rw[hk] at hxk
    cases hxk
    exact⟨_,rfl,I.below.size,by show(w.heap.push z)[w.heap.size]?=_; simp⟩
   ·have e:(if x.i=t.i then Value.pointer (some ⟨w.heap.size,0,none⟩) else f x.i)=f x.i:=if_neg fun e=>hxt (idx x hx t ht e)
    rw[e]
    obtain⟨m,e1,e2,e3⟩:=I.news x hx z' hxk ((hwS x hx hxt).1 hwx)
    refine⟨m,e1,e2,?_⟩
    rw[Below.heap_alloc _ _ _ (Array.getElem?_eq_some_iff.1 e3).1]; exact e3
  ·by_cases hxt:x=t<;>by_cases hxt':x'=t
   ·rw[hxt,hxt']
   ·exfalso
    subst hxt
    have e1:(if x'.i=x.i then Value.pointer (some ⟨w.heap.size,0,none⟩) else f x'.i)=f x'.i:=if_neg fun e=>hxt' (idx x' hx' x ht e)
    rw[e1,if_pos rfl] at e
    have:=hbound w.heap.size ⟨x',hx',(hwS x' hx' hxt').1 hwx',e.symm⟩
    omega
   ·exfalso
    subst hxt'
    have e1:(if x.i=x'.i then Value.pointer (some ⟨w.heap.size,0,none⟩) else f x.i)=f x.i:=if_neg fun e=>hxt (idx x hx x' ht e)
    rw[e1,if_pos rfl] at e
    have:=hbound w.heap.size ⟨x,hx,(hwS x hx hxt).1 hwx,e⟩
    omega
   ·have e1:(if x.i=t.i then Value.pointer (some ⟨w.heap.size,0,none⟩) else f x.i)=f x.i:=if_neg fun e=>hxt (idx x hx t ht e)
    have e2:(if x'.i=t.i then Value.pointer (some ⟨w.heap.size,0,none⟩) else f x'.i)=f x'.i:=if_neg fun e=>hxt' (idx x' hx' t ht e)
    rw[e1,e2] at e
    exact I.apart x hx x' hx' ((hwS x hx hxt).1 hwx) ((hwS x' hx' hxt').1 hwx') e
 | val =>
  rw[hk] at hOb
  have hr:t.runs=true:=by unfold It.runs; rw[hk]
  rw[if_pos hr]
  refine .inl ?_
  refine wp_other (G:=fun v w'=>Below w.heap.size w w'∧F t.i v w' (Alive its listed f)) hexec hsz (fun K hK=>hOb w _ I.below hrcv hfrom hdeps K (fun v w' h1 h2=>hK v w' ⟨h1,h2⟩)) (fun v w' hg=>?_)
  obtain⟨hb,hF⟩:=hg
  have htn:t.isNew=false:=by unfold It.isNew; rw[hk]
  have hwS:∀ x∈its,(Waits its (listed.setIfInBounds t.i true) x↔Waits its listed x):=fun x hx=>by
   unfold Waits
   rw[upS x hx]
   have:∀ y∈its,∀ z',y.k=.on x.i z'→(Up (listed.setIfInBounds t.i true) y↔Up listed y):=fun y hy z' hyk=>by
    rw[upS y hy]
    refine⟨fun h=>h.resolve_left fun e=>?_,.inr⟩
    subst e; rw[hk] at hyk; cases hyk
   refine⟨fun⟨h1,h2,h3⟩=>⟨h1,h2.resolve_left fun e=>?_,fun y hy z' e h=>h3 y hy z' e ((this y hy z' e).2 h)⟩,fun⟨h1,h2,h3⟩=>⟨h1,.inr h2,fun y hy z' e h=>h3 y hy z' e ((this y hy z' e).1 h)⟩⟩
   subst e; rw[htn] at h1; cases h1
  have hwt:∀ x∈its,Waits its listed x→x≠t:=fun x hx hw e=>by subst e; have:=hw.1; rw[htn] at this; cases this
  have hal:∀ b,Alive its (listed.setIfInBounds t.i true) (fun k=>if k=t.i then v else f k) b→Alive its listed f b:=fun b=>by
   rintro⟨x,hx,hwx,hfx'⟩
   have hwx':=(hwS x hx).1 hwx
   rw[hfx _ x hx (hwt x hx hwx')] at hfx'
   exact⟨x,hx,hwx',hfx'⟩
  refine next v w' (by unfold It.val; rw[hk]; simp) (I.below.trans (hb.mono I.below.size)) (fun x hx hux hxn=>?_) (fun x hx z' hxk hwx=>?_) (fun x hx x' hx' hwx hwx' e=>?_) (fun r z hh=>by rw[hk] at hh; cases hh)
  ·by_cases hxt:x=t
   ·subst hxt
    rw[if_pos rfl]
    exact hkeep x.i v w' w' _ _ (Nat.le_refl _) (fun b _ hna=>⟨rfl,fun h=>hna (hal b h)⟩) hF
   ·have e:(if x.i=t.i then v else f x.i)=f x.i:=if_neg fun e=>hxt (idx x hx t ht e)
    rw[e]
    exact hkeep x.i _ w _ _ _ hb.size (fun b hbs hna=>⟨hb.block b hbs,fun h=>hna (hal b h)⟩) (I.facts x hx (((upS x hx).1 hux).resolve_left hxt) hxn)
  ·have hwx':=(hwS x hx).1 hwx
   have e:(if x.i=t.i then v else f x.i)=f x.i:=if_neg fun e=>hwt x hx hwx' (idx x hx t ht e)
   rw[e]
   obtain⟨m,e1,e2,e3⟩:=I.news x hx z' hxk hwx'
   exact⟨m,e1,e2,by rw[hb.block m (Array.getElem?_eq_some_iff.1 e3).1]; exact e3⟩
  ·have h1:=(hwS x hx).1 hwx
   have h2:=(hwS x' hx').1 hwx'
   have e1:(if x.i=t.i then v else f x.i)=f x.i:=if_neg fun e=>hwt x hx h1 (idx x hx t ht e)
   have e2:(if x'.i=t.i then v else f x'.i)=f x'.i:=if_neg fun e=>hwt x' hx' h2 (idx x' hx' t ht e)
   rw[e1,e2] at e
   exact I.apart x hx x' hx' h1 h2 e
 | on r z =>
  rw[hk] at hOb
  have hr:t.runs=true:=by unfold It.runs; rw[hk]
  rw[if_pos hr]
  refine .inl ?_
  have htn:t.isNew=false:=by unfold It.isNew; rw[hk]
  obtain⟨hbr,⟨n,hn,hni,hnk⟩,hone⟩:=ok.on t ht r z hk
  have hnw:Waits its listed n:=by
   refine⟨by unfold It.isNew; rw[hnk],upBehind r hbr n hn hni,fun y hy z' hyk hu=>?_⟩
   have:=idx y hy t ht (hone y hy z' (by rw[hyk,hni]))
   subst this
   exact hnu hu
  obtain⟨m,em1,em2,em3⟩:=I.news n hn z hnk hnw
  have hAm:Alive its listed f m:=⟨n,hn,hnw,em1⟩
  refine wp_other (G:=fun v w'=>(t.s=true→v=f r)∧Mod m w w'∧F t.i v w' (fun b=>Alive its listed f b∧b≠m)) hexec hsz (fun K hK=>hOb w _ m I.below hrcv hfrom hAm em2 (by rw[←hni]; exact em1) em3 hdeps K (fun v w' h0 h1 h2=>hK v w' ⟨h0,h1,h2⟩)) (fun v w' hg=>?_)
  obtain⟨hmod,hF⟩:=hg.2
  have hwS:∀ x∈its,(Waits its (listed.setIfInBounds t.i true) x↔Waits its listed x∧x≠n):=fun x hx=>by
   unfold Waits
   rw[upS x hx]
   constructor
   ·rintro⟨h1,h2,h3⟩
    refine⟨⟨h1,h2.resolve_left fun e=>?_,fun y hy z' e h=>h3 y hy z' e ((upS y hy).2 (.inr h))⟩,fun e=>?_⟩
    ·subst e; rw[htn] at h1; cases h1
    ·subst e; exact h3 t ht z (by rw[hk,hni]) ((upS t ht).2 (.inl rfl))
   ·rintro⟨⟨h1,h2,h3⟩,hne⟩
    refine⟨h1,.inr h2,fun y hy z' e h=>?_⟩
    rcases(upS y hy).1 h with e2|h'
    ·subst e2
     rw[hk] at e
     cases e
     exact hne (idx x hx n hn hni.symm)
    ·exact h3 y hy z' e h'
  have hwt:∀ x∈its,Waits its listed x→x≠t:=fun x hx hw e=>by subst e; have:=hw.1; rw[htn] at this; cases this
  have hal:∀ b,Alive its (listed.setIfInBounds t.i true) (fun k=>if k=t.i then v else f k) b→Alive its listed f b∧b≠m:=fun b=>by
   rintro⟨x,hx,hwx,hfx'⟩
   obtain⟨hwx',hxn⟩:=(hwS x hx).1 hwx
   rw[hfx _ x hx (hwt x hx hwx')] at hfx'
   refine⟨⟨x,hx,hwx',hfx'⟩,fun e=>?_⟩
   subst e
   exact hxn (I.apart x hx n hn hwx' hnw (by rw[hfx',em1]))
  have hbw:Below w0.heap.size w0 w':=I.below.trans ⟨hmod.os,hmod.tape,hmod.output,hmod.size,fun k hk'=>hmod.block k (by have:=I.below.size; omega) (by omega)⟩
  refine next v w' (by unfold It.val; rw[hk]; simp) hbw (fun x hx hux hxn=>?_) (fun x hx z' hxk hwx=>?_) (fun x hx x' hx' hwx hwx' e=>?_) (fun r' z' hh hs=>by rw[hk] at hh; cases hh; exact hg.1 hs)
  ·by_cases hxt:x=t
   ·subst hxt
    rw[if_pos rfl]
    exact hkeep x.i v w' w' _ _ (Nat.le_refl _) (fun b _ hna=>⟨rfl,fun h=>hna (hal b h)⟩) hF
   ·have e:(if x.i=t.i then v else f x.i)=f x.i:=if_neg fun e=>hxt (idx x hx t ht e)
    rw[e]
    exact hkeep x.i _ w _ _ _ hmod.size (fun b hbs hna=>⟨hmod.block b hbs (fun e=>hna (e▸hAm)),fun h=>hna (hal b h).1⟩) (I.facts x hx (((upS x hx).1 hux).resolve_left hxt) hxn)
  ·obtain⟨hwx',hxn⟩:=(hwS x hx).1 hwx
   have e:(if x.i=t.i then v else f x.i)=f x.i:=if_neg fun e=>hwt x hx hwx' (idx x hx t ht e)
   rw[e]
   obtain⟨m',e1,e2,e3⟩:=I.news x hx z' hxk hwx'
   refine⟨m',e1,e2,?_⟩
   rw[hmod.block m' (Array.getElem?_eq_some_iff.1 e3).1 (fun e4=>hxn (I.apart x hx n hn hwx' hnw (by rw[e1,em1,e4])))]
   exact e3
  ·obtain⟨h1,_⟩:=(hwS x hx).1 hwx
   obtain⟨h2,_⟩:=(hwS x' hx').1 hwx'
   have e1:(if x.i=t.i then v else f x.i)=f x.i:=if_neg fun e=>hwt x hx h1 (idx x hx t ht e)
   have e2:(if x'.i=t.i then v else f x'.i)=f x'.i:=if_neg fun e=>hwt x' hx' h2 (idx x' hx' t ht e)
   rw[e1,e2] at e
   exact I.apart x hx x' hx' h1 h2 e
end
section
variable{P:Program}{Q:Exit→Act→World→Prop}{md:Region.Mode}{ops:Array Oper}{w0:World}{F:Nat→Fact}{a0:Act}
def setAll(its:List It)(listed:Array Bool):Array Bool:=its.foldl (fun l t=>l.setIfInBounds t.i true) listed
theorem setAll_size(its:List It)(listed:Array Bool):(setAll its listed).size=listed.size:=by
 induction its generalizing listed with
 | nil=>rfl
 | cons t l ih=>exact(ih (listed.setIfInBounds t.i true)).trans (by simp)
theorem setAll_get(its:List It)(listed:Array Bool)(k:Nat):(setAll its listed).getD k true=true↔listed.getD k true=true∨∃ t∈its,t.i=k:=by
 induction its generalizing listed with
 | nil=>simp[setAll]
 | cons t l ih =>
  have:=ih (listed.setIfInBounds t.i true)
  show(setAll l (listed.setIfInBounds t.i true)).getD k true=true↔_
  rw[this]
  by_cases h:t.i=k
  ·subst h
   refine⟨fun _=>.inr ⟨t,by simp,rfl⟩,fun _=>.inl ?_⟩
   rcases Nat.lt_or_ge t.i listed.size with h1|h1
   ·simp[h1]
   ·simp[h1]
  ·rw[getD_set_ne true h]
   simp[h]
theorem Inv.reach{its:List It}{listed0:Array Bool}{tail:List Nat}(ok:Ok md ops listed0 its tail){f:Nat→Value}{listed:Array Bool}{a:Act}{w:World}(I:Inv its listed0 w0 F a0 ops md f listed a w) :
  ∀(n:Nat) (o:Oper),(∀ e∈o.after,Region.binds md e=true→listed.getD e.on false=true)→∀ t∈its,Tr.reach md ops n t.i o=true→Up listed t:=by
 have hlsz:listed.size=ops.size:=I.size.trans ok.size
 intro n
 induction n with
 | zero=>intro o _ t _ h; simp[Tr.reach] at h
 | succ n ih =>
  intro o ho t ht h
  simp only[Tr.reach,Bool.or_eq_true] at h
  rcases h with h|h
  ·obtain⟨e,he,hb,hon⟩:=behind_spec h
   have h3:=ho e he hb
   rw[hon] at h3
   have hts:t.i<ops.size:=(Array.getElem?_eq_some_iff.1 (ok.oper t ht)).1
   unfold Up
   rw[getD_tf (by omega)]; exact h3
  ·rw[Array.any_eq_true] at h
   obtain⟨j,hj,h1⟩:=h
   simp only[Bool.and_eq_true] at h1
   have h2:=ho _ (Array.getElem_mem hj) h1.1
   cases hop:ops[o.after[j].on]? with
   | none=>rw[hop] at h1; simp at h1
   | some o' =>
    rw[hop] at h1
    have hlt:o.after[j].on<ops.size:=(Array.getElem?_eq_some_iff.1 hop).1
    by_cases hin:∃ y∈its,y.i=o.after[j].on
    ·obtain⟨y,hy,hye⟩:=hin
     have h4:=ok.oper y hy
     rw[hye,hop] at h4
     cases h4
     exact ih y.o (fun e he hb=>I.closed y hy (by unfold Up; rw[hye,getD_tf (by omega)]; exact h2) e he hb) t ht h1.2
    ·exfalso
     have h5:=I.same o.after[j].on (fun y hy e=>hin ⟨y,hy,e⟩)
     rw[getD_tf (by omega),h2] at h5
     have h6:=(ok.rest _ hlt).1 h5.symm
     -- what is neither of the list nor of the tail stands ahead of the region
     exact h6.1 (ok.all _ hlt (fun y hy e=>hin ⟨y,hy,e⟩))
def Loose(its:List It)(t:It):Prop:=t.isNew=true∧∀ y∈its,∀ z,y.k≠.on t.i z
structure Done(its:List It)(w0:World)(F:Nat→Fact)(f:Nat→Value)(w:World)(A:Nat→Prop):Prop where
 below:Below w0.heap.size w0 w
 rcv:Rcv A w
 from_:∀ b,A b→w0.heap.size≤b
 facts:∀ t∈its,t.isVal=true→F t.i (f t.i) w A
 news:∀ t∈its,∀ z,t.k=.new z→Loose its t→∃ m,f t.i=.pointer (some ⟨m,0,none⟩)∧A m∧w0.heap.size≤m∧w.heap[m]?=some z
 apart:∀ t∈its,∀ t'∈its,Loose its t→Loose its t'→f t.i=f t'.i→t=t'
 tie:∀ t∈its,∀ r z,t.k=.on r z→t.s=true→f t.i=f r
theorem wpAny_run{its:List It}{listed0:Array Bool}{tail:List Nat}(ok:Ok md ops listed0 its tail)(hob:Obls P ops w0 F a0 [] its)(hkeep:∀ i,(F i).Keeps)(r:Nat)
  (hend:∀ f w A,Done its w0 F f w A→wpAny P md ops Q r (setAll its listed0) (puts f its a0) w) :
  ∀ n (f:Nat→Value) listed a w,(its.filter fun t=>!listed.getD t.i true).length=n→Inv its listed0 w0 F a0 ops md f listed a w→wpAny P md ops Q (n+r) listed a w:=by
 intro n
 induction n with
 | zero =>
  intro f listed a w hn I
  have hall:∀ t∈its,Up listed t:=fun t ht=>by
   have:=List.filter_eq_nil_iff.1 (List.length_eq_zero_iff.1 hn) t ht
   simpa[Up] using this
  have hw:∀ t∈its,Loose its t→Waits its listed t:=fun t ht hl=>⟨hl.1,hall t ht,fun y hy z hk=>absurd hk (hl.2 y hy z)⟩
  have hal:∀ m,Alive its listed f m→∃ t∈its,∃ z,t.k=.new z∧f t.i=.pointer (some ⟨m,0,none⟩)∧w0.heap.size≤m∧w.heap[m]?=some z:=fun m ⟨t,ht,hwt,hft⟩=>by
   have hn:=hwt.1
   unfold It.isNew at hn
   cases hk:t.k with
   | new z =>
    obtain⟨m',e1,e2,e3⟩:=I.news t ht z hk hwt
    rw[e1] at hft
    cases hft
    exact⟨t,ht,z,hk,e1,e2,e3⟩
   | lit v=>rw[hk] at hn; cases hn
   | val=>rw[hk] at hn; cases hn
   | on r z=>rw[hk] at hn; cases hn
   | skip=>rw[hk] at hn; cases hn
  have hl:listed=setAll its listed0:=by
   apply Array.ext
   ·rw[setAll_size,I.size]
   ·intro k h1 h2
    have e1:listed.getD k true=listed[k]:=by simp[h1]
    have e2:(setAll its listed0).getD k true=(setAll its listed0)[k]:=by simp[h2]
    rw[←e1,←e2,Bool.eq_iff_iff,setAll_get]
    by_cases h:∃ t∈its,t.i=k
    ·obtain⟨t,ht,rfl⟩:=h
     exact⟨fun _=>.inr ⟨t,ht,rfl⟩,fun _=>hall t ht⟩
    ·rw[I.same k (fun t ht e=>h ⟨t,ht,e⟩)]
     exact⟨.inl,fun h1=>h1.resolve_right h⟩
  have hpw:its.Pairwise (fun x y=>∀ d,x.o.dst=some d→y.o.dst≠some d):=ok.pairs.imp fun h=>(pairOk_spec h).2.1
  have ha:a=puts f its a0:=by
   have h1:a.tmps=(puts f its a0).tmps:=by
    apply Array.ext_getElem?
    intro s
    rw[I.frame s,puts_slot hpw]
    rw[List.filter_eq_self.2 fun t ht=>hall t ht]
   have h2:a.defers=(puts f its a0).defers:=by rw[I.defers,puts_defers]
   cases a; cases hp:puts f its a0
   rw[hp] at h1 h2
   simp at h1 h2
   rw[h1,h2]
  rw[Nat.zero_add,hl,ha]
  refine hend f w (Alive its listed f) ⟨I.below,fun m hm=>?_,fun m hm=>?_,fun t ht hn=>I.facts t ht (hall t ht) hn,fun t ht z hk hl=>?_,fun t ht t' ht' hl hl' e=>I.apart t ht t' ht' (hw t ht hl) (hw t' ht' hl') e,fun t ht r z hk hs=>I.tie t ht r z hk hs (hall t ht)⟩
  ·obtain⟨t,ht,z,hk,_,_,e3⟩:=hal m hm
   exact⟨z,e3,ok.now t ht z hk⟩
  ·obtain⟨t,ht,z,hk,_,e2,_⟩:=hal m hm
   exact e2
  ·obtain⟨m,e1,e2,e3⟩:=I.news t ht z hk (hw t ht hl)
   exact⟨m,e1,⟨t,ht,hw t ht hl,e1⟩,e2,e3⟩
 | succ n ih =>
  intro f listed a w hn I
  have hex:∃ t∈its,¬Up listed t:=by
   cases hf:its.filter fun t=>!listed.getD t.i true with
   | nil=>rw[hf] at hn; simp at hn
   | cons t l =>
    have:t∈its.filter fun t=>!listed.getD t.i true:=by rw[hf]; simp
    obtain⟨h1,h2⟩:=List.mem_filter.1 this
    exact⟨t,h1,by simpa[Up] using h2⟩
  have hlsz:listed.size=ops.size:=I.size.trans ok.size
  rw[show n+1+r=(n+r)+1 by omega]
  refine⟨fun hnil=>?_,fun i hi=>?_⟩
  ·exfalso
   obtain⟨t,ht,hu,hmin⟩:=least_unlisted its listed hex
   have:=ready_of (md:=md) (ok.oper t ht) hu fun e he hb=>by
    obtain⟨h1,h2⟩:=ok.back t ht e he hb
    have hts:t.i<ops.size:=(Array.getElem?_eq_some_iff.1 (ok.oper t ht)).1
    rw[←getD_tf (by omega)]
    by_cases h:∃ y∈its,y.i=e.on
    ·obtain⟨y,hy,hye⟩:=h
     rw[←hye]
     cases hup:listed.getD y.i true with
     | true=>rfl
     | false =>
      exfalso
      have:=hmin y hy (by unfold Up; rw[hup]; decide)
      omega
    ·rw[I.same e.on (fun y hy h3=>h ⟨y,hy,h3⟩)]
     exact(ok.rest e.on (by omega)).2 ⟨h2,fun y hy h3=>h ⟨y,hy,h3⟩⟩
   rw[hnil] at this
   cases this
  ·have hin:∃ t∈its,t.i=i:=by
    obtain⟨hun,o,ho,hafter⟩:=mem_ready.1 hi
    have hlt:i<ops.size:=(Array.getElem?_eq_some_iff.1 ho).1
    by_cases h:∃ t∈its,t.i=i
    ·exact h
    ·exfalso
     have h2:=I.same i (fun t ht e=>h ⟨t,ht,e⟩)
     rw[hun] at h2
     by_cases ht:i∈tail
     ·obtain⟨t,hti,htu⟩:=hex
      exact htu (I.reach ok ops.size o hafter t hti (ok.last i ht o ho t hti))
     ·have:=(ok.rest i hlt).2 ⟨ht,fun t ht e=>h ⟨t,ht,e⟩⟩
      rw[←h2] at this
      cases this
   obtain⟨t,ht,rfl⟩:=hin
   refine I.step ok hob hkeep ht hi (fun f' a' w' I'=>ih f' _ a' w' ?_ I')
   -- one less is to come
   obtain⟨hun,o,ho,_⟩:=mem_ready.1 hi
   have hlt:t.i<listed.size:=getD_false_lt hun
   have idx:∀ x∈its,∀ y∈its,x.i=y.i→x=y:=fun x hx y hy e=>by
    rcases pairwise_any ok.pairs x hx y hy with h|h|h
    ·exact h
    ·exact absurd e (pairOk_spec h).2.2.2
    ·exact absurd e.symm (pairOk_spec h).2.2.2
   obtain⟨l1,l2,hsplit⟩:=List.append_of_mem ht
   have hnd:∀ x∈l1++l2,x.i≠t.i:=fun x hx e=>by
    have hord:=ok.pairs
    rw[hsplit] at hord
    rcases List.mem_append.1 hx with h|h
    ·have:=(List.pairwise_append.1 hord).2.2 x h t (by simp)
     exact(pairOk_spec this).2.2.2 e
    ·have:=(List.pairwise_cons.1 (List.pairwise_append.1 hord).2.1).1 x h
     exact(pairOk_spec this).2.2.2 e.symm
   have hsame:∀ x∈l1++l2,(listed.setIfInBounds t.i true).getD x.i true=listed.getD x.i true:=fun x hx=>getD_set_ne true (fun e=>hnd x hx e.symm)
   have e1:(l1.filter fun x=>!(listed.setIfInBounds t.i true).getD x.i true)=l1.filter fun x=>!listed.getD x.i true :=
    List.filter_congr fun x hx=>by rw[hsame x (List.mem_append_left _ hx)]
   have e2:(l2.filter fun x=>!(listed.setIfInBounds t.i true).getD x.i true)=l2.filter fun x=>!listed.getD x.i true :=
    List.filter_congr fun x hx=>by rw[hsame x (List.mem_append_right _ hx)]
   have e3:(listed.setIfInBounds t.i true).getD t.i true=true:=by simp[hlt]
   rw[hsplit] at hn ⊢
   rw[List.filter_append,List.filter_cons,List.length_append] at hn ⊢
   rw[e1,e2,e3]
   rw[hun] at hn
   simp at hn ⊢
   omega
theorem wpAny_region{its:List It}{listed0:Array Bool}(tail:List Nat){fuel:Nat}{w:World}(F:Nat→Fact)(ok:Ok md ops listed0 its tail)(r:Nat)(hfuel:fuel=its.length+r)(hkeep:∀ i,(F i).Keeps)
  (hob:Obls P ops w F a0 [] its)
  (hend:∀ f w' A,Done its w F f w' A→wpAny P md ops Q r (setAll its listed0) (puts f its a0) w') :
  wpAny P md ops Q fuel listed0 a0 w:=by
 have hno:∀ t∈its,¬Up listed0 t:=fun t ht=>by
  have hlt:t.i<ops.size:=(Array.getElem?_eq_some_iff.1 (ok.oper t ht)).1
  intro h
  exact((ok.rest t.i hlt).1 h).2 t ht rfl
 have h0:its.filter (fun t=>!listed0.getD t.i true)=its:=List.filter_eq_self.2 fun t ht=>by
  have:=hno t ht
  unfold Up at this
  simpa using this
 have h1:its.filter (fun t=>listed0.getD t.i true)=[]:=List.filter_eq_nil_iff.2 fun t ht=>hno t ht
 rw[hfuel]
 refine wpAny_run (w0:=w) ok hob hkeep r hend its.length (fun _=>undef) listed0 a0 w (by rw[h0]) ⟨rfl,fun _ _=>rfl,fun t ht h=>absurd h (hno t ht),rfl,rfl,fun s=>?_,Below.refl _ _,fun t ht h=>absurd h (hno t ht),fun t ht _ _ h=>absurd h.2.1 (hno t ht),fun t ht _ _ h=>absurd h.2.1 (hno t ht),fun t ht _ _ _ _ h=>absurd h (hno t ht)⟩
 rw[h1]; rfl
theorem Ok.of{listed:Array Bool}{its:List It}{tail:List Nat}(hs:Region.noSelect ops=true)(hc:itsOk md ops listed its tail=true)(hops:its.map (fun t=>ops[t.i]?)=its.map fun t=>some t.o)
  (hn:∀ t∈its,∀ z,t.k=.new z→NoW z) (hz:∀ t∈its,∀ r z,t.k=.on r z→∃ x∈its,x.i=r∧x.k=.new z):Ok md ops listed its tail:=by
 simp only[itsOk,Bool.and_eq_true,List.all_eq_true,List.any_eq_true,beq_iff_eq,List.mem_range,Bool.not_eq_true'] at hc
 obtain⟨⟨⟨⟨⟨⟨h1,h2⟩,h3⟩,h4⟩,h5⟩,h6⟩,h7⟩:=hc
 refine⟨Region.noSelect_spec hs,fun t ht=>?_,allPairs_pairwise h1,fun t ht hg=>by{ have h:=(h2 t ht).1; rw[hg] at h; simpa using h },hn,fun t ht j hj=>?_,fun t ht r z hk=>?_,h4,fun k hk hno=>?_,fun k hk=>?_,fun k hk o ho t ht=>?_,fun t ht e he hb=>?_⟩
 ·have:=List.map_inj_left.1 hops t ht
  exact this
 ·obtain⟨ha,x,hx,hxj,hxn⟩:=(h2 t ht).2 j hj
  exact⟨ha,x,hx,hxj,hxn⟩
 ·have:=h3 t ht
  rw[hk] at this
  simp only[Bool.and_eq_true,List.any_eq_true,List.all_eq_true,Bool.or_eq_true,beq_iff_eq] at this
  refine⟨this.1.1,hz t ht r z hk,fun y hy z' hyk=>?_⟩
  have h:=this.2 y hy
  rw[hyk] at h
  simpa using h
 ·have:=(h5 k hk).1.1
  simp only[Bool.or_eq_true,List.contains_eq_mem,decide_eq_true_eq,List.any_eq_true,beq_iff_eq] at this
  rcases this with h|⟨t,ht,e⟩
  ·exact h
  ·exact absurd e (hno t ht)
 ·have:=(h5 k hk).1.2
  rw[this]
  simp only[Bool.not_eq_true',Bool.or_eq_false_iff,List.contains_eq_mem,decide_eq_false_iff_not,List.any_eq_false,beq_iff_eq]
 ·have:=h6 k hk
  rw[ho] at this
  simp only[List.all_eq_true] at this
  exact this t ht
 ·have:=h7 t ht
  rw[Array.all_eq_true] at this
  obtain⟨i,hi,rfl⟩:=Array.getElem_of_mem he
  have h:=this i hi
  rw[hb] at h
  simp only[Bool.not_true,Bool.false_or,Bool.and_eq_true,decide_eq_true_eq,Bool.not_eq_true',List.contains_eq_mem,decide_eq_false_iff_not] at h
  exact h
end
theorem Mod.below{m:Nat}{w w':World}(h:Mod m w w'){B:Nat}(hB:B≤m)(hs:B≤w.heap.size):Below B w w':=⟨h.os,h.tape,h.output,h.size,fun k hk=>h.block k (by omega) (by omega)⟩
theorem Mod.of_below{m:Nat}{w w':World}(h:Below w.heap.size w w'):Mod m w w':=⟨h.os,h.tape,h.output,h.size,fun k hk _=>h.block k hk⟩
theorem Mod.trans{m:Nat}{a b c:World}(h:Mod m a b)(k:Mod m b c):Mod m a c:=⟨k.os.trans h.os,k.tape.trans h.tape,k.output.trans h.output,Nat.le_trans h.size k.size,fun i hi hm=>(k.block i (Nat.lt_of_lt_of_le hi h.size) hm).trans (h.block i hi hm)⟩
theorem Mod.setCell{m:Nat}{a w:World}(h:Mod m a w)(i:Nat)(u:Value):Mod m a (w.setCell ⟨m,i,none⟩ u):=h.trans ⟨rfl,rfl,rfl,by simp[World.setCell],fun k _ hm=>Below.heap_setCell _ _ _ _ hm⟩
theorem Mod.refl(m:Nat)(w:World):Mod m w w:=⟨rfl,rfl,rfl,Nat.le_refl _,fun _ _ _=>rfl⟩
theorem Mod.drewN{m:Nat}{a w:World}(h:Mod m a w)(n:Nat):Mod m a (w.drewN n):=⟨h.os,h.tape,h.output,h.size,h.block⟩
theorem below_of_alloc{w w':World}{o:Obj}(h:Mod w.heap.size (w.alloc o) w'):Below w.heap.size w w' :=
 (br.alloc (Nat.le_refl _) o).trans (h.below (Nat.le_refl _) (by simp))
theorem Fact.Keeps.below{R:Fact}(h:R.Keeps){v:Value}{w w':World}{A:Nat→Prop}(hb:Below w.heap.size w w')(hR:R v w A):R v w' A:=h v w w' A A hb.size (fun b hb' hA=>⟨hb.block b hb',hA⟩) hR
theorem Fact.Keeps.noA{R:Fact}(h:R.Keeps){v:Value}{w:World}{A:Nat→Prop}(hR:R v w A):R v w NoA:=h v w w A NoA (Nat.le_refl _) (fun _ _ _=>⟨rfl,fun h=>h⟩) hR
theorem Rcv.below{A:Nat→Prop}{w w':World}(h:Rcv A w)(hb:Below w.heap.size w w'):Rcv A w':=fun b hA=>by
 obtain⟨z,h1,h2⟩:=h b hA
 exact⟨z,(hb.block b (Array.getElem?_eq_some_iff.1 h1).1).trans h1,h2⟩
theorem rcv_noA(w:World):Rcv NoA w:=fun _ h=>h.elim
inductive Ku where
 | lit
 | new (z:Obj)
 | val
 | on (r:Nat) (z:Obj)
 | own (z:Obj)
 | valg
 | skip
 | st (r:Nat) (z:Obj)
def Ku.kd:Ku→Kd
 | .lit=>.lit undef
 | .new z=>.new z
 | .val=>.val
 | .on r z=>.on r z
 | .own z=>.new z
 | .valg=>.val
 | .skip=>.skip
 | .st r z=>.on r z
def Ku.s:Ku→Bool
 | .st _ _=>true
 | _=>false
def Ku.g:Ku→Bool
 | .valg=>true
 | .skip=>true
 | _=>false
@[simp] theorem Ku.kd_lit:Ku.lit.kd=.lit undef:=rfl
@[simp] theorem Ku.kd_new (z:Obj):(Ku.new z).kd=.new z:=rfl
@[simp] theorem Ku.kd_val:Ku.val.kd=.val:=rfl
@[simp] theorem Ku.kd_on (r:Nat) (z:Obj):(Ku.on r z).kd=.on r z:=rfl
@[simp] theorem Ku.kd_valg:Ku.valg.kd=.val:=rfl
@[simp] theorem Ku.kd_skip:Ku.skip.kd=.skip:=rfl
@[simp] theorem Ku.kd_st (r:Nat) (z:Obj):(Ku.st r z).kd=.on r z:=rfl
@[simp] theorem Ku.kd_own (z:Obj):(Ku.own z).kd=.new z:=rfl
def mk0:Nat→List Oper→List (Ku×List Nat)→List It
 | i,o :: l,(k,d) :: ks=>⟨i,o,k.kd,d,k.g,k.s⟩ :: mk0 (i+1) l ks
 | _,_,_=>[]
def RW(P:Program)(ops:Array Oper)(Q:Exit→Act→World→Prop)(w0:World)(F:Nat→Fact):Nat→List Oper→List (Ku×List Nat)→((Nat→Value)→Act)→((Nat→Value)→World→Prop)→Prop
 | _,l,[],fr,Φ=>∀ f w,Below w0.heap.size w0 w→Φ f w→wpList P ops Q l (fr f) w
 | _,[],_ :: _,_,_=>False
 | i,o :: l,(.lit,_) :: ks,fr,Φ=>∃ v,(∀ f w,Below w0.heap.size w0 w→(execOp (fr f).eval o).run P w=.ok (.value v) w)∧RW P ops Q w0 F (i+1) l ks (fun f=>(fr f).put o.dst v) Φ
 | i,o :: l,(.new z,d) :: ks,fr,Φ=>(∀ f,Obl P w0 F f (fr f) ⟨i,o,.new z,d,false,false⟩)∧RW P ops Q w0 F (i+1) l ks (fun f=>(fr f).put o.dst (f i)) Φ
 | i,o :: l,(.val,d) :: ks,fr,Φ=>(∀ f,Obl P w0 F f (fr f) ⟨i,o,.val,d,false,false⟩)∧RW P ops Q w0 F (i+1) l ks (fun f=>(fr f).put o.dst (f i)) (fun f w=>Φ f w∧F i (f i) w NoA)
 | i,o :: l,(.on r z,d) :: ks,fr,Φ=>(∀ f,OblOn P w0 F f (fr f) i o r z d)∧RW P ops Q w0 F (i+1) l ks (fun f=>(fr f).put o.dst (f i)) (fun f w=>Φ f w∧F i (f i) w NoA)
 | _,_ :: _,(.own _,_) :: _,_,_=>False
 | _,_ :: _,(.valg,_) :: _,_,_=>False
 | _,_ :: _,(.skip,_) :: _,_,_=>False
 | _,_ :: _,(.st _ _,_) :: _,_,_=>False
def RWo(P:Program)(ops:Array Oper)(Q:Exit→Act→World→Prop)(w0:World)(F:Nat→Fact)(os:List Nat):Nat→List Oper→List (Ku×List Nat)→((Nat→Value)→Act)→((Nat→Value)→World→(Nat→Prop)→Prop)→Prop
 | _,l,[],fr,Φ=>∀ f w A,Below w0.heap.size w0 w→Rcv A w→(∀ b,A b→w0.heap.size≤b)→(∀ i∈os,∀ j∈os,f i=f j→i=j)→Φ f w A→wpList P ops Q l (fr f) w
 | _,[],_ :: _,_,_=>False
 | i,o :: l,(.lit,_) :: ks,fr,Φ=>∃ v,(∀ f w,Below w0.heap.size w0 w→(execOp (fr f).eval o).run P w=.ok (.value v) w)∧RWo P ops Q w0 F os (i+1) l ks (fun f=>(fr f).put o.dst v) Φ
 | i,o :: l,(.new z,d) :: ks,fr,Φ=>(∀ f,Obl P w0 F f (fr f) ⟨i,o,.new z,d,false,false⟩)∧RWo P ops Q w0 F os (i+1) l ks (fun f=>(fr f).put o.dst (f i)) Φ
 | i,o :: l,(.own z,d) :: ks,fr,Φ=>(∀ f,Obl P w0 F f (fr f) ⟨i,o,.new z,d,false,false⟩)∧RWo P ops Q w0 F os (i+1) l ks (fun f=>(fr f).put o.dst (f i)) (fun f w A=>Φ f w A∧∃ m,f i=.pointer (some ⟨m,0,none⟩)∧A m∧w0.heap.size≤m∧w.heap[m]?=some z)
 | i,o :: l,(.val,d) :: ks,fr,Φ=>(∀ f,Obl P w0 F f (fr f) ⟨i,o,.val,d,false,false⟩)∧RWo P ops Q w0 F os (i+1) l ks (fun f=>(fr f).put o.dst (f i)) (fun f w A=>Φ f w A∧F i (f i) w A)
 | i,o :: l,(.on r z,d) :: ks,fr,Φ=>(∀ f,OblOn P w0 F f (fr f) i o r z d)∧RWo P ops Q w0 F os (i+1) l ks (fun f=>(fr f).put o.dst (f i)) (fun f w A=>Φ f w A∧F i (f i) w A)
 | i,o :: l,(.valg,d) :: ks,fr,Φ=>(∀ f,Grd ops w0 F f (fr f) ⟨i,o,.val,d,true,false⟩)∧(∀ f,Obl P w0 F f (fr f) ⟨i,o,.val,d,true,false⟩)∧RWo P ops Q w0 F os (i+1) l ks (fun f=>(fr f).put o.dst (f i)) (fun f w A=>Φ f w A∧F i (f i) w A)
 | i,o :: l,(.skip,d) :: ks,fr,Φ=>(∀ f,Grd ops w0 F f (fr f) ⟨i,o,.skip,d,true,false⟩)∧RWo P ops Q w0 F os (i+1) l ks (fun f=>(fr f).put o.dst undef) Φ
 | i,o :: l,(.st r z,d) :: ks,fr,Φ=>(∀ f,OblSt P w0 F f (fr f) i o r z d)∧RWo P ops Q w0 F os (i+1) l ks (fun f=>(fr f).put o.dst (f i)) (fun f w A=>Φ f w A∧F i (f r) w A)
def ownsOf:Nat→List (Ku×List Nat)→List (Nat×Obj)
 | _,[]=>[]
 | i,(.own z,_) :: ks=>(i,z) :: ownsOf (i+1) ks
 | i,(.lit,_) :: ks=>ownsOf (i+1) ks
 | i,(.new _,_) :: ks=>ownsOf (i+1) ks
 | i,(.val,_) :: ks=>ownsOf (i+1) ks
 | i,(.valg,_) :: ks=>ownsOf (i+1) ks
 | i,(.skip,_) :: ks=>ownsOf (i+1) ks
 | i,(.st _ _,_) :: ks=>ownsOf (i+1) ks
 | i,(.on _ _,_) :: ks=>ownsOf (i+1) ks
theorem ownsOf_mem:∀{ks:List (Ku×List Nat)} {i:Nat} {p:Nat×Obj},p∈ownsOf i ks→∃ j d,ks[j]?=some (.own p.2,d)∧p.1=i+j
 | [],_,_,h=>by cases h
 | (.own z,d) :: ks,i,p,h=>by
  rcases List.mem_cons.1 h with rfl|h
  ·exact⟨0,d,rfl,rfl⟩
  ·obtain⟨j,d,h1,h2⟩:=ownsOf_mem h
   exact⟨j+1,d,h1,by omega⟩
 | (.lit,_) :: ks,i,p,h=>by
  obtain⟨j,d,h1,h2⟩:=ownsOf_mem (ks:=ks) h
  exact⟨j+1,d,h1,by omega⟩
 | (.new _,_) :: ks,i,p,h=>by
  obtain⟨j,d,h1,h2⟩:=ownsOf_mem (ks:=ks) h
  exact⟨j+1,d,h1,by omega⟩
 | (.val,_) :: ks,i,p,h=>by
  obtain⟨j,d,h1,h2⟩:=ownsOf_mem (ks:=ks) h
  exact⟨j+1,d,h1,by omega⟩
 | (.valg,_) :: ks,i,p,h=>by
  obtain⟨j,d,h1,h2⟩:=ownsOf_mem (ks:=ks) h
  exact⟨j+1,d,h1,by omega⟩
 | (.skip,_) :: ks,i,p,h=>by
  obtain⟨j,d,h1,h2⟩:=ownsOf_mem (ks:=ks) h
  exact⟨j+1,d,h1,by omega⟩
 | (.st _ _,_) :: ks,i,p,h=>by
  obtain⟨j,d,h1,h2⟩:=ownsOf_mem (ks:=ks) h
  exact⟨j+1,d,h1,by omega⟩
 | (.on _ _,_) :: ks,i,p,h=>by
  obtain⟨j,d,h1,h2⟩:=ownsOf_mem (ks:=ks) h
  exact⟨j+1,d,h1,by omega⟩
theorem RWo_mono{P:Program}{ops:Array Oper}{Q:Exit→Act→World→Prop}{w0:World}{F:Nat→Fact}{os:List Nat}:∀(ks:List (Ku×List Nat)) (i:Nat) (l:List Oper) (fr:(Nat→Value)→Act) (Φ Ψ:(Nat→Value)→World→(Nat→Prop)→Prop),(∀ f w A,Ψ f w A→Φ f w A)→RWo P ops Q w0 F os i l ks fr Φ→RWo P ops Q w0 F os i l ks fr Ψ
 | [],i,l,fr,Φ,Ψ,h,r=>by
  have r':∀ f w A,Below w0.heap.size w0 w→Rcv A w→(∀ b,A b→w0.heap.size≤b)→(∀ i∈os,∀ j∈os,f i=f j→i=j)→Φ f w A→wpList P ops Q l (fr f) w:=by cases l<;>exact r
  have:∀ f w A,Below w0.heap.size w0 w→Rcv A w→(∀ b,A b→w0.heap.size≤b)→(∀ i∈os,∀ j∈os,f i=f j→i=j)→Ψ f w A→wpList P ops Q l (fr f) w:=fun f w A a b c d e=>r' f w A a b c d (h f w A e)
  cases l<;>exact this
 | (k,d) :: ks,i,[],fr,Φ,Ψ,h,r=>by cases k<;>exact r.elim
 | (.lit,d) :: ks,i,o :: l,fr,Φ,Ψ,h,⟨v,h1,h2⟩=>⟨v,h1,RWo_mono ks _ l _ Φ Ψ h h2⟩
 | (.new z,d) :: ks,i,o :: l,fr,Φ,Ψ,h,⟨h1,h2⟩=>⟨h1,RWo_mono ks _ l _ Φ Ψ h h2⟩
 | (.own z,d) :: ks,i,o :: l,fr,Φ,Ψ,h,⟨h1,h2⟩=>⟨h1,RWo_mono ks _ l _ _ _ (fun f w A h3=>⟨h f w A h3.1,h3.2⟩) h2⟩
 | (.skip,d) :: ks,i,o :: l,fr,Φ,Ψ,h,⟨h1,h2⟩=>⟨h1,RWo_mono ks _ l _ Φ Ψ h h2⟩
 | (.st r z,d) :: ks,i,o :: l,fr,Φ,Ψ,h,⟨h1,h2⟩=>⟨h1,RWo_mono ks _ l _ _ _ (fun f w A h3=>⟨h f w A h3.1,h3.2⟩) h2⟩
 | (.valg,d) :: ks,i,o :: l,fr,Φ,Ψ,h,⟨h0,h1,h2⟩=>⟨h0,h1,RWo_mono ks _ l _ _ _ (fun f w A h3=>⟨h f w A h3.1,h3.2⟩) h2⟩
 | (.val,d) :: ks,i,o :: l,fr,Φ,Ψ,h,⟨h1,h2⟩=>⟨h1,RWo_mono ks _ l _ _ _ (fun f w A h3=>⟨h f w A h3.1,h3.2⟩) h2⟩
 | (.on r z,d) :: ks,i,o :: l,fr,Φ,Ψ,h,⟨h1,h2⟩=>⟨h1,RWo_mono ks _ l _ _ _ (fun f w A h3=>⟨h f w A h3.1,h3.2⟩) h2⟩
theorem RW_o{P:Program}{ops:Array Oper}{Q:Exit→Act→World→Prop}{w0:World}{F:Nat→Fact}{os:List Nat}(hkeep:∀ i,(F i).Keeps):∀(ks:List (Ku×List Nat)) (i:Nat) (l:List Oper) (fr:(Nat→Value)→Act) (Φ:(Nat→Value)→World→Prop),RW P ops Q w0 F i l ks fr Φ→RWo P ops Q w0 F os i l ks fr (fun f w _=>Φ f w)
 | [],i,l,fr,Φ,r=>by
  have r':∀ f w,Below w0.heap.size w0 w→Φ f w→wpList P ops Q l (fr f) w:=by cases l<;>exact r
  have:∀ f w A,Below w0.heap.size w0 w→Rcv A w→(∀ b,A b→w0.heap.size≤b)→(∀ i∈os,∀ j∈os,f i=f j→i=j)→Φ f w→wpList P ops Q l (fr f) w:=fun f w _ a _ _ _ e=>r' f w a e
  cases l<;>exact this
 | (k,d) :: ks,i,[],fr,Φ,r=>by cases k<;>exact r.elim
 | (.lit,d) :: ks,i,o :: l,fr,Φ,⟨v,h1,h2⟩=>⟨v,h1,RW_o hkeep ks _ l _ Φ h2⟩
 | (.new z,d) :: ks,i,o :: l,fr,Φ,⟨h1,h2⟩=>⟨h1,RW_o hkeep ks _ l _ Φ h2⟩
 | (.own z,d) :: ks,i,o :: l,fr,Φ,r=>r.elim
 | (.valg,d) :: ks,i,o :: l,fr,Φ,r=>r.elim
 | (.skip,d) :: ks,i,o :: l,fr,Φ,r=>r.elim
 | (.st _ _,d) :: ks,i,o :: l,fr,Φ,r=>r.elim
 | (.val,d) :: ks,i,o :: l,fr,Φ,⟨h1,h2⟩=>⟨h1,RWo_mono ks _ l _ _ _ (fun f w A h3=>⟨h3.1,hkeep i _ w w A NoA (Nat.le_refl _) (fun _ _ _=>⟨rfl,fun h=>h⟩) h3.2⟩) (RW_o hkeep ks _ l _ _ h2)⟩
 | (.on r z,d) :: ks,i,o :: l,fr,Φ,⟨h1,h2⟩=>⟨h1,RWo_mono ks _ l _ _ _ (fun f w A h3=>⟨h3.1,hkeep i _ w w A NoA (Nat.le_refl _) (fun _ _ _=>⟨rfl,fun h=>h⟩) h3.2⟩) (RW_o hkeep ks _ l _ _ h2)⟩
def fill(lits:Nat→Value)(t:It):It:=match t.k with|.lit _=>{ t with k:=.lit (lits t.i) }|_=>t
theorem fill_i(lits:Nat→Value)(t:It):(fill lits t).i=t.i:=by unfold fill; split<;>rfl
theorem fill_o(lits:Nat→Value)(t:It):(fill lits t).o=t.o:=by unfold fill; split<;>rfl
theorem fill_deps(lits:Nat→Value)(t:It):(fill lits t).deps=t.deps:=by unfold fill; split<;>rfl
theorem fill_new(lits:Nat→Value)(t:It)(z:Obj):(fill lits t).k=.new z↔t.k=.new z:=by
 unfold fill; split
 ·rename_i h; rw[h]; simp
 ·rfl
theorem fill_on(lits:Nat→Value)(t:It)(r:Nat)(z:Obj):(fill lits t).k=.on r z↔t.k=.on r z:=by
 unfold fill; split
 ·rename_i h; rw[h]; simp
 ·rfl
theorem fill_isNew(lits:Nat→Value)(t:It):(fill lits t).isNew=t.isNew:=by
 unfold fill; split
 ·rename_i h; unfold It.isNew; rw[h]
 ·rfl
theorem fill_g(lits:Nat→Value)(t:It):(fill lits t).g=t.g:=by unfold fill; split<;>rfl
theorem fill_runs(lits:Nat→Value)(t:It):(fill lits t).runs=t.runs:=by
 unfold fill; split
 ·rename_i h; unfold It.runs; rw[h]
 ·rfl
theorem fill_isVal(lits:Nat→Value)(t:It):(fill lits t).isVal=t.isVal:=by
 unfold fill; split
 ·rename_i h; unfold It.isVal; rw[h]
 ·rfl
theorem mk0_ge{ks:List (Ku×List Nat)}:∀{i:Nat} {l:List Oper},∀ t∈mk0 i l ks,i≤t.i:=by
 induction ks with
 | nil=>intro i l t ht; cases l<;>simp[mk0] at ht
 | cons k ks ih =>
  intro i l t ht
  cases l with
  | nil=>simp[mk0] at ht
  | cons o l =>
   rcases List.mem_cons.1 ht with rfl|h
   ·exact Nat.le_refl _
   ·have:=ih t h; omega
theorem fill_congr{lits lits':Nat→Value}{its:List It}(h:∀ t∈its,lits t.i=lits' t.i):its.map (fill lits)=its.map (fill lits') :=
 List.map_congr_left fun t ht=>by unfold fill; split<;>simp[h t ht]
section
variable{P:Program}{Q:Exit→Act→World→Prop}{md:Region.Mode}{ops:Array Oper}{w0:World}{F:Nat→Fact}{a0:Act}
theorem Ok.fill{listed:Array Bool}{its:List It}{tail:List Nat}(ok:Ok md ops listed its tail)(lits:Nat→Value):Ok md ops listed (its.map (fill lits)) tail:=by
 have mem:∀{t},t∈its.map (Tr.fill lits)→∃ x∈its,Tr.fill lits x=t:=fun h=>List.mem_map.1 h
 have mem':∀{x},x∈its→Tr.fill lits x∈its.map (Tr.fill lits):=fun h=>List.mem_map_of_mem h
 refine⟨ok.sel,fun t ht=>?_,?_,fun t ht hg=>?_,fun t ht z hk=>?_,fun t ht j hj=>?_,fun t ht r z hk=>?_,ok.size,fun k hk hno=>ok.all k hk (fun x hx e=>hno _ (mem' hx) (by rw[fill_i]; exact e)),fun k hk=>?_,fun k hk o ho t ht=>?_,fun t ht e he hb=>?_⟩
 ·obtain⟨x,hx,rfl⟩:=mem ht; rw[fill_i,fill_o]; exact ok.oper x hx
 ·rw[List.pairwise_map]
  refine ok.pairs.imp fun{x y} h=>?_
  simpa only[pairOk,fill_i,fill_o] using h
 ·obtain⟨x,hx,rfl⟩:=mem ht; rw[fill_o,fill_runs]; rw[fill_g] at hg; exact ok.guard x hx hg
 ·obtain⟨x,hx,rfl⟩:=mem ht; exact ok.now x hx z ((fill_new _ _ _).1 hk)
 ·obtain⟨x,hx,rfl⟩:=mem ht
  rw[fill_deps] at hj
  obtain⟨h1,y,hy,hyi,hyv⟩:=ok.deps x hx j hj
  rw[fill_o]
  exact⟨h1,_,mem' hy,by rw[fill_i]; exact hyi,by rw[fill_isVal]; exact hyv⟩
 ·obtain⟨x,hx,rfl⟩:=mem ht
  obtain⟨h1,⟨y,hy,hyi,hyk⟩,h3⟩:=ok.on x hx r z ((fill_on _ _ _ _).1 hk)
  rw[fill_o]
  refine⟨h1,⟨_,mem' hy,by rw[fill_i]; exact hyi,(fill_new _ _ _).2 hyk⟩,fun u hu z' huk=>?_⟩
  obtain⟨u',hu',rfl⟩:=mem hu
  rw[fill_i,fill_i]
  exact h3 u' hu' z' ((fill_on _ _ _ _).1 huk)
 ·rw[ok.rest k hk]
  refine and_congr_right fun _=>⟨fun h t ht=>?_,fun h t ht=>?_⟩
  ·obtain⟨x,hx,rfl⟩:=mem ht; rw[fill_i]; exact h x hx
  ·have:=h _ (mem' ht); rwa[fill_i] at this
 ·obtain⟨x,hx,rfl⟩:=mem ht; rw[fill_i]; exact ok.last k hk o ho x hx
 ·obtain⟨x,hx,rfl⟩:=mem ht
  rw[fill_o] at he
  rw[fill_i]
  exact ok.back x hx e he hb
theorem RWo_spec{os:List Nat}:∀(ks:List (Ku×List Nat)) (i:Nat) (l:List Oper) (fr:(Nat→Value)→Act) (Φ:(Nat→Value)→World→(Nat→Prop)→Prop) (pre:List It),(∀ f,fr f=puts f pre a0)→RWo P ops Q w0 F os i l ks fr Φ →
  ∃ lits,Obls P ops w0 F a0 pre ((mk0 i l ks).map (fill lits))∧(mk0 i l ks).length=ks.length ∧
   ∀ f w A,Below w0.heap.size w0 w→Rcv A w→(∀ b,A b→w0.heap.size≤b)→(∀ i∈os,∀ j∈os,f i=f j→i=j)→Φ f w A→(∀ t∈(mk0 i l ks).map (fill lits),t.isVal=true→F t.i (f t.i) w A)→(∀ t∈(mk0 i l ks).map (fill lits),∀ r z,t.k=.on r z→t.s=true→f t.i=f r)→(∀ p∈ownsOf i ks,∃ m,f p.1=.pointer (some ⟨m,0,none⟩)∧A m∧w0.heap.size≤m∧w.heap[m]?=some p.2)→wpList P ops Q (l.drop ks.length) (puts f (pre++(mk0 i l ks).map (fill lits)) a0) w:=by
 intro ks
 induction ks with
 | nil =>
  intro i l fr Φ pre hfr h
  refine⟨fun _=>undef,?_,?_,fun f w A hb hR hfr0 hap hΦ _ _ _=>?_⟩
  ·cases l<;>exact trivial
  ·cases l<;>rfl
  ·have:mk0 i l []=[]:=by cases l<;>rfl
   rw[this,List.map_nil,List.append_nil,←hfr f]
   have h':∀ f w A,Below w0.heap.size w0 w→Rcv A w→(∀ b,A b→w0.heap.size≤b)→(∀ i∈os,∀ j∈os,f i=f j→i=j)→Φ f w A→wpList P ops Q l (fr f) w:=by cases l<;>exact h
   exact h' f w A hb hR hfr0 hap hΦ
 | cons k ks ih =>
  intro i l fr Φ pre hfr h
  cases l with
  | nil=>obtain⟨k,d⟩:=k; cases k<;>exact h.elim
  | cons o l =>
   obtain⟨k,d⟩:=k
   have tailEq:∀(lits:Nat→Value) (v:Value),(mk0 (i+1) l ks).map (fill fun n=>if n=i then v else lits n)=(mk0 (i+1) l ks).map (fill lits):=fun lits v =>
    fill_congr fun t ht=>if_neg (by have:=mk0_ge t ht; omega)
   have pa:∀(f:Nat→Value) (pre:List It) (t:It) (a:Act),puts f (pre++[t]) a=(puts f pre a).put t.o.dst (t.val f):=by
    intro f pre t
    induction pre with
    | nil=>intro a; rfl
    | cons x pre ih=>intro a; exact ih _
   cases k with
   | lit =>
    obtain⟨v,hv,hrest⟩:=h
    obtain⟨lits,h1,h2,h3⟩:=ih (i+1) l _ Φ (pre++[⟨i,o,.lit v,d,false,false⟩]) (fun f=>by rw[pa,←hfr f]; rfl) hrest
    have e:(mk0 i (o :: l) ((Ku.lit,d) :: ks)).map (fill fun n=>if n=i then v else lits n)=⟨i,o,.lit v,d,false,false⟩ :: (mk0 (i+1) l ks).map (fill lits):=by
     rw[←tailEq lits v]
     simp[mk0,Ku.kd,Ku.g,Ku.s,fill]
    refine⟨fun n=>if n=i then v else lits n,?_,by simp[mk0,h2],fun f w A hb hR hfr0 hap hΦ hF hT hO=>?_⟩
    ·rw[e]
     exact⟨fun f=>⟨fun w hb=>by rw[←hfr f]; exact hv f w hb,fun h=>by cases h⟩,h1⟩
    ·rw[e] at hF hT ⊢
     have:=h3 f w A hb hR hfr0 hap hΦ (fun t ht hn=>hF t (List.mem_cons_of_mem _ ht) hn) (fun t ht=>hT t (List.mem_cons_of_mem _ ht)) hO
     simpa using this
   | new z =>
    obtain⟨hv,hrest⟩:=h
    obtain⟨lits,h1,h2,h3⟩:=ih (i+1) l _ Φ (pre++[⟨i,o,.new z,d,false,false⟩]) (fun f=>by rw[pa,←hfr f]; rfl) hrest
    have e:(mk0 i (o :: l) ((Ku.new z,d) :: ks)).map (fill lits)=⟨i,o,.new z,d,false,false⟩ :: (mk0 (i+1) l ks).map (fill lits):=by
     simp[mk0,Ku.kd,Ku.g,Ku.s,fill]
    refine⟨lits,?_,by simp[mk0,h2],fun f w A hb hR hfr0 hap hΦ hF hT hO=>?_⟩
    ·rw[e]
     exact⟨fun f=>⟨by rw[←hfr f]; exact hv f,fun h=>by cases h⟩,h1⟩
    ·rw[e] at hF hT ⊢
     have:=h3 f w A hb hR hfr0 hap hΦ (fun t ht hn=>hF t (List.mem_cons_of_mem _ ht) hn) (fun t ht=>hT t (List.mem_cons_of_mem _ ht)) hO
     simpa using this
   | own z =>
    obtain⟨hv,hrest⟩:=h
    obtain⟨lits,h1,h2,h3⟩:=ih (i+1) l _ _ (pre++[⟨i,o,.new z,d,false,false⟩]) (fun f=>by rw[pa,←hfr f]; rfl) hrest
    have e:(mk0 i (o :: l) ((Ku.own z,d) :: ks)).map (fill lits)=⟨i,o,.new z,d,false,false⟩ :: (mk0 (i+1) l ks).map (fill lits):=by
     simp[mk0,Ku.kd,Ku.g,Ku.s,fill]
    refine⟨lits,?_,by simp[mk0,h2],fun f w A hb hR hfr0 hap hΦ hF hT hO=>?_⟩
    ·rw[e]
     exact⟨fun f=>⟨by rw[←hfr f]; exact hv f,fun h=>by cases h⟩,h1⟩
    ·rw[e] at hF hT ⊢
     have:=h3 f w A hb hR hfr0 hap ⟨hΦ,hO (i,z) (by simp[ownsOf])⟩ (fun t ht hn=>hF t (List.mem_cons_of_mem _ ht) hn) (fun t ht=>hT t (List.mem_cons_of_mem _ ht)) (fun p hp=>hO p (by simp[ownsOf,hp]))
     simpa using this
   | val =>
    obtain⟨hv,hrest⟩:=h
    obtain⟨lits,h1,h2,h3⟩:=ih (i+1) l _ _ (pre++[⟨i,o,.val,d,false,false⟩]) (fun f=>by rw[pa,←hfr f]; rfl) hrest
    have e:(mk0 i (o :: l) ((Ku.val,d) :: ks)).map (fill lits)=⟨i,o,.val,d,false,false⟩ :: (mk0 (i+1) l ks).map (fill lits):=by
     simp[mk0,Ku.kd,Ku.g,Ku.s,fill]
    refine⟨lits,?_,by simp[mk0,h2],fun f w A hb hR hfr0 hap hΦ hF hT hO=>?_⟩
    ·rw[e]
     exact⟨fun f=>⟨by rw[←hfr f]; exact hv f,fun h=>by cases h⟩,h1⟩
    ·rw[e] at hF hT ⊢
     have:=h3 f w A hb hR hfr0 hap ⟨hΦ,hF ⟨i,o,.val,d,false,false⟩ (by simp) rfl⟩ (fun t ht hn=>hF t (List.mem_cons_of_mem _ ht) hn) (fun t ht=>hT t (List.mem_cons_of_mem _ ht)) hO
     simpa using this
   | valg =>
    obtain⟨hg,hv,hrest⟩:=h
    obtain⟨lits,h1,h2,h3⟩:=ih (i+1) l _ _ (pre++[⟨i,o,.val,d,true,false⟩]) (fun f=>by rw[pa,←hfr f]; rfl) hrest
    have e:(mk0 i (o :: l) ((Ku.valg,d) :: ks)).map (fill lits)=⟨i,o,.val,d,true,false⟩ :: (mk0 (i+1) l ks).map (fill lits):=by
     simp[mk0,Ku.kd,Ku.g,Ku.s,fill]
    refine⟨lits,?_,by simp[mk0,h2],fun f w A hb hR hfr0 hap hΦ hF hT hO=>?_⟩
    ·rw[e]
     exact⟨fun f=>⟨by rw[←hfr f]; exact hv f,by rw[←hfr f]; exact hg f⟩,h1⟩
    ·rw[e] at hF hT ⊢
     have:=h3 f w A hb hR hfr0 hap ⟨hΦ,hF ⟨i,o,.val,d,true,false⟩ (by simp) rfl⟩ (fun t ht hn=>hF t (List.mem_cons_of_mem _ ht) hn) (fun t ht=>hT t (List.mem_cons_of_mem _ ht)) hO
     simpa using this
   | skip =>
    obtain⟨hv,hrest⟩:=h
    obtain⟨lits,h1,h2,h3⟩:=ih (i+1) l _ Φ (pre++[⟨i,o,.skip,d,true,false⟩]) (fun f=>by rw[pa,←hfr f]; rfl) hrest
    have e:(mk0 i (o :: l) ((Ku.skip,d) :: ks)).map (fill lits)=⟨i,o,.skip,d,true,false⟩ :: (mk0 (i+1) l ks).map (fill lits):=by
     simp[mk0,Ku.kd,Ku.g,Ku.s,fill]
    refine⟨lits,?_,by simp[mk0,h2],fun f w A hb hR hfr0 hap hΦ hF hT hO=>?_⟩
    ·rw[e]
     exact⟨fun f=>⟨trivial,by rw[←hfr f]; exact hv f⟩,h1⟩
    ·rw[e] at hF hT ⊢
     have:=h3 f w A hb hR hfr0 hap hΦ (fun t ht hn=>hF t (List.mem_cons_of_mem _ ht) hn) (fun t ht=>hT t (List.mem_cons_of_mem _ ht)) hO
     simpa using this
   | on r z =>
    obtain⟨hv,hrest⟩:=h
    obtain⟨lits,h1,h2,h3⟩:=ih (i+1) l _ _ (pre++[⟨i,o,.on r z,d,false,false⟩]) (fun f=>by rw[pa,←hfr f]; rfl) hrest
    have e:(mk0 i (o :: l) ((Ku.on r z,d) :: ks)).map (fill lits)=⟨i,o,.on r z,d,false,false⟩ :: (mk0 (i+1) l ks).map (fill lits):=by
     simp[mk0,Ku.kd,Ku.g,Ku.s,fill]
    refine⟨lits,?_,by simp[mk0,h2],fun f w A hb hR hfr0 hap hΦ hF hT hO=>?_⟩
    ·rw[e]
     exact⟨fun f=>⟨by rw[←hfr f]; exact fun w A m h1 h2 h3 h4 h5 h6 h7 h8 K hK=>hv f w A m h1 h2 h3 h4 h5 h6 h7 h8 K (fun v w' h9 h10=>hK v w' (fun h=>by cases h) h9 h10),fun h=>by cases h⟩,h1⟩
    ·rw[e] at hF hT ⊢
     have:=h3 f w A hb hR hfr0 hap ⟨hΦ,hF ⟨i,o,.on r z,d,false,false⟩ (by simp) rfl⟩ (fun t ht hn=>hF t (List.mem_cons_of_mem _ ht) hn) (fun t ht=>hT t (List.mem_cons_of_mem _ ht)) hO
     simpa using this
   | st r z =>
    obtain⟨hv,hrest⟩:=h
    obtain⟨lits,h1,h2,h3⟩:=ih (i+1) l _ _ (pre++[⟨i,o,.on r z,d,false,true⟩]) (fun f=>by rw[pa,←hfr f]; rfl) hrest
    have e:(mk0 i (o :: l) ((Ku.st r z,d) :: ks)).map (fill lits)=⟨i,o,.on r z,d,false,true⟩ :: (mk0 (i+1) l ks).map (fill lits):=by
     simp[mk0,Ku.kd,Ku.g,Ku.s,fill]
    refine⟨lits,?_,by simp[mk0,h2],fun f w A hb hR hfr0 hap hΦ hF hT hO=>?_⟩
    ·rw[e]
     exact⟨fun f=>⟨by rw[←hfr f]; exact fun w A m h1 h2 h3 h4 h5 h6 h7 h8 K hK=>hv f w A m h1 h2 h3 h4 h5 h6 h7 h8 K (fun w' h9 h10=>hK (f r) w' (fun _=>rfl) h9 (by have h6':f r=Value.pointer (some ⟨m,0,none⟩):=h6; rw[h6']; exact h10)),fun h=>by cases h⟩,h1⟩
    ·rw[e] at hF hT ⊢
     have:=h3 f w A hb hR hfr0 hap ⟨hΦ,by have h9:=hF ⟨i,o,.on r z,d,false,true⟩ (by simp) rfl; have h10:=hT ⟨i,o,.on r z,d,false,true⟩ (by simp) r z rfl rfl; simp only at h9 h10; rw[←h10]; exact h9⟩ (fun t ht hn=>hF t (List.mem_cons_of_mem _ ht) hn) (fun t ht=>hT t (List.mem_cons_of_mem _ ht)) hO
     simpa using this
def chk(l:List Oper)(ks:List (Ku×List Nat)):Bool :=
 Region.noSelect l.toArray && decide (ks.length≤l.length) && itsOk .any l.toArray (Array.replicate l.length false) (mk0 0 l ks) ((List.range l.length).drop ks.length) &&
 Region.seqB .any l.toArray (l.length - ks.length) ks.length (setAll (mk0 0 l ks) (Array.replicate l.length false))
end
section
variable{P:Program}{Q:Exit→Act→World→Prop}
theorem mk0_get:∀(ks:List (Ku×List Nat)) (i:Nat) (l:List Oper) (j:Nat),ks.length≤l.length→j<ks.length→∃ o k,l[j]?=some o∧ks[j]?=some k∧(mk0 i l ks)[j]?=some ⟨i+j,o,k.1.kd,k.2,k.1.g,k.1.s⟩
 | [],_,_,j,_,h=>by simp at h
 | (k,d) :: ks,i,[],j,h,_=>by simp at h
 | (k,d) :: ks,i,o :: l,0,_,_=>⟨o,(k,d),rfl,rfl,rfl⟩
 | (k,d) :: ks,i,o :: l,j+1,h,hj=>by
  obtain⟨o',k',h1,h2,h3⟩:=mk0_get ks (i+1) l j (by simp at h; omega) (by simp at hj; omega)
  refine⟨o',k',h1,h2,?_⟩
  show(mk0 (i+1) l ks)[j]?=_
  rw[h3]; congr 2; omega
theorem mk0_length:∀(ks:List (Ku×List Nat)) (i:Nat) (l:List Oper),ks.length≤l.length→(mk0 i l ks).length=ks.length
 | [],_,l,_=>by cases l<;>rfl
 | (k,d) :: ks,i,[],h=>by simp at h
 | (k,d) :: ks,i,o :: l,h=>by simp only[mk0,List.length_cons]; rw[mk0_length ks (i+1) l (by simp at h; omega)]
theorem mk0_mem{ks:List (Ku×List Nat)}{l:List Oper}(hl:ks.length≤l.length){t:It}(ht:t∈mk0 0 l ks):∃ k,l[t.i]?=some t.o∧ks[t.i]?=some k∧t.k=k.1.kd:=by
 obtain⟨j,hj,e⟩:=List.getElem_of_mem ht
 rw[mk0_length ks 0 l hl] at hj
 obtain⟨o,k,h1,h2,h3⟩:=mk0_get ks 0 l j hl hj
 have h4:(mk0 0 l ks)[j]?=some t:=by rw[List.getElem?_eq_getElem (by rw[mk0_length ks 0 l hl]; exact hj),e]
 rw[h4] at h3
 simp only[Option.some.injEq] at h3
 subst h3
 simp only[Nat.zero_add]
 exact⟨k,h1,h2,rfl⟩
theorem setAll_fill(lits:Nat→Value)(its:List It)(listed:Array Bool):setAll (its.map (fill lits)) listed=setAll its listed:=by
 induction its generalizing listed with
 | nil=>rfl
 | cons t its ih =>
  show setAll (its.map (fill lits)) (listed.setIfInBounds (fill lits t).i true)=setAll its (listed.setIfInBounds t.i true)
  rw[fill_i,ih]
theorem wpAny_own{a:Act}{w:World}{l:List Oper}(ks:List (Ku×List Nat))(F:Nat→Fact)(hkeep:∀ i,(F i).Keeps)
  (h:RWo P l.toArray Q w.drew F ((ownsOf 0 ks).map (·.1)) 0 l ks (fun _=>a) (fun _ _ _=>True)) (hnow:∀ k∈ks,∀ z,k.1.kd=.new z→NoW z) (hz:∀ k∈ks,∀ r z,k.1.kd=.on r z→(ks[r]?).map (·.1)=some (.new z)) (hc:chk l ks=true):wpAny P .any l.toArray Q l.toArray.size (Array.replicate l.toArray.size false) a w.drew:=by
 simp only[chk,Bool.and_eq_true,decide_eq_true_eq] at hc
 obtain⟨⟨⟨hsel,hle⟩,hits⟩,hseq⟩:=hc
 obtain⟨lits,h1,h2,h3⟩:=RWo_spec (a0:=a) ks 0 l _ _ [] (fun f=>rfl) h
 have hops:(mk0 0 l ks).map (fun t=>l.toArray[t.i]?)=(mk0 0 l ks).map fun t=>some t.o :=
  List.map_congr_left fun t ht=>by obtain⟨k,e,_⟩:=mk0_mem hle ht; simpa using e
 have ok:Ok .any l.toArray (Array.replicate l.length false) (mk0 0 l ks) ((List.range l.length).drop ks.length):=by
  refine Ok.of hsel hits hops (fun t ht z hk=>?_) (fun t ht r z hk=>?_)
  ·obtain⟨k,_,e2,e3⟩:=mk0_mem hle ht
   refine hnow k (List.mem_of_getElem? e2) z ?_
   rw[←e3]; exact hk
  ·obtain⟨k,_,e2,e3⟩:=mk0_mem hle ht
   have hk2:k.1.kd=.on r z:=by rw[←e3]; exact hk
   have:=hz k (List.mem_of_getElem? e2) r z hk2
   rw[Option.map_eq_some_iff] at this
   obtain⟨k',hk',hk'e⟩:=this
   obtain⟨o,k2,e4,e5,e6⟩:=mk0_get ks 0 l r hle (List.getElem?_eq_some_iff.1 hk').1
   rw[hk'] at e5
   cases e5
   exact⟨_,List.mem_of_getElem? e6,by simp,by simp[hk'e,Ku.kd]⟩
 have okf:=ok.fill lits
 have hsz:l.toArray.size=((mk0 0 l ks).map (fill lits)).length+(l.length - ks.length):=by
  rw[List.length_map,h2]; simp; omega
 have he:(Array.replicate l.toArray.size false)=Array.replicate l.length false:=by simp
 rw[he]
 refine wpAny_region (w:=w.drew) _ F okf (l.length - ks.length) hsz hkeep h1 (fun f w' A D=>?_)
 have hown:∀ p∈ownsOf 0 ks,∃ t∈(mk0 0 l ks).map (fill lits),t.i=p.1∧t.k=.new p.2∧Loose ((mk0 0 l ks).map (fill lits)) t:=fun p hp=>by
  obtain⟨j,d,hj,hji⟩:=ownsOf_mem hp
  obtain⟨o,k,e4,e5,e6⟩:=mk0_get ks 0 l j hle (List.getElem?_eq_some_iff.1 hj).1
  rw[hj] at e5
  cases e5
  have ht:=List.mem_of_getElem? e6
  refine⟨_,List.mem_map_of_mem ht,by rw[fill_i]; exact hji.symm,(fill_new _ _ _).2 rfl,by rw[fill_isNew]; rfl,fun y hy z hk=>?_⟩
  obtain⟨x,hx,rfl⟩:=List.mem_map.1 hy
  rw[fill_on,fill_i] at hk
  obtain⟨k,_,e2,e3⟩:=mk0_mem hle hx
  rw[hk] at e3
  have:=hz _ (List.mem_of_getElem? e2) _ _ e3.symm
  simp only[Nat.zero_add] at this
  rw[hj] at this
  simp at this
 have h4:=h3 f w' A D.below D.rcv D.from_ (fun i hi j hj e=>by
  obtain⟨p,hp,rfl⟩:=List.mem_map.1 hi
  obtain⟨q,hq,rfl⟩:=List.mem_map.1 hj
  obtain⟨t,ht,ti,_,tl⟩:=hown p hp
  obtain⟨u,hu,ui,_,ul⟩:=hown q hq
  have:=D.apart t ht u hu tl ul (by rw[ti,ui]; exact e)
  rw[←ti,←ui,this]) trivial D.facts D.tie (fun p hp=>by
  obtain⟨t,ht,ti,tk,tl⟩:=hown p hp
  rw[←ti]
  exact D.news t ht _ tk tl)
 rw[List.nil_append] at h4
 rw[setAll_fill]
 have h5:=wpAny_of_seq (P:=P) (md:=.any) (ops:=l.toArray) (Q':=Q) (l.drop ks.length) ks.length (setAll (mk0 0 l ks) (Array.replicate l.length false)) _ w' (fun j=>by simp[List.getElem?_drop]) (by rw[List.length_drop]; exact hseq) h4
 rwa[List.length_drop] at h5
theorem wp_region_own{id:Nat}{a:Act}{w:World}{l:List Oper}(ks:List (Ku×List Nat))(F:Nat→Fact)(hm:P.follows .mixedOrders=true)(hkeep:∀ i,(F i).Keeps)
  (h:RWo P l.toArray Q w.drew F ((ownsOf 0 ks).map (·.1)) 0 l ks (fun _=>a) (fun _ _ _=>True)) (hnow:∀ k∈ks,∀ z,k.1.kd=.new z→NoW z) (hz:∀ k∈ks,∀ r z,k.1.kd=.on r z→(ks[r]?).map (·.1)=some (.new z)) (hc:chk l ks=true):(Code.region id l.toArray true).wp P Q a w :=
 wp_region_any hm (wpAny_own ks F hkeep h hnow hz hc)
end
theorem wp_region_inv{id:Nat}{P:Program}{Q:Exit→Act→World→Prop}{a:Act}{w:World}{l:List Oper}(ks:List (Ku×List Nat))(F:Nat→Fact)(hm:P.follows .mixedOrders=true)(hkeep:∀ i,(F i).Keeps)
  (h:RW P l.toArray Q w.drew F 0 l ks (fun _=>a) (fun _ _=>True)) (hnow:∀ k∈ks,∀ z,k.1.kd=.new z→NoW z) (hz:∀ k∈ks,∀ r z,k.1.kd=.on r z→(ks[r]?).map (·.1)=some (.new z)) (hc:chk l ks=true):(Code.region id l.toArray true).wp P Q a w :=
 wp_region_own ks F hm hkeep (RW_o hkeep ks 0 l _ _ h) hnow hz hc
def pickF:List (Nat×Fact)→Nat→Fact
 | [],_=>fun _ _ _=>True
 | (k,R) :: l,i=>if i=k then R else pickF l i
theorem keeps_true:Fact.Keeps (fun _ _ _=>True):=fun _ _ _ _ _ _ _ _=>trivial
theorem keeps_pure(p:Value→Prop):Fact.Keeps (fun v _ _=>p v):=fun _ _ _ _ _ _ _ h=>h
theorem keeps_pick{l:List (Nat×Fact)}(h:∀ p∈l,p.2.Keeps)(i:Nat):(pickF l i).Keeps:=by
 induction l with
 | nil=>exact keeps_true
 | cons p l ih =>
  unfold pickF
  split
  ·exact h p (by simp)
  ·exact ih fun q hq=>h q (List.mem_cons_of_mem _ hq)
end Tr
