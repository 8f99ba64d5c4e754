/- Laws for the walk. -/
import Derived.Test.YtmimficdpfmfgaaGreatZay
import Derived.ChangeKeysEq
set_option linter.unusedVariables false
set_option maxHeartbeats 4000000
namespace Tr
open Go Go.RowKit
inductive FR where
 | c (g:GF)|row (l:List GF)
inductive FV where
 | r (x:FR)|tup (l:List FR)
def gl(l:LV):GF:=gx l.val (by cases l<;>rfl)
def okg:List GF→List Value→World→(Nat→Prop)→Prop
 | [],[],_,_=>True
 | g :: l,v :: vs,w,A=>g.R v w A∧okg l vs w A
 | _,_,_,_=>False
def FR.R:FR→Fact
 | .c g=>g.R
 | .row l=>fun v w A=>∃ vs,v=.agg vs.toArray∧okg l vs w A
def okf:List FR→List Value→World→(Nat→Prop)→Prop
 | [],[],_,_=>True
 | x :: l,v :: vs,w,A=>x.R v w A∧okf l vs w A
 | _,_,_,_=>False
def FV.R:FV→Fact
 | .r x=>x.R
 | .tup l=>fun v w A=>∃ vs,v=.tuple vs.toArray∧okf l vs w A
structure Qah(P:Program)(hp:Bool)(f:FuncId)(args:List FR)(res:FV):Prop where
 ent:Enters P f
 ok:∀(w:World) (A:Nat→Prop) (vs:List Value),(hp=true→Rcv A w)→(∀ n,A n→n<w.heap.size)→okf args vs w A →
  Calls P f vs.toArray w fun r w'=>∃ v,r=.returned v∧res.R v w' A∧Below w.heap.size w w'
section
variable{P:Program}{hp:Bool}{fi:FuncId}{a:List FR}{r s:FV}{c:Prop}[Decidable c]
theorem Qah.it(h:c)(k:Qah P hp fi a r):Qah P hp fi a (if c then r else s):=by rw[if_pos h]; exact k
theorem Qah.ie(h:¬c)(k:Qah P hp fi a s):Qah P hp fi a (if c then r else s):=by rw[if_neg h]; exact k
theorem Qah.t(k:Qah P hp fi a (if c then r else s))(h:c):Qah P hp fi a r:=by rw[if_pos h] at k; exact k
theorem Qah.f(k:Qah P hp fi a (if c then r else s))(h:¬c):Qah P hp fi a s:=by rw[if_neg h] at k; exact k
end
def AC.lk(L:List GF):AC→Option GF
 | .sym i=>some (L.getD i g0)
 | .lit l=>some (gl l)
 | _=>none
def acsK(L:List GF):List AC→Option (List GF)
 | []=>some []
 | x :: l=>match x.lk L,acsK L l with|some v,some vs=>some (v :: vs)|_,_=>none
def AR.lk(L:List GF):AR→Option FR
 | .c x=>match x.lk L with|some g=>some (.c g)|none=>none
 | .row l=>match acsK L l with|some vs=>some (.row vs)|none=>none
def arsK(L:List GF):List AR→Option (List FR)
 | []=>some []
 | x :: l=>match x.lk L,arsK L l with|some v,some vs=>some (v :: vs)|_,_=>none
def AV.lk(L:List GF):AV→Option FV
 | .r x=>match x.lk L with|some g=>some (.r g)|none=>none
 | .tup l=>match arsK L l with|some vs=>some (.tup vs)|none=>none
 | _=>none
section
variable{P:Program}{L:List GF}{hp:Bool}{σ:Sg}{w:World}{A:Nat→Prop}
theorem AC.lk_ok{x:AC}{g:GF}{v:Value}(h:x.lk L=some g):x.ok (gT L) σ v w A↔g.R v w A:=by
 cases x with
 | sym i=>cases h; exact Iff.rfl
 | lit l=>cases h; exact Iff.rfl
 | _=>cases h
theorem Qdx:∀{l:List AC} {gs:List GF} {vs:List Value},acsK L l=some gs→(oks (gT L) σ l vs w A↔okg gs vs w A)
 | [],gs,vs,h=>by cases h; cases vs<;>exact Iff.rfl
 | x :: l,gs,vs,h=>by
  unfold acsK at h
  split at h
  ·rename_i u r h1 h2
   cases h
   cases vs with
   | nil=>exact Iff.rfl
   | cons v vs=>exact and_congr (AC.lk_ok h1) (Qdx h2)
  ·cases h
theorem AR.lk_ok{x:AR}{g:FR}{v:Value}(h:x.lk L=some g):x.ok (gT L) σ v w A↔g.R v w A:=by
 cases x with
 | c x =>
  unfold AR.lk at h
  simp only at h
  split at h
  ·rename_i g' h1; cases h; exact AC.lk_ok (x:=x) h1
  ·cases h
 | row l =>
  unfold AR.lk at h
  simp only at h
  split at h
  ·rename_i gs h1; cases h
   exact exists_congr fun vs=>and_congr Iff.rfl (Qdx h1)
  ·cases h
theorem arsK_ok:∀{l:List AR} {gs:List FR} {vs:List Value},arsK L l=some gs→(okr (gT L) σ l vs w A↔okf gs vs w A)
 | [],gs,vs,h=>by cases h; cases vs<;>exact Iff.rfl
 | x :: l,gs,vs,h=>by
  unfold arsK at h
  split at h
  ·rename_i u r h1 h2
   cases h
   cases vs with
   | nil=>exact Iff.rfl
   | cons v vs=>exact and_congr (AR.lk_ok h1) (arsK_ok h2)
  ·cases h
theorem AV.lk_ok{x:AV}{g:FV}{v:Value}(h:x.lk L=some g):x.ok (gT L) σ v w A↔g.R v w A:=by
 cases x with
 | r x =>
  unfold AV.lk at h
  simp only at h
  split at h
  ·rename_i g' h1; cases h; exact AR.lk_ok (x:=x) h1
  ·cases h
 | tup l =>
  unfold AV.lk at h
  simp only at h
  split at h
  ·rename_i gs h1; cases h
   exact exists_congr fun vs=>and_congr Iff.rfl (arsK_ok h1)
  ·cases h
 | _=>cases h
end
section
variable{P:Program}{L:List GF}
def gs{hp' hp:Bool}{f:FuncId}{fa:List FR}{fr:FV}(h:Qah P hp' f fa fr)(args:List AR)(res:AV)(ha:arsK L args=some fa:=by kernel_rfl)(hr:res.lk L=some fr:=by kernel_rfl)(hh:(!hp' || hp)=true:=by rfl):GC P L hp :=
 ⟨{ f,args,res },h.ent,fun σ w A us hR hA hu _=>by
  have hR':hp'=true→Rcv A w:=fun e=>hR (by subst e; simpa using hh)
  exact(h.ok w A us hR' hA ((arsK_ok ha).1 hu)).mono fun r w' ⟨v,h1,h2,h3⟩=>⟨v,h1,(AV.lk_ok hr).2 h2,h3⟩⟩
theorem Qav{hp:Bool}{tys:List (TypeId×TyI)}(ht:∀ p∈tys,p.2.good P p.1=true)(hm:P.follows .mixedOrders=true)(C:List (GC P L hp))(B:List (GB P L))(O:List (GO P L)){f:FuncId}{fn:Func}(hf:P.funcs[f]?=some fn)(ent:Enters P f)(fuel:Nat)(args:List AR)(res:AV)
  {fa:List FR} {fr:FV} (hev:evF (gcx tys hp L C B O) fn fuel args res=true:=by kernel_rfl) (ha:arsK L args=some fa:=by kernel_rfl) (hr:res.lk L=some fr:=by kernel_rfl):Qah P hp f fa fr :=
 ⟨ent,fun w A vs hR hA hu=>(ev_gen ht hm C B O hf fuel args res hev w A vs hR hA ((arsK_ok ha).2 hu)).mono fun r w' ⟨v,h1,h2,h3⟩=>⟨v,h1,(AV.lk_ok hr).1 h2,h3⟩⟩
def gfV:List GF→Option (List Value)
 | []=>some []
 | g :: l=>match g.ex,gfV l with|some v,some vs=>some (v :: vs)|_,_=>none
def FR.val:FR→Option Value
 | .c g=>g.ex
 | .row l=>match gfV l with|some vs=>some (.agg vs.toArray)|none=>none
def frsV:List FR→Option (List Value)
 | []=>some []
 | x :: l=>match x.val,frsV l with|some v,some vs=>some (v :: vs)|_,_=>none
def FV.val:FV→Option Value
 | .r x=>x.val
 | .tup l=>match frsV l with|some vs=>some (.tuple vs.toArray)|none=>none
variable{w:World}{A:Nat→Prop}
theorem gfV_ok:∀{l:List GF} {us vs:List Value},gfV l=some us→(okg l vs w A↔vs=us)
 | [],us,vs,h=>by cases h; cases vs<;>simp[okg]
 | g :: l,us,vs,h=>by
  unfold gfV at h
  split at h
  ·rename_i u r h1 h2
   cases h
   cases vs with
   | nil=>simp[okg]
   | cons v vs=>simp only[okg,g.exact u h1,gfV_ok h2,List.cons.injEq]
  ·cases h
theorem FR.val_ok{x:FR}{u v:Value}(h:x.val=some u):x.R v w A↔v=u:=by
 cases x with
 | c g=>exact g.exact u h v w A
 | row l =>
  unfold FR.val at h
  simp only at h
  split at h
  ·rename_i vs h1
   cases h
   constructor
   ·rintro⟨us,rfl,h2⟩; rw[(gfV_ok h1).1 h2]
   ·rintro rfl; exact⟨_,rfl,(gfV_ok h1).2 rfl⟩
  ·cases h
theorem frsV_ok:∀{l:List FR} {us vs:List Value},frsV l=some us→(okf l vs w A↔vs=us)
 | [],us,vs,h=>by cases h; cases vs<;>simp[okf]
 | x :: l,us,vs,h=>by
  unfold frsV at h
  split at h
  ·rename_i u r h1 h2
   cases h
   cases vs with
   | nil=>simp[okf]
   | cons v vs=>simp only[okf,FR.val_ok h1,frsV_ok h2,List.cons.injEq]
  ·cases h
theorem FV.val_ok{x:FV}{u v:Value}(h:x.val=some u):x.R v w A↔v=u:=by
 cases x with
 | r x=>exact FR.val_ok (x:=x) h
 | tup l =>
  unfold FV.val at h
  simp only at h
  split at h
  ·rename_i vs h1
   cases h
   constructor
   ·rintro⟨us,rfl,h2⟩; rw[(frsV_ok h1).1 h2]
   ·rintro rfl; exact⟨_,rfl,(frsV_ok h1).2 rfl⟩
  ·cases h
theorem Qbd{f:FuncId}{vs:List Value}{v:Value}{fa:List FR}{fr:FV}(ent:Enters P f)(h:PureC P f vs v)(ha:frsV fa=some vs)(hr:fr.val=some v):Qah P false f fa fr :=
 ⟨ent,fun w A us _ _ hu=>by
  have e:us=vs:=(frsV_ok ha).1 hu
  subst e
  exact(h w).mono fun r w' h=>⟨v,h.1,(FV.val_ok hr).2 rfl,h.2⟩⟩
theorem Qah.pure{hp:Bool}{f:FuncId}{vs:List Value}{v:Value}{fa:List FR}{fr:FV}(h:Qah P hp f fa fr)(ha:frsV fa=some vs)(hr:fr.val=some v):PureC P f vs v:=fun w =>
 (h.ok w NoA vs (fun _=>rcv_none w) (fun _ h=>h.elim) ((frsV_ok ha).2 rfl)).mono fun r w' ⟨u,h1,h2,h3⟩=>⟨by rw[h1,(FV.val_ok hr).1 h2],h3⟩
theorem spec1{hp:Bool}{f:FuncId}{x:FR}{res:FV}(ent:Enters P f)(h:∀(w:World) (A:Nat→Prop) (u:Value),(hp=true→Rcv A w)→(∀ n,A n→n<w.heap.size)→x.R u w A→Calls P f #[u] w fun r w'=>∃ v,r=.returned v∧res.R v w' A∧Below w.heap.size w w'):Qah P hp f [x] res :=
 ⟨ent,fun w A us hR hA hu=>by
  match us,hu with
  | [u],hu=>exact h w A u hR hA hu.1⟩
theorem spec2{hp:Bool}{f:FuncId}{x y:FR}{res:FV}(ent:Enters P f)(h:∀(w:World) (A:Nat→Prop) (u v:Value),(hp=true→Rcv A w)→(∀ n,A n→n<w.heap.size)→x.R u w A→y.R v w A→Calls P f #[u,v] w fun r w'=>∃ v,r=.returned v∧res.R v w' A∧Below w.heap.size w w'):Qah P hp f [x,y] res :=
 ⟨ent,fun w A us hR hA hu=>by
  match us,hu with
  | [u,v],hu=>exact h w A u v hR hA hu.1 hu.2.1⟩
def sy(l:List Nat):AR:=.row (l.map .sym)
def rnC(bs:List Nat):AC→AC
 | .own b o=>.own (bs.getD b 0) o
 | .sl b o n c=>.sl (bs.getD b 0) o n c
 | .fn f a b=>.fn f (a.map fun k=>bs.getD k 0) (b.map fun k=>bs.getD k 0)
 | x=>x
def rnR(bs:List Nat):AR→AR
 | .c x=>.c (rnC bs x)
 | .row l=>.row (l.map (rnC bs))
def lowC(n:Nat):AC→Bool
 | .own b _|.sl b _ _ _=>decide (b<n)
 | .fn _ a b=>a.all (fun k=>decide (k<n)) && b.all (fun k=>decide (k<n))
 | .sg _ _ _=>false
 | _=>true
theorem ptrs_rn{σ σ':Sg}{bs:List Nat}(hσ:∀ k,k<bs.length→σ' k=σ (bs.getD k 0)):∀{l:List Nat} {us:List Value},l.all (fun k=>decide (k<bs.length))=true→ptrs σ (l.map fun k=>bs.getD k 0) us→ptrs σ' l us
 | [],[],_,_=>trivial
 | [],_ :: _,_,h=>h.elim
 | _ :: _,[],_,h=>h.elim
 | k :: l,u :: us,hl,h=>by
  simp only[List.all_cons,Bool.and_eq_true,decide_eq_true_eq] at hl
  obtain⟨⟨n,h1,h2⟩,h3⟩:=h
  exact⟨⟨n,(hσ k hl.1).trans h1,h2⟩,ptrs_rn hσ hl.2 h3⟩
theorem rnC_ok{T:Nat→Fact}{σ σ':Sg}{bs:List Nat}(hσ:∀ k,k<bs.length→σ' k=σ (bs.getD k 0)){x:AC}(hx:lowC bs.length x=true){v:Value}(h:(rnC bs x).ok T σ v w A):x.ok T σ' v w A:=by
 cases x with
 | sym i=>exact h
 | lit l=>exact h
 | own b o =>
  obtain⟨n,h1,h2⟩:=h
  exact⟨n,(hσ b (by simpa[lowC] using hx)).trans h1,h2⟩
 | sl b o n c =>
  obtain⟨m,h1,h2⟩:=h
  exact⟨m,(hσ b (by simpa[lowC] using hx)).trans h1,h2⟩
 | sg b o n=>cases hx
 | fn f a b =>
  simp only[lowC,Bool.and_eq_true] at hx
  obtain⟨us,vs,h1,h2,h3⟩:=h
  exact⟨us,vs,h1,ptrs_rn hσ hx.1 h2,ptrs_rn hσ hx.2 h3⟩
theorem rnCs_ok{T:Nat→Fact}{σ σ':Sg}{bs:List Nat}(hσ:∀ k,k<bs.length→σ' k=σ (bs.getD k 0)):∀{l:List AC} {vs:List Value},l.all (lowC bs.length)=true→oks T σ (l.map (rnC bs)) vs w A→oks T σ' l vs w A
 | [],[],_,_=>trivial
 | x :: l,v :: vs,hx,h=>by
  simp only[List.all_cons,Bool.and_eq_true] at hx
  exact⟨rnC_ok hσ hx.1 h.1,rnCs_ok hσ hx.2 h.2⟩
 | [],_ :: _,_,h=>h.elim
 | _ :: _,[],_,h=>h.elim
def lowR(n:Nat)(x:AR):Bool:=x.cells.all (lowC n)
theorem rnR_ok{T:Nat→Fact}{σ σ':Sg}{bs:List Nat}(hσ:∀ k,k<bs.length→σ' k=σ (bs.getD k 0)){x:AR}(hx:lowR bs.length x=true){v:Value}(h:(rnR bs x).ok T σ v w A):x.ok T σ' v w A:=by
 cases x with
 | c x=>exact rnC_ok (x:=x) hσ (by simpa[lowR,AR.cells] using hx) h
 | row l=>obtain⟨vs,e,h2⟩:=h; exact⟨vs,e,rnCs_ok hσ hx h2⟩
theorem rnRs_ok{T:Nat→Fact}{σ σ':Sg}{bs:List Nat}(hσ:∀ k,k<bs.length→σ' k=σ (bs.getD k 0)):∀{l:List AR} {vs:List Value},l.all (lowR bs.length)=true→okr T σ (l.map (rnR bs)) vs w A→okr T σ' l vs w A
 | [],[],_,_=>trivial
 | x :: l,v :: vs,hx,h=>by
  simp only[List.all_cons,Bool.and_eq_true] at hx
  exact⟨rnR_ok hσ hx.1 h.1,rnRs_ok hσ hx.2 h.2⟩
 | [],_ :: _,_,h=>h.elim
 | _ :: _,[],_,h=>h.elim
theorem needs_get{T:Nat→Fact}{σ:Sg}{f:AB→AB}:∀{abs:List AB} {bs:List Nat},bs.length=abs.length→needsP T σ w A (bs.zip (abs.map f))→∀ k ab,abs[k]?=some ab→∃ n vs,σ (bs.getD k 0)=some n∧A n∧w.heap[n]?=some (.cells vs.toArray (f ab).ty (0,0))∧oks T σ (f ab).cells vs w A
 | [],_,_,_,k,ab,h=>by simp at h
 | a :: abs,[],h,_,_,_,_=>by simp at h
 | a :: abs,b :: bs,hl,h,k,ab,hk=>by
  cases k with
  | zero =>
   simp only[List.getElem?_cons_zero,Option.some.injEq] at hk
   subst hk
   exact h.1
  | succ k=>exact needs_get (by simpa using hl) h.2 k ab (by simpa using hk)
def rnB(bs:List Nat)(ab:AB):AB:=⟨ab.cells.map (rnC bs),ab.ty,none⟩
end
def ga:GF where
 R:=fun v _ _=>v.oneCell'=true∧∀(k:Unit) (x:Int),v≠.int .u32 x
 int:=false
 keeps:=fun _ _ _ _ _ _ _ h=>h
 cell:=fun v w A h=>h.1
 noint:=fun _ v w A h=>h.2
 ex:=none
 exact:=fun u e=>by cases e
def gai:GF where
 R:=fun v _ _=>v.oneCell'=true
 int:=true
 keeps:=fun _ _ _ _ _ _ _ h=>h
 cell:=fun v w A h=>h
 noint:=fun e=>by cases e
 ex:=none
 exact:=fun u e=>by cases e
def GF.any(g:GF):GF:=if g.int then gai else ga
def FR.any:FR→FR|.c g=>.c g.any|.row l=>.row (l.map GF.any)
def FV.any:FV→FV|.r x=>.r x.any|.tup l=>.tup (l.map FR.any)
section
variable{w:World}{A:Nat→Prop}
theorem GF.any_ok{g:GF}{v:Value}(h:g.R v w A):g.any.R v w A:=by
 unfold GF.any
 cases hi:g.int
 ·exact⟨g.cell v w A h,g.noint hi v w A h⟩
 ·exact g.cell v w A h
theorem okg_any:∀{l:List GF} {vs:List Value},okg l vs w A→okg (l.map GF.any) vs w A
 | [],[],_=>trivial
 | g :: l,v :: vs,h=>⟨GF.any_ok h.1,okg_any h.2⟩
 | [],_ :: _,h=>h.elim
 | _ :: _,[],h=>h.elim
theorem FR.any_ok{x:FR}{v:Value}(h:x.R v w A):x.any.R v w A:=by
 cases x with
 | c g=>exact GF.any_ok (g:=g) h
 | row l=>obtain⟨vs,e,h⟩:=h; exact⟨vs,e,okg_any h⟩
theorem okf_any:∀{l:List FR} {vs:List Value},okf l vs w A→okf (l.map FR.any) vs w A
 | [],[],_=>trivial
 | g :: l,v :: vs,h=>⟨FR.any_ok h.1,okf_any h.2⟩
 | [],_ :: _,h=>h.elim
 | _ :: _,[],h=>h.elim
theorem FV.any_ok{x:FV}{v:Value}(h:x.R v w A):x.any.R v w A:=by
 cases x with
 | r x=>exact FR.any_ok (x:=x) h
 | tup l=>obtain⟨vs,e,h⟩:=h; exact⟨vs,e,okf_any h⟩
end
inductive FA where
 | f (x:FR)|sl (b off len cap:Nat)|own (b off:Nat)|fn (f:FuncId) (a b:List Nat)
def FA.R(σ:Sg):FA→Fact
 | .f x=>x.R
 | .sl b o n c=>fun v _ _=>∃ m,σ b=some m∧v=.slice (some ⟨m,o,none⟩) n c
 | .own b o=>fun v _ _=>∃ n,σ b=some n∧v=.pointer (some ⟨n,o,none⟩)
 | .fn g a b=>fun v _ _=>∃ us vs:List Value,v=.func (.func g) us.toArray vs.toArray∧ptrs σ a us∧ptrs σ b vs
def oka(σ:Sg):List FA→List Value→World→(Nat→Prop)→Prop
 | [],[],_,_=>True
 | x :: l,v :: vs,w,A=>x.R σ v w A∧oka σ l vs w A
 | _,_,_,_=>False
structure Qbk(P:Program)(hp:Bool)(f:FuncId)(bl:List (List GF×TypeId))(args:List FA)(res:FV):Prop where
 ent:Enters P f
 ok:∀(σ:Sg) (w:World) (A:Nat→Prop) (vs:List Value),(hp=true→Rcv A w)→(∀ n,A n→n<w.heap.size) →
  (∀ b gs ty,bl[b]?=some (gs,ty)→∃ n us,σ b=some n∧A n∧w.heap[n]?=some (.cells us.toArray ty (0,0))∧okg gs us w A)→(∀ b,bl.length≤b→σ b=none)→oka σ args vs w A →
  Calls P f vs.toArray w fun r w'=>∃ v,r=.returned v∧res.R v w' A∧Below w.heap.size w w'
section
variable{P:Program}{hp:Bool}{fi:FuncId}{bl:List (List GF×TypeId)}{a:List FA}{r s:FV}{c:Prop}[Decidable c]
theorem Qbk.it(h:c)(k:Qbk P hp fi bl a r):Qbk P hp fi bl a (if c then r else s):=by rw[if_pos h]; exact k
theorem Qbk.ie(h:¬c)(k:Qbk P hp fi bl a s):Qbk P hp fi bl a (if c then r else s):=by rw[if_neg h]; exact k
theorem Qbk.t(k:Qbk P hp fi bl a (if c then r else s))(h:c):Qbk P hp fi bl a r:=by rw[if_pos h] at k; exact k
theorem Qbk.f(k:Qbk P hp fi bl a (if c then r else s))(h:¬c):Qbk P hp fi bl a s:=by rw[if_neg h] at k; exact k
end
def AR.la(L:List GF):AR→Option FA
 | .c (.own b o)=>some (.own b o)
 | .c (.sl b o n k)=>some (.sl b o n k)
 | .c (.fn f a b)=>some (.fn f a b)
 | x=>match x.lk L with|some g=>some (.f g)|none=>none
def arsL(L:List GF):List AR→Option (List FA)
 | []=>some []
 | x :: l=>match x.la L,arsL L l with|some v,some vs=>some (v :: vs)|_,_=>none
def absK(L:List GF):List AB→Option (List (List GF×TypeId))
 | []=>some []
 | x :: l=>match acsK L x.cells,absK L l with|some v,some vs=>some ((v,x.ty) :: vs)|_,_=>none
section
variable{L:List GF}{σ:Sg}{w:World}{A:Nat→Prop}
theorem AR.la_ok{x:AR}{g:FA}{v:Value}(h:x.la L=some g):x.ok (gT L) σ v w A↔g.R σ v w A:=by
 unfold AR.la at h
 split at h
 ·cases h; exact Iff.rfl
 ·cases h; exact Iff.rfl
 ·cases h; exact Iff.rfl
 ·split at h
  ·rename_i g' h1; cases h; exact AR.lk_ok h1
  ·cases h
theorem arsL_ok:∀{l:List AR} {gs:List FA} {vs:List Value},arsL L l=some gs→(okr (gT L) σ l vs w A↔oka σ gs vs w A)
 | [],gs,vs,h=>by cases h; cases vs<;>exact Iff.rfl
 | x :: l,gs,vs,h=>by
  unfold arsL at h
  split at h
  ·rename_i u r h1 h2
   cases h
   cases vs with
   | nil=>exact Iff.rfl
   | cons v vs=>exact and_congr (AR.la_ok h1) (arsL_ok h2)
  ·cases h
theorem absK_get:∀{l:List AB} {bl:List (List GF×TypeId)},absK L l=some bl→l.length=bl.length∧∀(b:Nat) (ab:AB),l[b]?=some ab→∃ gs,bl[b]?=some (gs,ab.ty)∧acsK L ab.cells=some gs
 | [],bl,h=>by cases h; exact⟨rfl,fun b ab h=>by simp at h⟩
 | x :: l,bl,h=>by
  unfold absK at h
  split at h
  ·rename_i u r h1 h2
   cases h
   obtain⟨e,k⟩:=absK_get h2
   refine⟨by simp[e],fun b ab hb=>?_⟩
   cases b with
   | zero=>simp only[List.getElem?_cons_zero,Option.some.injEq] at hb; subst hb; exact⟨u,by simp,h1⟩
   | succ b=>simp only[List.getElem?_cons_succ] at hb ⊢; exact k b ab hb
  ·cases h
end
section
variable{P:Program}{L:List GF}
theorem ev_sm{hp:Bool}{tys:List (TypeId×TyI)}(ht:∀ p∈tys,p.2.good P p.1=true)(hm:P.follows .mixedOrders=true)(C:List (GC P L hp))(B:List (GB P L))(O:List (GO P L)){f:FuncId}{fn:Func}(hf:P.funcs[f]?=some fn)(ent:Enters P f)(fuel:Nat)(abs:List AB)(args:List AR)(res:AV)
  {bl:List (List GF×TypeId)} {fa:List FA} {fr:FV} (hev:evL (gcx tys hp L C B O) fn fuel abs args res=true:=by kernel_rfl) (hb:absK L abs=some bl:=by kernel_rfl) (ha:arsL L args=some fa:=by kernel_rfl) (hr:res.lk L=some fr:=by kernel_rfl):Qbk P hp f bl fa fr :=
 ⟨ent,fun σ w A vs hR hA hbl hbey hu=>by
  obtain⟨hl,hg⟩:=absK_get hb
  have hnr:res.noown=true:=by
   have:=hev
   unfold evL at this
   simp only[Bool.and_eq_true] at this
   exact this.1.1
  refine(ev_lent (gcx_ok ht C B O) hm hf fuel hev (fun k hk=>by cases hk) (fun c _ x _ k hk=>by cases hk) σ w A vs hR hA ((arsL_ok ha).2 hu) (fun b ab h=>?_) (fun b h=>hbey b (by omega))).mono fun r w' ⟨v,h1,h2,h3⟩=>⟨v,h1,(AV.lk_ok hr).1 h2,h3⟩
  obtain⟨gs,h1,h2⟩:=hg b ab h
  obtain⟨n,us,k1,k2,k3,k4⟩:=hbl b gs ab.ty h1
  exact⟨n,us,k1,k2,k3,(Qdx h2).2 k4⟩⟩
def gsm{hp' hp:Bool}{f:FuncId}{bl:List (List GF×TypeId)}{fa:List FA}{fr:FV}(h:Qbk P hp' f bl fa fr)(bs:List Nat)(abs:List AB)(args:List AR)(res:AV)
  (hb:absK L abs=some bl:=by kernel_rfl) (ha:arsL L args=some fa:=by kernel_rfl) (hr:res.lk L=some fr:=by kernel_rfl) (hc:(bs.length == abs.length && args.all (lowR bs.length) && abs.all (fun ab=>ab.cells.all (lowC bs.length)) && res.noown && (!hp' || hp))=true:=by kernel_rfl):GC P L hp :=
 ⟨{ f,args:=args.map (rnR bs),res,needs:=bs.zip (abs.map (rnB bs)) },h.ent,fun σ w A us hR hA hu hn=>by
  simp only[Bool.and_eq_true,beq_iff_eq] at hc
  obtain⟨⟨⟨⟨hl,hla⟩,hlb⟩,hnr⟩,hh⟩:=hc
  obtain⟨hlen,hg⟩:=absK_get hb
  let σ':Sg:=⟨fun k=>if k<bs.length then σ (bs.getD k 0) else none,fun _=>0⟩
  have hσ:∀ k,k<bs.length→σ' k=σ (bs.getD k 0):=fun k h=>if_pos h
  refine(h.ok σ' w A us (fun e=>hR (by subst e; simpa using hh)) hA (fun b gs ty hb'=>?_) (fun k hk=>if_neg (by omega)) ((arsL_ok ha).1 (rnRs_ok hσ hla hu))).mono fun r w' ⟨v,h1,h2,h3⟩=>⟨v,h1,AV.ok_noown hnr ((AV.lk_ok (σ:=σ') hr).2 h2),h3⟩
  have hlt:b<abs.length:=by rw[hlen]; exact(List.getElem?_eq_some_iff.1 hb').1
  obtain⟨ab,hab⟩:∃ ab,abs[b]?=some ab:=⟨_,List.getElem?_eq_getElem hlt⟩
  obtain⟨gs',h1,h2⟩:=hg b ab hab
  rw[hb'] at h1; cases h1
  obtain⟨n,vs,k1,k2,k3,k4⟩:=needs_get hl hn b ab hab
  exact⟨n,vs,(hσ b (by omega)).trans k1,k2,k3,(Qdx h2).1 (rnCs_ok hσ (List.all_eq_true.1 hlb ab (List.mem_of_getElem? hab)) k4)⟩⟩
end
end Tr
namespace Go.Proofs.YtmimficdpfmfgaaGreat
open Go.RowKit Tr
theorem tI{p:Prop}(h:p):true=true↔p:=⟨fun _=>h,fun _=>rfl⟩
theorem fI{p:Prop}(h:¬p):false=true↔p:=⟨fun e=>(by cases e),fun e=>absurd e h⟩
def gr(q:Rat):GF where
 R:=RatP q
 int:=false
 keeps:=RatP.keeps q
 cell:=fun v w A h=>by obtain⟨b,rfl,_⟩:=h; rfl
 noint:=fun _ v w A h k x=>by obtain⟨b,rfl,_⟩:=h; simp
 ex:=none
 exact:=fun u e=>by cases e
def gro(q:Rat):GF where
 R:=RatO q
 int:=false
 keeps:=RatO.keeps q
 cell:=fun v w A h=>by rcases h with⟨rfl,_⟩|⟨b,rfl,_⟩<;>rfl
 noint:=fun _ v w A h k x=>by rcases h with⟨rfl,_⟩|⟨b,rfl,_⟩<;>simp
 ex:=none
 exact:=fun u e=>by cases e
def rF(q:Rat):List GF:=[gx (.bool (decide (q.num<0))),gx (.string (strN q.num.natAbs)),gx (.bool false),gx (.string (strN q.den))]
def rG(z:QC):List GF:=rF z.re++rF z.im
def cq(z:QC):List GF:=[gr z.re,gr z.im]
def cn(z:QC):List GF:=[gro z.re,gro z.im]
section
variable{w:World}{A:Nat→Prop}{v:Value}
theorem Qds{g:GF}{l:List GF}{vs:List Value}:okg (g :: l) vs w A↔∃ u us,vs=u :: us∧g.R u w A∧okg l us w A:=by
 cases vs with
 | nil=>exact⟨fun h=>h.elim,fun⟨_,_,e,_⟩=>by cases e⟩
 | cons u us=>exact⟨fun h=>⟨u,us,rfl,h.1,h.2⟩,fun⟨_,_,e,h⟩=>by cases e; exact h⟩
theorem okg_nil{vs:List Value}:okg [] vs w A↔vs=[]:=by
 cases vs with
 | nil=>exact⟨fun _=>rfl,fun _=>trivial⟩
 | cons u us=>exact⟨fun h=>h.elim,fun e=>by cases e⟩
theorem Qcf{z:QC}:(FR.row (cn z)).R v w A↔NumO z.re z.im v w A:=by
 constructor
 ·rintro⟨vs,rfl,h⟩
  obtain⟨u1,_,rfl,h1,h⟩:=Qds.1 h
  obtain⟨u2,_,rfl,h2,h⟩:=Qds.1 h
  cases okg_nil.1 h
  exact⟨u1,u2,rfl,h1,h2⟩
 ·rintro⟨u1,u2,rfl,h1,h2⟩
  exact⟨[u1,u2],rfl,h1,h2,trivial⟩
end
def Qcc.Sz(g:Qcc):Prop:=g.s1.size≤1000000000∧g.s2.size≤1000000000∧g.s3.size≤1000000000∧g.s4.size≤1000000000
def RawP.Sz(p:RawP):Prop:=p.g.Sz
def flA(l:List (List AC)):List AC:=l.flatten
def zFA:List AC:=[.lit (.bool false),.lit .str0,.lit (.bool false),.lit .str0]
def zGA:List AC:=zFA++zFA
def gR(n:Nat):List AC:=[.sym n,.sym (n+1),.lit (.bool false),.sym (n+2),.sym (n+3),.sym (n+4),.lit (.bool false),.sym (n+5)]
def gL:List Nat→List AC
 | []=>[]
 | n :: l=>gR n++gL l
def zFG:List GF:=[gl (.bool false),gl .str0,gl (.bool false),gl .str0]
def zGG:List GF:=zFG++zFG
def B1(b:Bool):FV:=.r (.c (gx (.bool b)))
theorem pGInt(i j:Int)(a1:-9223372036854775808≤i)(a2:i<9223372036854775808)(b1:-9223372036854775808≤j)(b2:j<9223372036854775808):Qah Tryz.prog false 73 [.c (gx (.int .i64 i)),.c (gx (.int .i64 j))] (.r (.row (Qae ⟨(i:Rat),(j:Rat)⟩).cells)) :=
 Qbd eo73 (vs:=[.int .i64 i,.int .i64 j]) (v:=encG (i:Rat) (j:Rat)) (fun w=>GInt_any i j a1 a2 b1 b2 w) (by kernel_rfl) (by kernel_rfl)
def bI{P:Program}{L:List GF}(op:BinOp)(t:TypeId)(x y:AC)(a b:Int)(c:Bool)(h:cmpB op a b=some c)(hx:x.gv L=some (.int .i64 a):=by kernel_rfl)(hy:y.gv L=some (.int .i64 b):=by kernel_rfl):GB P L:=gbInt op t .i64 x y a b c h hx hy
section
variable{L:List GF}
def bG(x y:AR)(g h:Qcc)(r:Bool)(hr:r=true↔g=h)(hx:x.gv L=some g.val:=by kernel_rfl)(hy:y.gv L=some h.val:=by kernel_rfl):GB Tryz.prog L :=
 gb .eql 28 x y (.lit (.bool r)) (agg_eql (by kernel_rfl) (fun w=>run_eql_rg w g h r (by rw[hr]; exact⟨fun e=>by rw[e],rawG_inj⟩))) hx hy rfl
def bP(x y:AR)(p q:RawP)(r:Bool)(hr:r=true↔p=q)(hx:x.gv L=some p.val:=by kernel_rfl)(hy:y.gv L=some q.val:=by kernel_rfl):GB Tryz.prog L :=
 gb .eql 81 x y (.lit (.bool r)) (agg_eql (by kernel_rfl) (fun w=>run_eql_rp w p q r (by rw[hr]; exact⟨fun e=>by rw[e],rawP_inj⟩))) hx hy rfl
end
theorem shortF_lt{q:Rat}(h1:q.num.natAbs<256 ^ 1024)(h2:q.den<256 ^ 1024):Qam q:=⟨by rw[size_strN]; exact byteLE_le h1,by rw[size_strN]; exact byteLE_le h2⟩
theorem Qau{z:QC}(h:(z.re.num.natAbs<256 ^ 1024∧z.re.den<256 ^ 1024)∧z.im.num.natAbs<256 ^ 1024∧z.im.den<256 ^ 1024):Qaf z:=⟨shortF_lt h.1.1 h.1.2,shortF_lt h.2.1 h.2.2⟩
theorem sz_short{z:QC}(h:Qaf z):(Qae z).Sz:=by
 obtain⟨⟨h1,h2⟩,h3,h4⟩:=h
 exact⟨Nat.le_trans h1 (by decide),Nat.le_trans h2 (by decide),Nat.le_trans h3 (by decide),Nat.le_trans h4 (by decide)⟩
theorem Qbp{z w:QC}:Qae z=Qae w↔z=w:=⟨fun h=>encQ_inj' (by rw[←Qeg,←Qeg,h]),fun h=>by rw[h]⟩
end Go.Proofs.YtmimficdpfmfgaaGreat
namespace Go.Proofs.YtmimficdpfmfgaaGreat
open Go.RowKit Tr
def G1(z:QC):FR:=.row (rG z)
theorem Qck(g:Qcc)(r:Bool)(hr:r=true↔GOk g.val):Qah Tryz.prog false 87 [.row g.cells] (B1 r):=Qbd eo87 (gmay g r hr) (by kernel_rfl) (by kernel_rfl)
theorem rZero(z:QC)(r:Bool)(hr:r=true↔z=⟨0,0⟩):Qah Tryz.prog false 90 [G1 z] (B1 r):=Qbd eo90 (gzero z r hr) (by kernel_rfl) (by kernel_rfl)
theorem rInt(a b:Int)(a1:-9223372036854775808≤a)(a2:a<9223372036854775808)(b1:-9223372036854775808≤b)(b2:b<9223372036854775808):Qah Tryz.prog false 84 [.c (gx (.int .i64 a)),.c (gx (.int .i64 b))] (.r (G1 ⟨(a:Rat),(b:Rat)⟩)):=Qbd eo84 (gint a b a1 a2 b1 b2) (by kernel_rfl) (by kernel_rfl)
theorem rTimes(x y:QC)(hx:ZL x 33554432)(hy:ZL y 33554432):Qah Tryz.prog false 182 [G1 x,G1 y] (.r (G1 (x*y))):=Qbd eo182 (gtimes x y hx hy) (by kernel_rfl) (by kernel_rfl)
theorem rPlus(x y:QC)(hx:ZL x 134217728)(hy:ZL y 134217728):Qah Tryz.prog false 183 [G1 x,G1 y] (.r (G1 (x+y))):=Qbd eo183 (gplus x y hx hy) (by kernel_rfl) (by kernel_rfl)
theorem rMinus(x y:QC)(hx:ZL x 134217728)(hy:ZL y 134217728):Qah Tryz.prog false 134 [G1 x,G1 y] (.r (G1 (x - y))):=Qbd eo134 (gminus x y hx hy) (by kernel_rfl) (by kernel_rfl)
def Sz(s:ByteArray):Int:=(s.size:Nat)
def lS{L:List GF}(x:AC)(s:ByteArray)(res:AC)(hn:x.noown=true:=by kernel_rfl)(hx:x.gv L=some (.string s):=by kernel_rfl)(hr:res.gv L=some (.int .i64 (Sz s)):=by kernel_rfl):GO Tryz.prog L :=
 goLenS 9 Tryz.underlying9 x s res hn hx hr
def gtY{P:Program}{L:List GF}(t:TypeId)(x y:AC)(a b:Int)(h:a>b)(hx:x.gv L=some (.int .i64 a):=by kernel_rfl)(hy:y.gv L=some (.int .i64 b):=by kernel_rfl):GB P L:=gbInt .gtr t .i64 x y a b true (congrArg some (decide_eq_true h)) hx hy
def gtN{P:Program}{L:List GF}(t:TypeId)(x y:AC)(a b:Int)(h:¬a>b)(hx:x.gv L=some (.int .i64 a):=by kernel_rfl)(hy:y.gv L=some (.int .i64 b):=by kernel_rfl):GB P L:=gbInt .gtr t .i64 x y a b false (congrArg some (decide_eq_false h)) hx hy
theorem RatO.shape{q:Rat}{v:Value}{w:World}{A:Nat→Prop}(h:RatO q v w A):∃ p,v=.pointer p:=by
 rcases h with⟨rfl,_⟩|h
 ·exact⟨none,rfl⟩
 ·obtain⟨m,rfl⟩:=h.shape
  exact⟨_,rfl⟩
theorem put_numO{a b:Rat}{v1 v2:Value}{w w1:World}{A:Nat→Prop}{n:Nat}(hb:Below w.heap.size w w1)(h1:RatO a v1 w1 (Mo A n))(h2:RatO b v2 w1 (Mo A n))(hn:w.heap.size≤n) :
  ∃ u,Ending.returned (.agg #[v1,v2])=.returned u∧Below w.heap.size w ((w1.setCell ⟨n,0,none⟩ v1).setCell ⟨n,1,none⟩ v2)∧NumO a b u ((w1.setCell ⟨n,0,none⟩ v1).setCell ⟨n,1,none⟩ v2) A:=by
 refine⟨_,rfl,(hb.setCell (p:=⟨n,0,none⟩) hn _).setCell (p:=⟨n,1,none⟩) hn _,v1,v2,rfl,?_,?_⟩
 ·exact more_less _ (RatO.keeps a) (keep_set _ (RatO.keeps a) (keep_set _ (RatO.keeps a) h1))
 ·exact more_less _ (RatO.keeps b) (keep_set _ (RatO.keeps b) (keep_set _ (RatO.keeps b) h2))
set_option maxRecDepth 100000 in
theorem NDiv_any(a b c d n:Rat)(hn:n=c*c+d*d)(hn0:n≠0)(v v':Value)(A:Nat→Prop)(w:World)(hv:NumO a b v w A)(hv':NumO c d v' w A)(hA:Rcv A w)(k l:Nat)(hla:RL a k)(hlb:RL b k)(hlc:RL c l)(hld:RL d l)(hkl:(k+l+(k+l)+1)+(l+l+(l+l)+1)<137438953472) :
  Calls Tryz.prog 175 #[v,v'] w fun e w'=>∃ u,e=.returned u∧Below w.heap.size w w'∧NumO ((a*c - b*(-d))*n⁻¹) ((a*(-d)+b*c)*n⁻¹) u w' A:=by
 have hv0:=new_more (NumO.keeps a b) (n:=w.heap.size+2) br (by omega) hv
 have hv0':=new_more (NumO.keeps c d) (n:=w.heap.size+2) br (by omega) hv'
 obtain⟨u1,u2,rfl,h1,h2⟩:=hv
 obtain⟨u3,u4,rfl,h3,h4⟩:=hv'
 clear h1 h2 h3 h4
 obtain⟨W,HV,hs1,hs2,e0,e1,e2,e3⟩:=box_two w u1 u2 u3 u4 A hA
 have hx:=Fact.Keeps.below (FactU.keeps (NumO.keeps a b)) HV.out.2.1 hv0
 have hy:=Fact.Keeps.below (FactU.keeps (NumO.keeps c d)) HV.out.2.1 hv0'
 have HN:=Lib.hid (And.intro hn hn0)
 clear hA hv0 hv0' hn hn0
 have lm1:RL (a*c - b*(-d)) (k+l+(k+l)+1):=RL_sub (RL_mul hla hlc) (RL_mul hlb (RL_neg hld))
 have lm2:RL (a*(-d)+b*c) (k+l+(k+l)+1):=RL_add (RL_mul hla (RL_neg hld)) (RL_mul hlb hlc)
 have ln:RL n (l+l+(l+l)+1):=by rw[HN.out.1]; exact RL_add (RL_mul hlc hlc) (RL_mul hld hld)
 have li:RL n⁻¹ (l+l+(l+l)+1):=RL_inv HN.out.2 ln
 go_enter Tryz.func175,Tryz.ntmps175
 go_wp2_with fail
 rw[←HV.out.1]
 refine wp_region_inv [(.lit,[]),(.lit,[]),(.val,[]),(.val,[2]),(.new zR,[]),(.lit,[]),(.val,[]),(.on 4 zR,[6]),(.val,[3,7])]
  (pickF [(2,FactU (Mo A (w.heap.size+2)) (NumO c (-d))),(3,FactU (Mo A (w.heap.size+2)) (NumO (a*c - b*(-d)) (a*(-d)+b*c))),(6,FactU (Mo A (w.heap.size+2)) (RatP n)),(7,FactU (Mo A (w.heap.size+2)) (RatP n⁻¹)),(8,FactU (Mo A (w.heap.size+2)) (NumO ((a*c - b*(-d))*n⁻¹) ((a*(-d)+b*c)*n⁻¹)))]) (by kernel_rfl) ?_ ?_ (by simp[noW_zRat]) (by simp) (by kernel_rfl)
 ·exact keeps_pick (by simp only[List.mem_cons,List.not_mem_nil,or_false]; rintro p (rfl|rfl|rfl|rfl|rfl)<;>first|exact FactU.keeps (RatP.keeps _)|exact FactU.keeps (NumO.keeps _ _))
 ·refine⟨_,fun f w1 h1=>by(have d0:=ct h1 hs1 e0; have d1:=ct h1 hs1 e1; have d2:=ct h1 hs2 e2; have d3:=ct h1 hs2 e3; go_simp; rfl),?_⟩
  refine⟨_,fun f w1 h1=>by(have d0:=ct h1 hs1 e0; have d1:=ct h1 hs1 e1; have d2:=ct h1 hs2 e2; have d3:=ct h1 hs2 e3; go_simp; rfl),?_⟩
  simp only[Act.put,nrA,nrB,nrC,Nat.reduceAdd]
  refine⟨fun f w1 A1 k1 hA hN hd K hK=>by
   go_simp
   refine(NConj_any c d _ (Un (Mo A (w.heap.size+2)) A1) w1 (later (FactU.keeps (NumO.keeps _ _)) hy k1 hN) (rcv_un (HV.out.2.2.1.below (br.drew.trans k1)) hA) (hld.mono (by omega))).mono ?_
   rintro e w' ⟨v,rfl,hb,hr⟩
   exact hK _ _ hb hr,?_⟩
  simp only[Act.put,nrA,nrB,nrC,Nat.reduceAdd]
  refine⟨fun f w1 A1 k1 hA hN hd K hK=>by
   have i2:NumO c (-d) (f 2) w1 (Un (Mo A (w.heap.size+2)) A1):=hd 2 (by simp)
   go_simp
   refine(NMul_any a b c (-d) _ _ (Un (Mo A (w.heap.size+2)) A1) w1 (later (FactU.keeps (NumO.keeps _ _)) hx k1 hN) i2 (rcv_un (HV.out.2.2.1.below (br.drew.trans k1)) hA) k l hla hlb hlc (RL_neg hld) (by omega)).mono ?_
   rintro e w' ⟨v,rfl,hb,hr⟩
   exact hK _ _ hb hr,?_⟩
  refine⟨fun f w1=>by go_simp,?_⟩
  refine⟨_,fun f w1 h1=>by(have d0:=ct h1 hs1 e0; have d1:=ct h1 hs1 e1; have d2:=ct h1 hs2 e2; have d3:=ct h1 hs2 e3; go_simp; rfl),?_⟩
  simp only[Act.put,nrA,nrB,nrC,Nat.reduceAdd]
  refine⟨fun f w1 A1 k1 hA hN hd K hK=>by
   go_simp
   refine(NNorm_any c d _ (Un (Mo A (w.heap.size+2)) A1) w1 (later (FactU.keeps (NumO.keeps _ _)) hy k1 hN) (rcv_un (HV.out.2.2.1.below (br.drew.trans k1)) hA) l hlc hld (by omega)).mono ?_
   rintro e w' ⟨v,rfl,hb,hr⟩
   rw[←HN.out.1] at hr
   exact hK _ _ hb hr,?_⟩
  simp only[Act.put,nrA,nrB,nrC,Nat.reduceAdd]
  refine⟨fun f w1 A1 m1 k1 hA hN hAm hm0 e hz hd K hK=>by
   simp only[e] at hK ⊢
   have i6:RatP n (f 6) w1 (Un (Mo A (w.heap.size+2)) A1):=hd 6 (by simp)
   go_simp
   refine(RInv_any m1 _ n HN.out.2 _ _ w1 hz (by decide) noW_zRat i6 _ ln (by omega)).mono ?_
   rintro e w' ⟨rfl,hp⟩
   exact hK _ w' hp.1 (hp.ratU (HV.out.2.2.1.below (br.drew.trans k1)) hA hm0 (fun b hb=>HV.out.2.2.1.lt hb)),?_⟩
  simp only[Act.put,nrA,nrB,nrC,Nat.reduceAdd]
  refine⟨fun f w1 A1 k1 hA hN hd K hK=>by
   have i3:NumO (a*c - b*(-d)) (a*(-d)+b*c) (f 3) w1 (Un (Mo A (w.heap.size+2)) A1):=hd 3 (by simp)
   have i7:RatP n⁻¹ (f 7) w1 (Un (Mo A (w.heap.size+2)) A1):=hd 7 (by simp)
   go_simp
   refine(NScale_any _ _ _ _ _ (Un (Mo A (w.heap.size+2)) A1) w1 i3 (.inr i7) (rcv_un (HV.out.2.2.1.below (br.drew.trans k1)) hA) _ _ lm1 lm2 li hkl).mono ?_
   rintro e w' ⟨v,rfl,hb,hr⟩
   exact hK _ _ hb hr,?_⟩
  intro f w1 k1 hF
  have i8:NumO ((a*c - b*(-d))*n⁻¹) ((a*(-d)+b*c)*n⁻¹) (f 8) w1 (Mo A (w.heap.size+2)):=FactU.done (NumO.keeps _ _) hF.2
  clear hF
  simp only[Act.put,nrA,nrB,nrC]
  generalize f 2=x2
  generalize f 3=x3
  generalize f 6=x6
  generalize f 7=x7
  generalize f 8=x8 at *
  obtain⟨y1,y2,rfl,j1,j2⟩:=i8
  have hb1:Below W.heap.size W w1:=br.drew.trans k1
  obtain⟨c0,c1,f0,f1⟩:=HV.out.2.2.2 w1 hb1
  have HE:=Lib.hid (And.intro j1 (And.intro j2 (HV.out.2.1.trans (hb1.mono HV.out.2.1.size))))
  obtain⟨m1,rfl⟩:=j1.shape
  obtain⟨m2,rfl⟩:=j2.shape
  clear e0 e1 e2 e3 j1 j2 hb1 k1 hx hy lm1 lm2 ln li
  go_wp2_with fail
  refine bodyPost_ret (v:=.agg #[.pointer m1,.pointer m2]) (by simp[results,Tryz.results175,go_sem,c0,c1]) rfl ?_
  exact put_numO HE.out.2.2 HE.out.1 HE.out.2.1 (by omega)
set_option maxRecDepth 100000 in
theorem NTold_any(a b:Rat)(v:Value)(A:Nat→Prop)(w:World)(hv:NumO a b v w A)(hla:RL a 137438953472)(hlb:RL b 137438953472) :
  Calls Tryz.prog 105 #[v] w fun e w'=>e=.returned (.tuple #[outG a b,.int .i64 (outGC a b)])∧Below w.heap.size w w':=by
 obtain⟨u1,u2,rfl,h1,h2⟩:=hv
 obtain⟨b1,t1,b2,t2,ea⟩:=outF_four a
 obtain⟨b3,t3,b4,t4,eb⟩:=outF_four b
 obtain⟨k1,hk1⟩:∃ k1,k1=outC a:=⟨_,rfl⟩
 obtain⟨k2,hk2⟩:∃ k2,k2=outC b:=⟨_,rfl⟩
 obtain⟨W0,hW0⟩:∃ W0,W0=w.alloc (.cells #[u1,u2] 116):=⟨_,rfl⟩
 have hz0:W0.heap.size=w.heap.size+1:=by rw[hW0]; simp
 obtain⟨W,hW⟩:∃ W,W=W0.alloc (.cells #[.bool false,.string ⟨#[]⟩,.bool false,.string ⟨#[]⟩,.bool false,.string ⟨#[]⟩,.bool false,.string ⟨#[]⟩] 28):=⟨_,rfl⟩
 have hb0:Below w.heap.size w W0:=by rw[hW0]; exact br.alloc (Nat.le_refl _) _
 have hb1:Below W0.heap.size W0 W:=by rw[hW]; exact br.alloc (Nat.le_refl _) _
 have hb:=hb0.trans (hb1.mono hb0.size)
 obtain⟨e0,e1,_⟩:=new_two w u1 u2 116 (w1:=W) (by rw[←hW0]; exact hb1)
 have hlt:w.heap.size<W.heap.size:=by have:=hb1.size; omega
 have H1:=Lib.hid (EFrac_any a u1 A W (h1.below hb) hla)
 have H2:=Lib.hid (fun w' (h:Below W.heap.size W w')=>EFrac_any b u2 A w' ((h2.below hb).below h) hlb)
 rw[ea,←hk1] at H1
 rw[eb,←hk2] at H2
 have HK:=Lib.hid (And.intro (show k1=0↔Qam a by rw[hk1]; exact outC_zero) (And.intro (show k2=0↔Qam b by rw[hk2]; exact outC_zero) (And.intro ea eb)))
 have HV:=Lib.hid (And.intro (hW.trans (by rw[hW0])) (And.intro hb (fun w1 (h:Below W.heap.size W w1)=>And.intro (new_eight W0 _ _ _ _ _ _ _ _ _ (w1:=w1) (by rw[←hW]; exact h)) (frozen_eight W0 _ _ _ _ _ _ _ _ _ (w1:=w1) (by rw[←hW]; exact h)))))
 rw[hz0] at HV
 clear hk1 hk2 ea eb hW hW0 hz0 hb hb0 hb1 h1 h2
 go_enter Tryz.func105,Tryz.ntmps105
 go_wp2_with fail
 rw[←HV.out.1]
 refine H1.out.mono ?_
 rintro e w1 ⟨rfl,hb1⟩
 have e0:=(hb1.cell (p:=⟨w.heap.size,0,none⟩) hlt).trans e0
 have e1:=(hb1.cell (p:=⟨w.heap.size,1,none⟩) hlt).trans e1
 have hlt1:w.heap.size<w1.heap.size:=Nat.lt_of_lt_of_le hlt hb1.size
 have HB1:=Lib.hid hb1
 clear hb1
 go_wp2_with fail
 have hal:=(Below.refl w1.heap.size w1).alloc (Nat.le_refl _) (.cells #[.bool b1,.string t1,.bool b2,.string t2] 26)
 refine(H2.out _ (HB1.out.trans (hal.mono HB1.out.size))).mono ?_
 rintro e w3 ⟨rfl,hb3⟩
 obtain⟨g0,g1,g2,g3,_⟩:=new_four w1 _ _ _ _ _ hb3
 have hb13:=hal.trans (hb3.mono hal.size)
 have hbW3:=HB1.out.trans (hb13.mono HB1.out.size)
 obtain⟨⟨c0,c1,c2,c3,c4,c5,c6,c7⟩,f0,f1,f2,f3,f4,f5,f6,f7⟩:=HV.out.2.2 w3 hbW3
 have hne:w1.heap.size<w3.heap.size:=by have:=hb3.size; simp at this; omega
 have hn2:w.heap.size+1<w3.heap.size:=by omega
 have hF:=HV.out.2.1.trans (hbW3.mono HV.out.2.1.size)
 have HF:=Lib.hid hF
 have HO:=Lib.hid (fun(h:¬(Qam a∧Qam b))=>show zG=outG a b∧(4:Int)=outGC a b by unfold outG outGC; rw[if_neg h,if_neg h]; exact⟨rfl,rfl⟩)
 clear e0 e1 hb3 hal hb13 hbW3 hF H1 H2
 by_cases x1:k1=0
 ·by_cases x2:k2=0
  ·have HG:=Lib.hid (And.intro (outG_of (HK.out.1.1 x1) (HK.out.2.1.1 x2) HK.out.2.2.1 HK.out.2.2.2) (show outGC a b=0 by unfold outGC; rw[if_pos ⟨HK.out.1.1 x1,HK.out.2.1.1 x2⟩]))
   subst x1 x2
   go_wp2_with fail
   refine bodyPost_ret (v:=.tuple #[.agg #[.bool b1,.string t1,.bool b2,.string t2,.bool b3,.string t3,.bool b4,.string t4],.int .i64 0]) (by simp[results,Tryz.results105,go_sem,c0,c1,c2,c3,c4,c5,c6,c7,hn2,Qef]) rfl ⟨by rw[HG.out.1,HG.out.2],?_⟩
   exact Below.alloc ((((((((HF.out.setCell (p:=⟨w.heap.size+1,0,none⟩) (Nat.le_succ _) _).setCell (p:=⟨w.heap.size+1,1,none⟩) (Nat.le_succ _) _).setCell (p:=⟨w.heap.size+1,2,none⟩) (Nat.le_succ _) _).setCell (p:=⟨w.heap.size+1,3,none⟩) (Nat.le_succ _) _).setCell (p:=⟨w.heap.size+1,4,none⟩) (Nat.le_succ _) _).setCell (p:=⟨w.heap.size+1,5,none⟩) (Nat.le_succ _) _).setCell (p:=⟨w.heap.size+1,6,none⟩) (Nat.le_succ _) _).setCell (p:=⟨w.heap.size+1,7,none⟩) (Nat.le_succ _) _) (by simp only[setCell_size]; exact(HF.out.size)) _
  ·have hx2:(k2 != 0)=true:=by simpa using x2
   have HN:=Lib.hid (HO.out (fun h=>x2 (HK.out.2.1.2 h.2)))
   subst x1
   go_wp2_with fail
   refine bodyPost_ret (v:=.tuple #[zG,.int .i64 4]) (by unfold zG; simp[results,Tryz.results105,go_sem,c0,c1,c2,c3,c4,c5,c6,c7,hn2,Qef]) rfl ⟨by rw[HN.out.1,HN.out.2],?_⟩
   exact Below.alloc ((((((((HF.out.setCell (p:=⟨w.heap.size+1,0,none⟩) (Nat.le_succ _) _).setCell (p:=⟨w.heap.size+1,1,none⟩) (Nat.le_succ _) _).setCell (p:=⟨w.heap.size+1,2,none⟩) (Nat.le_succ _) _).setCell (p:=⟨w.heap.size+1,3,none⟩) (Nat.le_succ _) _).setCell (p:=⟨w.heap.size+1,4,none⟩) (Nat.le_succ _) _).setCell (p:=⟨w.heap.size+1,5,none⟩) (Nat.le_succ _) _).setCell (p:=⟨w.heap.size+1,6,none⟩) (Nat.le_succ _) _).setCell (p:=⟨w.heap.size+1,7,none⟩) (Nat.le_succ _) _) (by simp only[setCell_size]; exact(HF.out.size)) _
 ·have hx1:(k1 != 0)=true:=by simpa using x1
  have HN:=Lib.hid (HO.out (fun h=>x1 (HK.out.1.2 h.1)))
  go_wp2_with fail
  refine bodyPost_ret (v:=.tuple #[zG,.int .i64 4]) (by unfold zG; simp[results,Tryz.results105,go_sem,c0,c1,c2,c3,c4,c5,c6,c7,hn2,Qef]) rfl ⟨by rw[HN.out.1,HN.out.2],?_⟩
  exact Below.alloc ((((((((HF.out.setCell (p:=⟨w.heap.size+1,0,none⟩) (Nat.le_succ _) _).setCell (p:=⟨w.heap.size+1,1,none⟩) (Nat.le_succ _) _).setCell (p:=⟨w.heap.size+1,2,none⟩) (Nat.le_succ _) _).setCell (p:=⟨w.heap.size+1,3,none⟩) (Nat.le_succ _) _).setCell (p:=⟨w.heap.size+1,4,none⟩) (Nat.le_succ _) _).setCell (p:=⟨w.heap.size+1,5,none⟩) (Nat.le_succ _) _).setCell (p:=⟨w.heap.size+1,6,none⟩) (Nat.le_succ _) _).setCell (p:=⟨w.heap.size+1,7,none⟩) (Nat.le_succ _) _) (by simp only[setCell_size]; exact(HF.out.size)) _
def MayF(v:Value):Fact:=fun u w A=>(¬FracOk v∧u=.pointer none)∨∃ q,v=encF q∧FracOk v∧RatP q u w A
theorem MayF.keeps(v:Value):(MayF v).Keeps:=fun u w w' A A' hs hk h=>h.imp id (fun⟨q,e,f,h⟩=>⟨q,e,f,RatP.keeps q u w w' A A' hs hk h⟩)
theorem MayR.mayF{v u:Value}{w w':World}{A:Nat→Prop}(h:MayR v w.heap.size u w' NoA)(hb:Below w.heap.size w w')(hA:Rcv A w):MayF v u w' A:=by
 rcases h with h|⟨q,e,f,h⟩
 ·exact .inl h
 ·exact .inr ⟨q,e,f,(h.new hb (Nat.le_refl _)).2 A hA⟩
def NQ(z:QC):Fact:=NumO z.re z.im
theorem NQ.keeps(z:QC):(NQ z).Keeps:=NumO.keeps _ _
def GaussOk(v:Value):Prop:=∃ z:QC,v=encG z.re z.im∧Qam z.re∧Qam z.im
theorem Qcx{n1 n2 n3 n4:Bool}{s1 s2 s3 s4:ByteArray}:GaussOk (.agg #[.bool n1,.string s1,.bool n2,.string s2,.bool n3,.string s3,.bool n4,.string s4])↔FracOk (.agg #[.bool n1,.string s1,.bool n2,.string s2])∧FracOk (.agg #[.bool n3,.string s3,.bool n4,.string s4]):=by
 constructor
 ·rintro⟨z,e,h1,h2⟩
  unfold encG at e
  simp only[Value.agg.injEq,Array.mk.injEq,List.cons.injEq,Value.bool.injEq,Value.string.injEq,and_true] at e
  obtain⟨e1,e2,e3,e4,e5,e6,e7,e8⟩:=e
  subst e1 e2 e3 e4 e5 e6 e7 e8
  exact⟨⟨z.re,rfl,h1⟩,⟨z.im,rfl,h2⟩⟩
 ·rintro⟨⟨a,e1,h1⟩,⟨b,e2,h2⟩⟩
  obtain⟨rfl,rfl,rfl,rfl⟩:=encF_parts e1
  obtain⟨rfl,rfl,rfl,rfl⟩:=encF_parts e2
  exact⟨⟨a,b⟩,rfl,h1,h2⟩
end Go.Proofs.YtmimficdpfmfgaaGreat
