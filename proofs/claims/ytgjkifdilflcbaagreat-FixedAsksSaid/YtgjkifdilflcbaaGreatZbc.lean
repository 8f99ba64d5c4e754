/- Laws for the walk. -/
import Derived.Test.YtgjkifdilflcbaaGreatZbb
import Derived.ChangeKeysEq
set_option linter.unusedVariables false
set_option maxHeartbeats 4000000
namespace Tr
open Go Go.RowKit
inductive FR where
 | c (g:GF)|row (l:List GF)
inductive FV where
 | r (x:FR)|tup (l:List FR)
def gl(l:LV):GF:=gx l.val (by cases l<;>rfl)
def okg:List GF→List Value→World→(Nat→Prop)→Prop
 | [],[],_,_=>True
 | g :: l,v :: vs,w,A=>g.R v w A∧okg l vs w A
 | _,_,_,_=>False
def FR.R:FR→Fact
 | .c g=>g.R
 | .row l=>fun v w A=>∃ vs,v=.agg vs.toArray∧okg l vs w A
def okf:List FR→List Value→World→(Nat→Prop)→Prop
 | [],[],_,_=>True
 | x :: l,v :: vs,w,A=>x.R v w A∧okf l vs w A
 | _,_,_,_=>False
def FV.R:FV→Fact
 | .r x=>x.R
 | .tup l=>fun v w A=>∃ vs,v=.tuple vs.toArray∧okf l vs w A
structure SpecC(P:Program)(hp:Bool)(f:FuncId)(args:List FR)(res:FV):Prop where
 ent:Enters P f
 ok:∀(w:World) (A:Nat→Prop) (vs:List Value),(hp=true→Rcv A w)→(∀ n,A n→n<w.heap.size)→okf args vs w A →
  Calls P f vs.toArray w fun r w'=>∃ v,r=.returned v∧res.R v w' A∧Below w.heap.size w w'
section
variable{P:Program}{hp:Bool}{fi:FuncId}{a:List FR}{r s:FV}{c:Prop}[Decidable c]
theorem SpecC.it(h:c)(k:SpecC P hp fi a r):SpecC P hp fi a (if c then r else s):=by rw[if_pos h]; exact k
theorem SpecC.ie(h:¬c)(k:SpecC P hp fi a s):SpecC P hp fi a (if c then r else s):=by rw[if_neg h]; exact k
theorem SpecC.t(k:SpecC P hp fi a (if c then r else s))(h:c):SpecC P hp fi a r:=by rw[if_pos h] at k; exact k
theorem SpecC.f(k:SpecC P hp fi a (if c then r else s))(h:¬c):SpecC P hp fi a s:=by rw[if_neg h] at k; exact k
end
def AC.lk(L:List GF):AC→Option GF
 | .sym i=>some (L.getD i g0)
 | .lit l=>some (gl l)
 | _=>none
def acsK(L:List GF):List AC→Option (List GF)
 | []=>some []
 | x :: l=>match x.lk L,acsK L l with|some v,some vs=>some (v :: vs)|_,_=>none
def AR.lk(L:List GF):AR→Option FR
 | .c x=>match x.lk L with|some g=>some (.c g)|none=>none
 | .row l=>match acsK L l with|some vs=>some (.row vs)|none=>none
def arsK(L:List GF):List AR→Option (List FR)
 | []=>some []
 | x :: l=>match x.lk L,arsK L l with|some v,some vs=>some (v :: vs)|_,_=>none
def AV.lk(L:List GF):AV→Option FV
 | .r x=>match x.lk L with|some g=>some (.r g)|none=>none
 | .tup l=>match arsK L l with|some vs=>some (.tup vs)|none=>none
 | _=>none
section
variable{P:Program}{L:List GF}{hp:Bool}{σ:Sg}{w:World}{A:Nat→Prop}
theorem AC.lk_ok{x:AC}{g:GF}{v:Value}(h:x.lk L=some g):x.ok (gT L) σ v w A↔g.R v w A:=by
 cases x with
 | sym i=>cases h; exact Iff.rfl
 | lit l=>cases h; exact Iff.rfl
 | _=>cases h
theorem acsK_ok:∀{l:List AC} {gs:List GF} {vs:List Value},acsK L l=some gs→(oks (gT L) σ l vs w A↔okg gs vs w A)
 | [],gs,vs,h=>by cases h; cases vs<;>exact Iff.rfl
 | x :: l,gs,vs,h=>by
  unfold acsK at h
  split at h
  ·rename_i u r h1 h2
   cases h
   cases vs with
   | nil=>exact Iff.rfl
   | cons v vs=>exact and_congr (AC.lk_ok h1) (acsK_ok h2)
  ·cases h
theorem AR.lk_ok{x:AR}{g:FR}{v:Value}(h:x.lk L=some g):x.ok (gT L) σ v w A↔g.R v w A:=by
 cases x with
 | c x =>
  unfold AR.lk at h
  simp only at h
  split at h
  ·rename_i g' h1; cases h; exact AC.lk_ok (x:=x) h1
  ·cases h
 | row l =>
  unfold AR.lk at h
  simp only at h
  split at h
  ·rename_i gs h1; cases h
   exact exists_congr fun vs=>and_congr Iff.rfl (acsK_ok h1)
  ·cases h
theorem arsK_ok:∀{l:List AR} {gs:List FR} {vs:List Value},arsK L l=some gs→(okr (gT L) σ l vs w A↔okf gs vs w A)
 | [],gs,vs,h=>by cases h; cases vs<;>exact Iff.rfl
 | x :: l,gs,vs,h=>by
  unfold arsK at h
  split at h
  ·rename_i u r h1 h2
   cases h
   cases vs with
   | nil=>exact Iff.rfl
   | cons v vs=>exact and_congr (AR.lk_ok h1) (arsK_ok h2)
  ·cases h
theorem AV.lk_ok{x:AV}{g:FV}{v:Value}(h:x.lk L=some g):x.ok (gT L) σ v w A↔g.R v w A:=by
 cases x with
 | r x =>
  unfold AV.lk at h
  simp only at h
  split at h
  ·rename_i g' h1; cases h; exact AR.lk_ok (x:=x) h1
  ·cases h
 | tup l =>
  unfold AV.lk at h
  simp only at h
  split at h
  ·rename_i gs h1; cases h
   exact exists_congr fun vs=>and_congr Iff.rfl (arsK_ok h1)
  ·cases h
 | _=>cases h
end
section
variable{P:Program}{L:List GF}
def gs{hp' hp:Bool}{f:FuncId}{fa:List FR}{fr:FV}(h:SpecC P hp' f fa fr)(args:List AR)(res:AV)(ha:arsK L args=some fa:=by kernel_rfl)(hr:res.lk L=some fr:=by kernel_rfl)(hh:(!hp' || hp)=true:=by rfl):GC P L hp :=
 ⟨{ f,args,res },h.ent,fun σ w A us hR hA hu _=>by
  have hR':hp'=true→Rcv A w:=fun e=>hR (by subst e; simpa using hh)
  exact(h.ok w A us hR' hA ((arsK_ok ha).1 hu)).mono fun r w' ⟨v,h1,h2,h3⟩=>⟨v,h1,(AV.lk_ok hr).2 h2,h3⟩⟩
theorem ev_sp{hp:Bool}{tys:List (TypeId×TyI)}(ht:∀ p∈tys,p.2.good P p.1=true)(hm:P.follows .mixedOrders=true)(C:List (GC P L hp))(B:List (GB P L))(O:List (GO P L)){f:FuncId}{fn:Func}(hf:P.funcs[f]?=some fn)(ent:Enters P f)(fuel:Nat)(args:List AR)(res:AV)
  {fa:List FR} {fr:FV} (hev:evF (gcx tys hp L C B O) fn fuel args res=true:=by kernel_rfl) (ha:arsK L args=some fa:=by kernel_rfl) (hr:res.lk L=some fr:=by kernel_rfl):SpecC P hp f fa fr :=
 ⟨ent,fun w A vs hR hA hu=>(ev_gen ht hm C B O hf fuel args res hev w A vs hR hA ((arsK_ok ha).2 hu)).mono fun r w' ⟨v,h1,h2,h3⟩=>⟨v,h1,(AV.lk_ok hr).1 h2,h3⟩⟩
def gfV:List GF→Option (List Value)
 | []=>some []
 | g :: l=>match g.ex,gfV l with|some v,some vs=>some (v :: vs)|_,_=>none
def FR.val:FR→Option Value
 | .c g=>g.ex
 | .row l=>match gfV l with|some vs=>some (.agg vs.toArray)|none=>none
def frsV:List FR→Option (List Value)
 | []=>some []
 | x :: l=>match x.val,frsV l with|some v,some vs=>some (v :: vs)|_,_=>none
def FV.val:FV→Option Value
 | .r x=>x.val
 | .tup l=>match frsV l with|some vs=>some (.tuple vs.toArray)|none=>none
variable{w:World}{A:Nat→Prop}
theorem gfV_ok:∀{l:List GF} {us vs:List Value},gfV l=some us→(okg l vs w A↔vs=us)
 | [],us,vs,h=>by cases h; cases vs<;>simp[okg]
 | g :: l,us,vs,h=>by
  unfold gfV at h
  split at h
  ·rename_i u r h1 h2
   cases h
   cases vs with
   | nil=>simp[okg]
   | cons v vs=>simp only[okg,g.exact u h1,gfV_ok h2,List.cons.injEq]
  ·cases h
theorem FR.val_ok{x:FR}{u v:Value}(h:x.val=some u):x.R v w A↔v=u:=by
 cases x with
 | c g=>exact g.exact u h v w A
 | row l =>
  unfold FR.val at h
  simp only at h
  split at h
  ·rename_i vs h1
   cases h
   constructor
   ·rintro⟨us,rfl,h2⟩; rw[(gfV_ok h1).1 h2]
   ·rintro rfl; exact⟨_,rfl,(gfV_ok h1).2 rfl⟩
  ·cases h
theorem frsV_ok:∀{l:List FR} {us vs:List Value},frsV l=some us→(okf l vs w A↔vs=us)
 | [],us,vs,h=>by cases h; cases vs<;>simp[okf]
 | x :: l,us,vs,h=>by
  unfold frsV at h
  split at h
  ·rename_i u r h1 h2
   cases h
   cases vs with
   | nil=>simp[okf]
   | cons v vs=>simp only[okf,FR.val_ok h1,frsV_ok h2,List.cons.injEq]
  ·cases h
theorem FV.val_ok{x:FV}{u v:Value}(h:x.val=some u):x.R v w A↔v=u:=by
 cases x with
 | r x=>exact FR.val_ok (x:=x) h
 | tup l =>
  unfold FV.val at h
  simp only at h
  split at h
  ·rename_i vs h1
   cases h
   constructor
   ·rintro⟨us,rfl,h2⟩; rw[(frsV_ok h1).1 h2]
   ·rintro rfl; exact⟨_,rfl,(frsV_ok h1).2 rfl⟩
  ·cases h
theorem spec_pure{f:FuncId}{vs:List Value}{v:Value}{fa:List FR}{fr:FV}(ent:Enters P f)(h:PureC P f vs v)(ha:frsV fa=some vs)(hr:fr.val=some v):SpecC P false f fa fr :=
 ⟨ent,fun w A us _ _ hu=>by
  have e:us=vs:=(frsV_ok ha).1 hu
  subst e
  exact(h w).mono fun r w' h=>⟨v,h.1,(FV.val_ok hr).2 rfl,h.2⟩⟩
theorem SpecC.pure{hp:Bool}{f:FuncId}{vs:List Value}{v:Value}{fa:List FR}{fr:FV}(h:SpecC P hp f fa fr)(ha:frsV fa=some vs)(hr:fr.val=some v):PureC P f vs v:=fun w =>
 (h.ok w NoA vs (fun _=>rcv_none w) (fun _ h=>h.elim) ((frsV_ok ha).2 rfl)).mono fun r w' ⟨u,h1,h2,h3⟩=>⟨by rw[h1,(FV.val_ok hr).1 h2],h3⟩
theorem spec1{hp:Bool}{f:FuncId}{x:FR}{res:FV}(ent:Enters P f)(h:∀(w:World) (A:Nat→Prop) (u:Value),(hp=true→Rcv A w)→(∀ n,A n→n<w.heap.size)→x.R u w A→Calls P f #[u] w fun r w'=>∃ v,r=.returned v∧res.R v w' A∧Below w.heap.size w w'):SpecC P hp f [x] res :=
 ⟨ent,fun w A us hR hA hu=>by
  match us,hu with
  | [u],hu=>exact h w A u hR hA hu.1⟩
theorem spec2{hp:Bool}{f:FuncId}{x y:FR}{res:FV}(ent:Enters P f)(h:∀(w:World) (A:Nat→Prop) (u v:Value),(hp=true→Rcv A w)→(∀ n,A n→n<w.heap.size)→x.R u w A→y.R v w A→Calls P f #[u,v] w fun r w'=>∃ v,r=.returned v∧res.R v w' A∧Below w.heap.size w w'):SpecC P hp f [x,y] res :=
 ⟨ent,fun w A us hR hA hu=>by
  match us,hu with
  | [u,v],hu=>exact h w A u v hR hA hu.1 hu.2.1⟩
def sy(l:List Nat):AR:=.row (l.map .sym)
def rnC(bs:List Nat):AC→AC
 | .own b o=>.own (bs.getD b 0) o
 | .sl b o n c=>.sl (bs.getD b 0) o n c
 | x=>x
def rnR(bs:List Nat):AR→AR
 | .c x=>.c (rnC bs x)
 | .row l=>.row (l.map (rnC bs))
def lowC(n:Nat):AC→Bool
 | .own b _|.sl b _ _ _=>decide (b<n)
 | .sg _ _ _|.fn _ _ _=>false
 | _=>true
theorem rnC_ok{T:Nat→Fact}{σ σ':Sg}{bs:List Nat}(hσ:∀ k,k<bs.length→σ' k=σ (bs.getD k 0)){x:AC}(hx:lowC bs.length x=true){v:Value}(h:(rnC bs x).ok T σ v w A):x.ok T σ' v w A:=by
 cases x with
 | sym i=>exact h
 | lit l=>exact h
 | own b o =>
  obtain⟨n,h1,h2⟩:=h
  exact⟨n,(hσ b (by simpa[lowC] using hx)).trans h1,h2⟩
 | sl b o n c =>
  obtain⟨m,h1,h2⟩:=h
  exact⟨m,(hσ b (by simpa[lowC] using hx)).trans h1,h2⟩
 | sg b o n=>cases hx
 | fn f a b=>cases hx
theorem rnCs_ok{T:Nat→Fact}{σ σ':Sg}{bs:List Nat}(hσ:∀ k,k<bs.length→σ' k=σ (bs.getD k 0)):∀{l:List AC} {vs:List Value},l.all (lowC bs.length)=true→oks T σ (l.map (rnC bs)) vs w A→oks T σ' l vs w A
 | [],[],_,_=>trivial
 | x :: l,v :: vs,hx,h=>by
  simp only[List.all_cons,Bool.and_eq_true] at hx
  exact⟨rnC_ok hσ hx.1 h.1,rnCs_ok hσ hx.2 h.2⟩
 | [],_ :: _,_,h=>h.elim
 | _ :: _,[],_,h=>h.elim
def lowR(n:Nat)(x:AR):Bool:=x.cells.all (lowC n)
theorem rnR_ok{T:Nat→Fact}{σ σ':Sg}{bs:List Nat}(hσ:∀ k,k<bs.length→σ' k=σ (bs.getD k 0)){x:AR}(hx:lowR bs.length x=true){v:Value}(h:(rnR bs x).ok T σ v w A):x.ok T σ' v w A:=by
 cases x with
 | c x=>exact rnC_ok (x:=x) hσ (by simpa[lowR,AR.cells] using hx) h
 | row l=>obtain⟨vs,e,h2⟩:=h; exact⟨vs,e,rnCs_ok hσ hx h2⟩
theorem rnRs_ok{T:Nat→Fact}{σ σ':Sg}{bs:List Nat}(hσ:∀ k,k<bs.length→σ' k=σ (bs.getD k 0)):∀{l:List AR} {vs:List Value},l.all (lowR bs.length)=true→okr T σ (l.map (rnR bs)) vs w A→okr T σ' l vs w A
 | [],[],_,_=>trivial
 | x :: l,v :: vs,hx,h=>by
  simp only[List.all_cons,Bool.and_eq_true] at hx
  exact⟨rnR_ok hσ hx.1 h.1,rnRs_ok hσ hx.2 h.2⟩
 | [],_ :: _,_,h=>h.elim
 | _ :: _,[],_,h=>h.elim
theorem needs_get{T:Nat→Fact}{σ:Sg}{f:AB→AB}:∀{abs:List AB} {bs:List Nat},bs.length=abs.length→needsP T σ w A (bs.zip (abs.map f))→∀ k ab,abs[k]?=some ab→∃ n vs,σ (bs.getD k 0)=some n∧A n∧w.heap[n]?=some (.cells vs.toArray (f ab).ty (0,0))∧oks T σ (f ab).cells vs w A
 | [],_,_,_,k,ab,h=>by simp at h
 | a :: abs,[],h,_,_,_,_=>by simp at h
 | a :: abs,b :: bs,hl,h,k,ab,hk=>by
  cases k with
  | zero =>
   simp only[List.getElem?_cons_zero,Option.some.injEq] at hk
   subst hk
   exact h.1
  | succ k=>exact needs_get (by simpa using hl) h.2 k ab (by simpa using hk)
def rnB(bs:List Nat)(ab:AB):AB:=⟨ab.cells.map (rnC bs),ab.ty,none⟩
def gvM{hp:Bool}{tys:List (TypeId×TyI)}(ht:∀ p∈tys,p.2.good P p.1=true)(hm:P.follows .mixedOrders=true)(C:List (GC P L hp))(B:List (GB P L))(O:List (GO P L)){f:FuncId}{fn:Func}(hf:P.funcs[f]?=some fn)(ent:Enters P f)(fuel:Nat)(bs:List Nat)(abs:List AB)(args:List AR)(res:AV)
  (hev:evL (gcx tys hp L C B O) fn fuel abs args res=true:=by kernel_rfl) (hc:(bs.length == abs.length && args.all (lowR bs.length) && abs.all (fun ab=>ab.cells.all (lowC bs.length)))=true:=by kernel_rfl):GC P L hp :=
 ⟨{ f,args:=args.map (rnR bs),res,needs:=bs.zip (abs.map (rnB bs)) },ent,fun σ w A us hR hA hu hn=>by
  simp only[Bool.and_eq_true,beq_iff_eq] at hc
  obtain⟨⟨hl,ha⟩,hb⟩:=hc
  have hnr:res.noown=true:=by
   have:=hev
   unfold evL at this
   simp only[Bool.and_eq_true] at this
   exact this.1.1
  let σ':Sg:=⟨fun k=>if k<bs.length then σ (bs.getD k 0) else none,fun _=>0⟩
  have hσ:∀ k,k<bs.length→σ' k=σ (bs.getD k 0):=fun k h=>if_pos h
  refine(ev_lent (gcx_ok ht C B O) hm hf fuel hev (fun k hk=>by cases hk) (fun c _ x _ k hk=>by cases hk) σ' w A us hR hA (rnRs_ok hσ ha hu) (fun k ab hk=>?_) (fun k hk=>?_)).mono ?_
  ·have hlt:k<bs.length:=by rw[hl]; exact(List.getElem?_eq_some_iff.1 hk).1
   obtain⟨n,vs,h1,h2,h3,h4⟩:=needs_get hl hn k ab hk
   exact⟨n,vs,(hσ k hlt).trans h1,h2,h3,rnCs_ok hσ (List.all_eq_true.1 hb ab (List.mem_of_getElem? hk)) h4⟩
  ·exact if_neg (by omega)
  ·rintro r w' ⟨v,h1,h2,h3⟩
   exact⟨v,h1,AV.ok_noown hnr h2,h3⟩⟩
end
def ga:GF where
 R:=fun v _ _=>v.oneCell'=true∧∀ k x,v≠.int k x
 int:=false
 keeps:=fun _ _ _ _ _ _ _ h=>h
 cell:=fun v w A h=>h.1
 noint:=fun _ v w A h=>h.2
 ex:=none
 exact:=fun u e=>by cases e
def gai:GF where
 R:=fun v _ _=>v.oneCell'=true
 int:=true
 keeps:=fun _ _ _ _ _ _ _ h=>h
 cell:=fun v w A h=>h
 noint:=fun e=>by cases e
 ex:=none
 exact:=fun u e=>by cases e
def GF.any(g:GF):GF:=if g.int then gai else ga
def FR.any:FR→FR|.c g=>.c g.any|.row l=>.row (l.map GF.any)
def FV.any:FV→FV|.r x=>.r x.any|.tup l=>.tup (l.map FR.any)
section
variable{w:World}{A:Nat→Prop}
theorem GF.any_ok{g:GF}{v:Value}(h:g.R v w A):g.any.R v w A:=by
 unfold GF.any
 cases hi:g.int
 ·exact⟨g.cell v w A h,g.noint hi v w A h⟩
 ·exact g.cell v w A h
theorem okg_any:∀{l:List GF} {vs:List Value},okg l vs w A→okg (l.map GF.any) vs w A
 | [],[],_=>trivial
 | g :: l,v :: vs,h=>⟨GF.any_ok h.1,okg_any h.2⟩
 | [],_ :: _,h=>h.elim
 | _ :: _,[],h=>h.elim
theorem FR.any_ok{x:FR}{v:Value}(h:x.R v w A):x.any.R v w A:=by
 cases x with
 | c g=>exact GF.any_ok (g:=g) h
 | row l=>obtain⟨vs,e,h⟩:=h; exact⟨vs,e,okg_any h⟩
theorem okf_any:∀{l:List FR} {vs:List Value},okf l vs w A→okf (l.map FR.any) vs w A
 | [],[],_=>trivial
 | g :: l,v :: vs,h=>⟨FR.any_ok h.1,okf_any h.2⟩
 | [],_ :: _,h=>h.elim
 | _ :: _,[],h=>h.elim
theorem FV.any_ok{x:FV}{v:Value}(h:x.R v w A):x.any.R v w A:=by
 cases x with
 | r x=>exact FR.any_ok (x:=x) h
 | tup l=>obtain⟨vs,e,h⟩:=h; exact⟨vs,e,okf_any h⟩
end
inductive FA where
 | f (x:FR)|sl (b off len cap:Nat)|own (b off:Nat)
def FA.R(σ:Sg):FA→Fact
 | .f x=>x.R
 | .sl b o n c=>fun v _ _=>∃ m,σ b=some m∧v=.slice (some ⟨m,o,none⟩) n c
 | .own b o=>fun v _ _=>∃ n,σ b=some n∧v=.pointer (some ⟨n,o,none⟩)
def oka(σ:Sg):List FA→List Value→World→(Nat→Prop)→Prop
 | [],[],_,_=>True
 | x :: l,v :: vs,w,A=>x.R σ v w A∧oka σ l vs w A
 | _,_,_,_=>False
structure SpecM(P:Program)(hp:Bool)(f:FuncId)(bl:List (List GF×TypeId))(args:List FA)(res:FV):Prop where
 ent:Enters P f
 ok:∀(σ:Sg) (w:World) (A:Nat→Prop) (vs:List Value),(hp=true→Rcv A w)→(∀ n,A n→n<w.heap.size) →
  (∀ b gs ty,bl[b]?=some (gs,ty)→∃ n us,σ b=some n∧A n∧w.heap[n]?=some (.cells us.toArray ty (0,0))∧okg gs us w A)→(∀ b,bl.length≤b→σ b=none)→oka σ args vs w A →
  Calls P f vs.toArray w fun r w'=>∃ v,r=.returned v∧res.R v w' A∧Below w.heap.size w w'
section
variable{P:Program}{hp:Bool}{fi:FuncId}{bl:List (List GF×TypeId)}{a:List FA}{r s:FV}{c:Prop}[Decidable c]
theorem SpecM.it(h:c)(k:SpecM P hp fi bl a r):SpecM P hp fi bl a (if c then r else s):=by rw[if_pos h]; exact k
theorem SpecM.ie(h:¬c)(k:SpecM P hp fi bl a s):SpecM P hp fi bl a (if c then r else s):=by rw[if_neg h]; exact k
theorem SpecM.t(k:SpecM P hp fi bl a (if c then r else s))(h:c):SpecM P hp fi bl a r:=by rw[if_pos h] at k; exact k
theorem SpecM.f(k:SpecM P hp fi bl a (if c then r else s))(h:¬c):SpecM P hp fi bl a s:=by rw[if_neg h] at k; exact k
end
def AR.la(L:List GF):AR→Option FA
 | .c (.own b o)=>some (.own b o)
 | .c (.sl b o n k)=>some (.sl b o n k)
 | x=>match x.lk L with|some g=>some (.f g)|none=>none
section
variable{L:List GF}{σ:Sg}{w:World}{A:Nat→Prop}
end
section
variable{P:Program}{L:List GF}
end
end Tr
namespace Go.Proofs.YtgjkifdilflcbaaGreat
open Go.RowKit Tr
theorem tI{p:Prop}(h:p):true=true↔p:=⟨fun _=>h,fun _=>rfl⟩
theorem fI{p:Prop}(h:¬p):false=true↔p:=⟨fun e=>(by cases e),fun e=>absurd e h⟩
def gr(q:Rat):GF where
 R:=RatP q
 int:=false
 keeps:=RatP.keeps q
 cell:=fun v w A h=>by obtain⟨b,rfl,_⟩:=h; rfl
 noint:=fun _ v w A h k x=>by obtain⟨b,rfl,_⟩:=h; simp
 ex:=none
 exact:=fun u e=>by cases e
def gro(q:Rat):GF where
 R:=RatO q
 int:=false
 keeps:=RatO.keeps q
 cell:=fun v w A h=>by rcases h with⟨rfl,_⟩|⟨b,rfl,_⟩<;>rfl
 noint:=fun _ v w A h k x=>by rcases h with⟨rfl,_⟩|⟨b,rfl,_⟩<;>simp
 ex:=none
 exact:=fun u e=>by cases e
def rF(q:Rat):List GF:=[gx (.bool (decide (q.num<0))),gx (.string (strN q.num.natAbs)),gx (.bool false),gx (.string (strN q.den))]
def rG(z:QC):List GF:=rF z.re++rF z.im
def cq(z:QC):List GF:=[gr z.re,gr z.im]
def cn(z:QC):List GF:=[gro z.re,gro z.im]
section
variable{w:World}{A:Nat→Prop}{v:Value}
theorem okg_cons{g:GF}{l:List GF}{vs:List Value}:okg (g :: l) vs w A↔∃ u us,vs=u :: us∧g.R u w A∧okg l us w A:=by
 cases vs with
 | nil=>exact⟨fun h=>h.elim,fun⟨_,_,e,_⟩=>by cases e⟩
 | cons u us=>exact⟨fun h=>⟨u,us,rfl,h.1,h.2⟩,fun⟨_,_,e,h⟩=>by cases e; exact h⟩
theorem okg_nil{vs:List Value}:okg [] vs w A↔vs=[]:=by
 cases vs with
 | nil=>exact⟨fun _=>rfl,fun _=>trivial⟩
 | cons u us=>exact⟨fun h=>h.elim,fun e=>by cases e⟩
theorem cq_iff{z:QC}:(FR.row (cq z)).R v w A↔CQ z v w A:=by
 constructor
 ·rintro⟨vs,rfl,h⟩
  obtain⟨u1,_,rfl,h1,h⟩:=okg_cons.1 h
  obtain⟨u2,_,rfl,h2,h⟩:=okg_cons.1 h
  cases okg_nil.1 h
  exact⟨u1,u2,rfl,h1,h2⟩
 ·rintro⟨u1,u2,rfl,h1,h2⟩
  exact⟨[u1,u2],rfl,h1,h2,trivial⟩
theorem cn_iff{z:QC}:(FR.row (cn z)).R v w A↔NumO z.re z.im v w A:=by
 constructor
 ·rintro⟨vs,rfl,h⟩
  obtain⟨u1,_,rfl,h1,h⟩:=okg_cons.1 h
  obtain⟨u2,_,rfl,h2,h⟩:=okg_cons.1 h
  cases okg_nil.1 h
  exact⟨u1,u2,rfl,h1,h2⟩
 ·rintro⟨u1,u2,rfl,h1,h2⟩
  exact⟨[u1,u2],rfl,h1,h2,trivial⟩
theorem pq_iff{x y:QC}:(FR.row (cq x++cq y)).R v w A↔PQ x y v w A:=by
 constructor
 ·rintro⟨vs,rfl,h⟩
  obtain⟨u1,_,rfl,h1,h⟩:=okg_cons.1 h
  obtain⟨u2,_,rfl,h2,h⟩:=okg_cons.1 h
  obtain⟨u3,_,rfl,h3,h⟩:=okg_cons.1 h
  obtain⟨u4,_,rfl,h4,h⟩:=okg_cons.1 h
  cases okg_nil.1 h
  exact⟨u1,u2,u3,u4,rfl,h1,h2,h3,h4⟩
 ·rintro⟨u1,u2,u3,u4,rfl,h1,h2,h3,h4⟩
  exact⟨[u1,u2,u3,u4],rfl,h1,h2,h3,h4,trivial⟩
end
def RawG.Sz(g:RawG):Prop:=g.s1.size≤1000000000∧g.s2.size≤1000000000∧g.s3.size≤1000000000∧g.s4.size≤1000000000
def RawP.Sz(p:RawP):Prop:=p.g.Sz
def flA(l:List (List AC)):List AC:=l.flatten
def zFA:List AC:=[.lit (.bool false),.lit .str0,.lit (.bool false),.lit .str0]
def zGA:List AC:=zFA++zFA
def gR(n:Nat):List AC:=[.sym n,.sym (n+1),.lit (.bool false),.sym (n+2),.sym (n+3),.sym (n+4),.lit (.bool false),.sym (n+5)]
def gL:List Nat→List AC
 | []=>[]
 | n :: l=>gR n++gL l
def zFG:List GF:=[gl (.bool false),gl .str0,gl (.bool false),gl .str0]
def zGG:List GF:=zFG++zFG
def Q1(z:QC):FR:=.row (cq z)
def B1(b:Bool):FV:=.r (.c (gx (.bool b)))
theorem pGZero(g:RawG)(r:Bool)(hr:r=true↔g=rawQ ⟨0,0⟩):SpecC Tryz.prog true 44 [.row g.cells] (B1 r) :=
 spec1 eo44 fun w A u _ _ hu=>by
  rw[(FR.val_ok (u:=g.val) (x:=.row g.cells) (by kernel_rfl)).1 hu]
  refine(GZero_any g.n1 g.n2 g.n3 g.n4 g.s1 g.s2 g.s3 g.s4 r ?_ w).mono fun r' w' h=>⟨_,h.1,rfl,h.2⟩
  rw[hr]
  exact⟨fun h=>by rw[h]; rfl,fun h=>rawG_inj (by rw[rawQ_val]; exact h)⟩
theorem pGInt(i j:Int)(a1:-9223372036854775808≤i)(a2:i<9223372036854775808)(b1:-9223372036854775808≤j)(b2:j<9223372036854775808):SpecC Tryz.prog false 17 [.c (gx (.int .i64 i)),.c (gx (.int .i64 j))] (.r (.row (rawQ ⟨(i:Rat),(j:Rat)⟩).cells)) :=
 spec_pure eo17 (vs:=[.int .i64 i,.int .i64 j]) (v:=encG (i:Rat) (j:Rat)) (fun w=>GInt_any i j a1 a2 b1 b2 w) (by kernel_rfl) (by kernel_rfl)
theorem pMul(x y:QC){m l:Nat}(hx:ZL x m)(hy:ZL y l)(hb:m+l+(m+l)<137438953472):SpecC Tryz.prog true 55 [Q1 x,Q1 y] (.r (Q1 (x*y))) :=
 spec2 eo55 fun w A u v hR _ hu hv=>(QMul_any x y u v A w (cq_iff.1 hu) (cq_iff.1 hv) (hR rfl) m l hx hy hb).mono fun e w' ⟨z,h1,h2,h3⟩=>⟨z,h1,cq_iff.2 h3,h2⟩
theorem pAdd(x y:QC){m l:Nat}(hx:ZL x m)(hy:ZL y l)(hb:m+l<137438953472):SpecC Tryz.prog true 54 [Q1 x,Q1 y] (.r (Q1 (x+y))) :=
 spec2 eo54 fun w A u v hR _ hu hv=>(QAdd_any x y u v A w (cq_iff.1 hu) (cq_iff.1 hv) (hR rfl) m l hx hy hb).mono fun e w' ⟨z,h1,h2,h3⟩=>⟨z,h1,cq_iff.2 h3,h2⟩
theorem pSub(x y:QC){m l:Nat}(hx:ZL x m)(hy:ZL y l)(hb:m+l<137438953472):SpecC Tryz.prog true 46 [Q1 x,Q1 y] (.r (Q1 (x - y))) :=
 spec2 eo46 fun w A u v hR _ hu hv=>(QSub_any x y u v A w (cq_iff.1 hu) (cq_iff.1 hv) (hR rfl) m l hx hy hb).mono fun e w' ⟨z,h1,h2,h3⟩=>⟨z,h1,cq_iff.2 h3,h2⟩
def outR(x y:QC):RawP:=if y=⟨0,0⟩ then rawPt none else if ShortF (x / y).re∧ShortF (x / y).im then rawPt (some (x / y)) else⟨false,zeroG⟩
theorem outR_val(x y:QC):(outR x y).val=outP x y:=by
 unfold outR outP
 split
 ·rfl
 ·split
  ·rfl
  ·rfl
theorem pPPoint(x y:QC){m l:Nat}(lx:ZL x m)(ly:ZL y l)(hb:(m+l+(m+l)+1)+(l+l+(l+l)+1)<137438953472):SpecC Tryz.prog true 43 [.row (cq x++cq y)] (.tup [.row (outR x y).cells,.c (gx (.int .i64 (outPC x y)))]) :=
 spec1 eo43 fun w A u _ _ hu=>(PPoint_any x y u A w (pq_iff.1 hu) m l lx ly hb).mono fun e w' h=>⟨_,h.1,(FV.val_ok (u:=.tuple #[(outR x y).val,.int .i64 (outPC x y)]) (x:=.tup [.row (outR x y).cells,.c (gx (.int .i64 (outPC x y)))]) (by kernel_rfl)).2 (by rw[outR_val]),h.2⟩
theorem strN_den(q:Rat):numS (strN q.den)≠0:=by rw[numS_strN]; exact q.den_nz
theorem divInt_str(q:Rat):Rat.divInt (sgn (decide (q.num<0)) (numS (strN q.num.natAbs))) (sgn false (numS (strN q.den)))=q:=by
 rw[numS_strN,numS_strN,sgn_self]
 exact Rat.num_divInt_den q
theorem size_short{n:Nat}(h:(strN n).size≤1024):(strN n).size<274877906944:=by omega
theorem pOf(z:QC)(h:ShortZ z):SpecC Tryz.prog true 56 [.row (rawQ z).cells] (.r (Q1 z)) :=
 spec1 eo56 fun w A u hR _ hu=>by
  rw[(FR.val_ok (u:=(rawQ z).val) (x:=.row (rawQ z).cells) (by kernel_rfl)).1 hu]
  have:=XOf_any (decide (z.re.num<0)) false (decide (z.im.num<0)) false (strN z.re.num.natAbs) (strN z.re.den) (strN z.im.num.natAbs) (strN z.im.den) (strN_den _) (strN_den _) (size_short h.1.1) (size_short h.1.2) (size_short h.2.1) (size_short h.2.2) A w (hR rfl)
  rw[divInt_str,divInt_str] at this
  exact this.mono fun e w' ⟨u,h1,h2,h3⟩=>⟨u,h1,cq_iff.2 h3,h2⟩
theorem point_of(p:Pt)(h:ShortP p)(A:Nat→Prop)(w:World)(hA:Rcv A w):Calls Tryz.prog 83 #[(rawPt p).val] w fun e w'=>∃ u,e=.returned u∧Below w.heap.size w w'∧PQ (ptX p) (ptY p) u w' A:=by
 cases p with
 | none=>exact XPoint_any true false false false false ⟨#[]⟩ ⟨#[]⟩ ⟨#[]⟩ ⟨#[]⟩ (fun h=>by cases h) (fun h=>by cases h) (by decide) (by decide) (by decide) (by decide) A w hA 1 0 0 rfl rfl rfl
 | some z=>exact XPoint_any false (decide (z.re.num<0)) false (decide (z.im.num<0)) false (strN z.re.num.natAbs) (strN z.re.den) (strN z.im.num.natAbs) (strN z.im.den) (fun _=>strN_den _) (fun _=>strN_den _) (size_short h.1.1) (size_short h.1.2) (size_short h.2.1) (size_short h.2.2) A w hA z.re z.im 1 (by rw[divInt_str]; rfl) (by rw[divInt_str]; rfl) rfl
theorem pPoint(p:Pt)(h:ShortP p):SpecC Tryz.prog true 83 [.row (rawPt p).cells] (.r (.row (cq (ptX p)++cq (ptY p)))) :=
 spec1 eo83 fun w A u hR _ hu=>by
  rw[(FR.val_ok (u:=(rawPt p).val) (x:=.row (rawPt p).cells) (by kernel_rfl)).1 hu]
  exact(point_of p h A w (hR rfl)).mono fun e w' ⟨u,h1,h2,h3⟩=>⟨u,h1,pq_iff.2 h3,h2⟩
def bI{P:Program}{L:List GF}(op:BinOp)(t:TypeId)(x y:AC)(a b:Int)(c:Bool)(h:cmpB op a b=some c)(hx:x.gv L=some (.int .i64 a):=by kernel_rfl)(hy:y.gv L=some (.int .i64 b):=by kernel_rfl):GB P L:=gbInt op t .i64 x y a b c h hx hy
section
variable{L:List GF}
def bG(x y:AR)(g h:RawG)(r:Bool)(hr:r=true↔g=h)(hx:x.gv L=some g.val:=by kernel_rfl)(hy:y.gv L=some h.val:=by kernel_rfl):GB Tryz.prog L :=
 gb .eql 27 x y (.lit (.bool r)) (agg_eql (by kernel_rfl) (fun w=>run_eql_rg w g h r (by rw[hr]; exact⟨fun e=>by rw[e],rawG_inj⟩))) hx hy rfl
def bGn(x y:AR)(g h:RawG)(r:Bool)(hr:r=true↔g=h)(hx:x.gv L=some g.val:=by kernel_rfl)(hy:y.gv L=some h.val:=by kernel_rfl):GB Tryz.prog L :=
 gb .neq 27 x y (.lit (.bool !r)) (agg_neq (by kernel_rfl) (fun w=>run_eql_rg w g h r (by rw[hr]; exact⟨fun e=>by rw[e],rawG_inj⟩))) hx hy rfl
end
theorem shortF_lt{q:Rat}(h1:q.num.natAbs<256 ^ 1024)(h2:q.den<256 ^ 1024):ShortF q:=⟨by rw[size_strN]; exact byteLE_le h1,by rw[size_strN]; exact byteLE_le h2⟩
theorem short_c{z:QC}(h:(z.re.num.natAbs<256 ^ 1024∧z.re.den<256 ^ 1024)∧z.im.num.natAbs<256 ^ 1024∧z.im.den<256 ^ 1024):ShortZ z:=⟨shortF_lt h.1.1 h.1.2,shortF_lt h.2.1 h.2.2⟩
theorem sz_short{z:QC}(h:ShortZ z):(rawQ z).Sz:=by
 obtain⟨⟨h1,h2⟩,h3,h4⟩:=h
 exact⟨Nat.le_trans h1 (by decide),Nat.le_trans h2 (by decide),Nat.le_trans h3 (by decide),Nat.le_trans h4 (by decide)⟩
theorem rawQ_inj{z w:QC}:rawQ z=rawQ w↔z=w:=⟨fun h=>encQ_inj' (by rw[←rawQ_val,←rawQ_val,h]),fun h=>by rw[h]⟩
end Go.Proofs.YtgjkifdilflcbaaGreat
namespace Go.Proofs.YtgjkifdilflcbaaGreat
open Go.RowKit Tr
def G1(z:QC):FR:=.row (rG z)
def S1(x y:QC):FR:=.row (rG x++rG y)
theorem rGMay(g:RawG)(r:Bool)(hr:r=true↔GOk g.val):SpecC Tryz.prog false 58 [.row g.cells] (B1 r):=spec_pure eo58 (gmay g r hr) (by kernel_rfl) (by kernel_rfl)
theorem rZero(z:QC)(r:Bool)(hr:r=true↔z=⟨0,0⟩):SpecC Tryz.prog false 50 [G1 z] (B1 r):=spec_pure eo50 (gzero z r hr) (by kernel_rfl) (by kernel_rfl)
theorem rInt(a b:Int)(a1:-9223372036854775808≤a)(a2:a<9223372036854775808)(b1:-9223372036854775808≤b)(b2:b<9223372036854775808):SpecC Tryz.prog false 49 [.c (gx (.int .i64 a)),.c (gx (.int .i64 b))] (.r (G1 ⟨(a:Rat),(b:Rat)⟩)):=spec_pure eo49 (gint a b a1 a2 b1 b2) (by kernel_rfl) (by kernel_rfl)
theorem rTimes(x y:QC)(hx:ZL x 33554432)(hy:ZL y 33554432):SpecC Tryz.prog false 63 [G1 x,G1 y] (.r (G1 (x*y))):=spec_pure eo63 (gtimes x y hx hy) (by kernel_rfl) (by kernel_rfl)
theorem rPlus(x y:QC)(hx:ZL x 134217728)(hy:ZL y 134217728):SpecC Tryz.prog false 62 [G1 x,G1 y] (.r (G1 (x+y))):=spec_pure eo62 (gplus x y hx hy) (by kernel_rfl) (by kernel_rfl)
theorem rMinus(x y:QC)(hx:ZL x 134217728)(hy:ZL y 134217728):SpecC Tryz.prog false 52 [G1 x,G1 y] (.r (G1 (x - y))):=spec_pure eo52 (gminus x y hx hy) (by kernel_rfl) (by kernel_rfl)
theorem rPoint(x y:QC)(hx:ZL x 6000000)(hy:ZL y 6000000):SpecC Tryz.prog false 90 [S1 x y] (.tup [.row (outR x y).cells,.c (gx (.int .i64 (outPC x y)))]):=spec_pure eo90 (by have:=spoint x y hx hy; rw[←outR_val] at this; exact this) (by kernel_rfl) (by kernel_rfl)
end Go.Proofs.YtgjkifdilflcbaaGreat
namespace Go.Proofs.YtgjkifdilflcbaaGreat
open Go.RowKit Tr
def Sz(s:ByteArray):Int:=(s.size:Nat)
def lS{L:List GF}(x:AC)(s:ByteArray)(res:AC)(hn:x.noown=true:=by kernel_rfl)(hx:x.gv L=some (.string s):=by kernel_rfl)(hr:res.gv L=some (.int .i64 (Sz s)):=by kernel_rfl):GO Tryz.prog L :=
 goLenS 9 Tryz.underlying9 x s res hn hx hr
theorem outR_is{x y z:QC}(h0:y≠⟨0,0⟩)(hz:x / y=z)(hs:ShortZ z):outR x y=rawPt (some z):=by
 subst hz
 unfold outR
 rw[if_neg h0]
 exact if_pos hs
theorem outPC_is{x y z:QC}(h0:y≠⟨0,0⟩)(hz:x / y=z)(hs:ShortZ z):outPC x y=0:=by
 subst hz
 unfold outPC
 rw[if_neg h0]
 exact if_pos hs
theorem outPC_two(x y:QC):outPC x y=0∨outPC x y=4:=by
 unfold outPC
 split
 ·exact .inl rfl
 ·split
  ·exact .inl rfl
  ·exact .inr rfl
end Go.Proofs.YtgjkifdilflcbaaGreat
