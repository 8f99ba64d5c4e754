/- Laws for the walk. -/
import Derived.Test.YteljkhfbgliokaaGreatZzz
import Derived.Test.YteljkhfbgliokaaGreatZag
import Derived.Test.YteljkhfbgliokaaGreatChecked
set_option linter.unusedVariables false
namespace Tr
open Go Go.RowKit
def PureC (P : Program) (f : FuncId) (vs : List Value) (v : Value) : Prop := ∀ w,Calls P f vs.toArray w fun e w' => e = .returned v ∧ Below w.heap.size w w'
theorem enters_of {P : Program} {f : FuncId} {fn : Func} (hf : P.funcs[f]? = some fn) (h : (!(fn.name == "runtime.NumGoroutine") && fn.body.isSome) = true) : Enters P f := by
 intro args w
 simp only [Bool.and_eq_true,Bool.not_eq_true'] at h
 obtain ⟨h1,h2⟩ := h
 have h3 : fn.body.isNone = false := by cases hb : fn.body <;> simp [hb] at h2 ⊢
 simp only [callFunc,Sem.run_bind,run_program,Result.andThen_ok,hf,h1,h3,Bool.false_eq_true,if_false,Sem.run_pure]
structure GF where
 R : Fact
 int : Bool
 keeps : R.Keeps
 cell : ∀ v w A,R v w A → v.oneCell' = true
 noint : int = false → ∀ v w A,R v w A → ∀ k x,v ≠ .int k x
 ex : Option Value
 exact : ∀ u,ex = some u → ∀ v w A,R v w A ↔ v = u
def isIntV : Value → Bool | .int _ _ => true | _ => false
def gx (u : Value) (h : u.oneCell' = true := by rfl) : GF where
 R := fun v _ _ => v = u
 int := isIntV u
 keeps := fun _ _ _ _ _ _ _ h => h
 cell := fun v _ _ e => by rw [show v = u from e]; exact h
 noint := fun hi v _ _ e k x e2 => by rw [show v = u from e] at e2; rw [e2] at hi; cases hi
 ex := some u
 exact := fun u' e v w A => by cases e; exact Iff.rfl
def g0 : GF := gx (.bool false)
def gT (L : List GF) (i : Nat) : Fact := (L.getD i g0).R
def gI (L : List GF) (i : Nat) : Bool := (L.getD i g0).int
def AC.gv (L : List GF) : AC → Option Value
 | .sym i => (L.getD i g0).ex
 | .lit l => some l.val
 | _ => none
def acsV (L : List GF) : List AC → Option (List Value)
 | [] => some []
 | x :: l => match x.gv L,acsV L l with | some v,some vs => some (v :: vs) | _,_ => none
def AR.gv (L : List GF) : AR → Option Value
 | .c x => x.gv L
 | .row l => match acsV L l with | some vs => some (.agg vs.toArray) | none => none
def arsV (L : List GF) : List AR → Option (List Value)
 | [] => some []
 | x :: l => match x.gv L,arsV L l with | some v,some vs => some (v :: vs) | _,_ => none
def AV.gv (L : List GF) : AV → Option Value
 | .r x => x.gv L
 | .tup l => match arsV L l with | some vs => some (.tuple vs.toArray) | none => none
 | .undf => some undef
 | .junk => none
section
variable {P : Program} {L : List GF} {hp : Bool} {σ : Nat → Option Nat} {w : World} {A : Nat → Prop}
theorem AC.gv_ok {x : AC} {u v : Value} (h : x.gv L = some u) : x.ok (gT L) σ v w A ↔ v = u := by
 cases x with
 | sym i => exact (L.getD i g0).exact u h v w A
 | lit l => cases h; exact Iff.rfl
 | own b o => cases h
 | sl b o n c => cases h
 | fn f a b => cases h
theorem acsV_ok : ∀ {l : List AC} {us vs : List Value},acsV L l = some us → (oks (gT L) σ l vs w A ↔ vs = us)
 | [],us,vs,h => by cases h; cases vs <;> simp [oks]
 | x :: l,us,vs,h => by
  unfold acsV at h
  split at h
  ·rename_i u r h1 h2
   cases h
   cases vs with
   | nil => simp [oks]
   | cons v vs => simp only [oks,AC.gv_ok h1,acsV_ok h2,List.cons.injEq]
  ·cases h
theorem AR.gv_ok {x : AR} {u v : Value} (h : x.gv L = some u) : x.ok (gT L) σ v w A ↔ v = u := by
 cases x with
 | c x => exact AC.gv_ok (x := x) h
 | row l =>
  unfold AR.gv at h
  simp only at h
  split at h
  ·rename_i vs h1
   cases h
   constructor
   ·rintro ⟨us,rfl,h2⟩; rw [(acsV_ok h1).1 h2]
   ·rintro rfl; exact ⟨_,rfl,(acsV_ok h1).2 rfl⟩
  ·cases h
theorem arsV_ok : ∀ {l : List AR} {us vs : List Value},arsV L l = some us → (okr (gT L) σ l vs w A ↔ vs = us)
 | [],us,vs,h => by cases h; cases vs <;> simp [okr]
 | x :: l,us,vs,h => by
  unfold arsV at h
  split at h
  ·rename_i u r h1 h2
   cases h
   cases vs with
   | nil => simp [okr]
   | cons v vs => simp only [okr,AR.gv_ok h1,arsV_ok h2,List.cons.injEq]
  ·cases h
theorem AV.gv_ok {x : AV} {u v : Value} (h : x.gv L = some u) : x.ok (gT L) σ v w A ↔ v = u := by
 cases x with
 | r x => exact AR.gv_ok (x := x) h
 | tup l =>
  unfold AV.gv at h
  simp only at h
  split at h
  ·rename_i vs h1
   cases h
   constructor
   ·rintro ⟨us,rfl,h2⟩; rw [(arsV_ok h1).1 h2]
   ·rintro rfl; exact ⟨_,rfl,(arsV_ok h1).2 rfl⟩
  ·cases h
 | undf => cases h; exact Iff.rfl
 | junk => cases h
end
structure GC (P : Program) (L : List GF) (hp : Bool) where
 cs : CS
 ent : Enters P cs.f
 ok : cs.Ok P (gT L) hp
structure GB (P : Program) (L : List GF) where
 bs : BS
 ok : bs.Ok P (gT L)
structure GO (P : Program) (L : List GF) where
 os : OS
 ok : os.Ok P (gT L)
section
variable {P : Program} {L : List GF} {hp : Bool}
def gp (f : FuncId) (args : List AR) (res : AV) (ent : Enters P f) {vs : List Value} {v : Value} (h : PureC P f vs v) (ha : arsV L args = some vs := by rfl) (hr : res.gv L = some v := by rfl) : GC P L hp :=
 ⟨{ f,args,res },ent,fun σ w A us _ _ hu _ => by
  have e : us = vs := (arsV_ok ha).1 hu
  subst e
  exact (h w).mono fun r w' h => ⟨v,h.1,(AV.gv_ok hr).2 rfl,h.2⟩⟩
def gb (op : BinOp) (t : TypeId) (x y : AR) (res : AC) {vx vy v : Value} (h : ∀ xo yo w,(do eqGuard op t xo yo vx vy; binOp op t vx vy : Sem Value).run P w = .ok v w) (hx : x.gv L = some vx := by rfl) (hy : y.gv L = some vy := by rfl) (hr : res.gv L = some v := by rfl) : GB P L :=
 ⟨{ op,t,x,y,res },fun σ w A ux uy xo yo h1 h2 => by
  have e1 : ux = vx := (AR.gv_ok hx).1 h1
  have e2 : uy = vy := (AR.gv_ok hy).1 h2
  subst e1; subst e2
  exact ⟨v,h xo yo w,(AC.gv_ok hr).2 rfl⟩⟩
def gm1 (f : FuncId) (x : AR) (res : AV) (ent : Enters P f) (h : ∀ (w : World) (A : Nat → Prop) (u : Value),(hp = true → Rcv A w) → x.ok (gT L) (fun _ => none) u w A → Calls P f #[u] w fun r w' => ∃ v,r = .returned v ∧ res.ok (gT L) (fun _ => none) v w' A ∧ Below w.heap.size w w') (hx : (x.noown && res.noown) = true := by rfl) : GC P L hp :=
 ⟨{ f,args := [x],res },ent,fun σ w A us hR _ hu _ => by
  simp only [Bool.and_eq_true] at hx
  match us,hu with
  | [u],hu => exact (h w A u hR (AR.ok_noown hx.1 hu.1)).mono fun r w' ⟨v,h1,h2,h3⟩ => ⟨v,h1,AV.ok_noown hx.2 h2,h3⟩⟩
def gm2 (f : FuncId) (x y : AR) (res : AV) (ent : Enters P f) (h : ∀ (w : World) (A : Nat → Prop) (u v : Value),(hp = true → Rcv A w) → x.ok (gT L) (fun _ => none) u w A → y.ok (gT L) (fun _ => none) v w A → Calls P f #[u,v] w fun r w' => ∃ v,r = .returned v ∧ res.ok (gT L) (fun _ => none) v w' A ∧ Below w.heap.size w w') (hx : (x.noown && y.noown && res.noown) = true := by rfl) : GC P L hp :=
 ⟨{ f,args := [x,y],res },ent,fun σ w A us hR _ hu _ => by
  simp only [Bool.and_eq_true] at hx
  match us,hu with
  | [u,v],hu => exact (h w A u v hR (AR.ok_noown hx.1.1 hu.1) (AR.ok_noown hx.1.2 hu.2.1)).mono fun r w' ⟨v,h1,h2,h3⟩ => ⟨v,h1,AV.ok_noown hx.2 h2,h3⟩⟩
def gm1x (f : FuncId) (x : AR) (res : AV) (ent : Enters P f) {v : Value} (h : ∀ (w : World) (A : Nat → Prop) (u : Value),(hp = true → Rcv A w) → x.ok (gT L) (fun _ => none) u w A → Calls P f #[u] w fun r w' => r = .returned v ∧ Below w.heap.size w w') (hx : x.noown = true := by rfl) (hr : res.gv L = some v := by rfl) : GC P L hp :=
 ⟨{ f,args := [x],res },ent,fun σ w A us hR _ hu _ => by
  match us,hu with
  | [u],hu => exact (h w A u hR (AR.ok_noown hx hu.1)).mono fun r w' ⟨h1,h3⟩ => ⟨v,h1,(AV.gv_ok hr).2 rfl,h3⟩⟩
def gm2x (f : FuncId) (x y : AR) (res : AV) (ent : Enters P f) {v : Value} (h : ∀ (w : World) (A : Nat → Prop) (u v' : Value),(hp = true → Rcv A w) → x.ok (gT L) (fun _ => none) u w A → y.ok (gT L) (fun _ => none) v' w A → Calls P f #[u,v'] w fun r w' => r = .returned v ∧ Below w.heap.size w w') (hx : (x.noown && y.noown) = true := by rfl) (hr : res.gv L = some v := by rfl) : GC P L hp :=
 ⟨{ f,args := [x,y],res },ent,fun σ w A us hR _ hu _ => by
  simp only [Bool.and_eq_true] at hx
  match us,hu with
  | [u,v'],hu => exact (h w A u v' hR (AR.ok_noown hx.1 hu.1) (AR.ok_noown hx.2 hu.2.1)).mono fun r w' ⟨h1,h3⟩ => ⟨v,h1,(AV.gv_ok hr).2 rfl,h3⟩⟩
def gcx (tys : List (TypeId × TyI)) (hp : Bool) (L : List GF) (C : List (GC P L hp)) (B : List (GB P L)) (O : List (GO P L)) : Cx := { tys,calls := C.map GC.cs,bins := B.map GB.bs,others := O.map GO.os,hp,ints := gI L }
theorem gcx_ok {tys : List (TypeId × TyI)} (ht : ∀ p ∈ tys,p.2.good P p.1 = true) (C : List (GC P L hp)) (B : List (GB P L)) (O : List (GO P L)) : CxOk P (gT L) (gcx tys hp L C B O) := by
 refine ⟨⟨fun i => (L.getD i g0).keeps,fun i => (L.getD i g0).cell,fun i => (L.getD i g0).noint⟩,ht,fun e he => ?_,fun e he => ?_,fun e he => ?_,fun e he => ?_⟩
 ·obtain ⟨p,_,rfl⟩ := List.mem_map.1 he; exact p.ok
 ·obtain ⟨p,_,rfl⟩ := List.mem_map.1 he; exact p.ent
 ·obtain ⟨p,_,rfl⟩ := List.mem_map.1 he; exact p.ok
 ·obtain ⟨p,_,rfl⟩ := List.mem_map.1 he; exact p.ok
theorem ev_gen {tys : List (TypeId × TyI)} (ht : ∀ p ∈ tys,p.2.good P p.1 = true) (hm : P.follows .mixedOrders = true) (C : List (GC P L hp)) (B : List (GB P L)) (O : List (GO P L)) {f : FuncId} {fn : Func} (hf : P.funcs[f]? = some fn) (fuel : Nat) (args : List AR) (res : AV)
  (hev : evF (gcx tys hp L C B O) fn fuel args res = true) (w : World) (A : Nat → Prop) (vs : List Value) (hR : hp = true → Rcv A w) (hA : ∀ n,A n → n < w.heap.size) (hargs : okr (gT L) (fun _ => none) args vs w A) :
  Calls P f vs.toArray w fun r w' => ∃ v,r = .returned v ∧ res.ok (gT L) (fun _ => none) v w' A ∧ Below w.heap.size w w' :=
 ev_spec (gcx_ok ht C B O) hm hf fuel hev (fun k hk => by cases hk) (fun c _ x _ k hk => by cases hk) (fun _ => none) w A vs hR hA hargs
theorem rcv_none (w : World) : Rcv NoA w := fun _ h => h.elim
theorem ev_pure {tys : List (TypeId × TyI)} (ht : ∀ p ∈ tys,p.2.good P p.1 = true) (hm : P.follows .mixedOrders = true) (C : List (GC P L hp)) (B : List (GB P L)) (O : List (GO P L)) {f : FuncId} {fn : Func} (hf : P.funcs[f]? = some fn) (fuel : Nat) (args : List AR) (res : AV)
  (hev : evF (gcx tys hp L C B O) fn fuel args res = true) {vs : List Value} {v : Value} (ha : arsV L args = some vs := by rfl) (hr : res.gv L = some v := by rfl) : PureC P f vs v := fun w =>
 (ev_gen ht hm C B O hf fuel args res hev w NoA vs (fun _ => rcv_none w) (fun _ h => h.elim) ((arsV_ok ha).2 rfl)).mono fun r w' ⟨u,h1,h2,h3⟩ => ⟨by rw [h1,(AV.gv_ok hr).1 h2],h3⟩
def PureM (P : Program) (f : FuncId) (pre : List Value) (ty : TypeId) (args : Nat → List Value) (v : Value) : Prop :=
 ∀ w n,w.heap[n]? = some (.cells pre.toArray ty (0,0)) → Calls P f (args n).toArray w fun e w' => e = .returned v ∧ Below w.heap.size w w'
def AC.gn (L : List GF) (b n : Nat) : AC → Option Value
 | .own c o => if c == b then some (.pointer (some ⟨n,o,none⟩)) else none
 | .sl c o k cap => if c == b then some (.slice (some ⟨n,o,none⟩) k cap) else none
 | x => x.gv L
def AR.gn (L : List GF) (b n : Nat) : AR → Option Value
 | .c x => x.gn L b n
 | .row l => AR.gv L (.row l)
def arsN (L : List GF) (b n : Nat) : List AR → Option (List Value)
 | [] => some []
 | x :: l => match x.gn L b n,arsN L b n l with | some v,some vs => some (v :: vs) | _,_ => none
theorem AC.gn_ok {b n : Nat} {σ : Nat → Option Nat} (hσ : σ b = some n) {x : AC} {u v : Value} {w : World} {A : Nat → Prop} (h : x.gn L b n = some u) : x.ok (gT L) σ v w A ↔ v = u := by
 cases x with
 | sym i => exact AC.gv_ok (x := .sym i) h
 | lit l => exact AC.gv_ok (x := .lit l) h
 | own c o =>
  unfold AC.gn at h
  simp only at h
  split at h
  ·rename_i hc
   have hc : c = b := by simpa using hc
   subst hc
   cases h
   constructor
   ·rintro ⟨m,h1,h2⟩; rw [hσ] at h1; cases h1; exact h2
   ·intro h; exact ⟨n,hσ,h⟩
  ·cases h
 | fn f a c => exact AC.gv_ok (x := .fn f a c) h
 | sl c o k cap =>
  unfold AC.gn at h
  simp only at h
  split at h
  ·rename_i hc
   have hc : c = b := by simpa using hc
   subst hc
   cases h
   constructor
   ·rintro ⟨m,h1,h2⟩; rw [hσ] at h1; cases h1; exact h2
   ·intro h; exact ⟨n,hσ,h⟩
  ·cases h
theorem arsN_ok {b n : Nat} {σ : Nat → Option Nat} (hσ : σ b = some n) {w : World} {A : Nat → Prop} : ∀ {l : List AR} {us vs : List Value},arsN L b n l = some us → (okr (gT L) σ l vs w A ↔ vs = us)
 | [],us,vs,h => by cases h; cases vs <;> simp [okr]
 | x :: l,us,vs,h => by
  unfold arsN at h
  split at h
  ·rename_i u r h1 h2
   cases h
   have h3 : ∀ v,x.ok (gT L) σ v w A ↔ v = u := fun v => by
    cases x with
    | c x => exact AC.gn_ok (x := x) hσ h1
    | row l => exact AR.gv_ok (x := .row l) h1
   cases vs with
   | nil => simp [okr]
   | cons v vs => simp only [okr,h3,arsN_ok hσ h2,List.cons.injEq]
  ·cases h
theorem ev_mem {tys : List (TypeId × TyI)} (ht : ∀ p ∈ tys,p.2.good P p.1 = true) (hm : P.follows .mixedOrders = true) (C : List (GC P L false)) (B : List (GB P L)) (O : List (GO P L)) {f : FuncId} {fn : Func} (hf : P.funcs[f]? = some fn) (fuel : Nat) (cells : List AC) (ty : TypeId) (args : List AR) (res : AV)
  (hev : evL (gcx tys false L C B O) fn fuel [⟨cells,ty⟩] args res = true) {pre : List Value} {vs : Nat → List Value} {v : Value} (hc : acsV L cells = some pre := by rfl) (ha : ∀ n,arsN L 0 n args = some (vs n) := by intro n; rfl) (hr : res.gv L = some v := by rfl) : PureM P f pre ty vs v := fun w n hn =>
 (ev_lent (gcx_ok ht C B O) hm hf fuel hev (fun k hk => by cases hk) (fun c _ x _ k hk => by cases hk) (fun b => if b = 0 then some n else none) w (fun x => x = n) (vs n) (fun h => by cases h) (fun x e => by rw [e]; exact (Array.getElem?_eq_some_iff.1 hn).1)
  ((arsN_ok (b := 0) (n := n) (by simp) (ha n)).2 rfl) (fun b ab hb => by
   match b,hb with
   | 0,hb => cases hb; exact ⟨n,pre,by simp,rfl,hn,(acsV_ok hc).2 rfl⟩
   | b + 1,hb => simp at hb) (fun b hb => by
   have : ¬ b = 0 := by simp at hb; omega
   simp [this])).mono fun r w' ⟨u,h1,h2,h3⟩ => ⟨by rw [h1,(AV.gv_ok hr).1 h2],h3⟩
def gpm (f : FuncId) (b : Nat) (cells : List AC) (ty : TypeId) (args : List AR) (res : AV) (ent : Enters P f) {pre : List Value} {vs : Nat → List Value} {v : Value} (h : PureM P f pre ty vs v) (hc : acsV L cells = some pre := by rfl) (ha : ∀ n,arsN L b n args = some (vs n) := by intro n; rfl) (hr : res.gv L = some v := by rfl) : GC P L hp :=
 ⟨{ f,args,res,needs := [(b,⟨cells,ty⟩)] },ent,fun σ w A us _ _ hu hn => by
  obtain ⟨⟨n,ws,k1,k2,k3,k4⟩,_⟩ := hn
  have e1 : ws = pre := (acsV_ok hc).1 k4
  subst e1
  have e2 : us = vs n := (arsN_ok k1 (ha n)).1 hu
  subst e2
  exact (h w n k3).mono fun r w' h => ⟨v,h.1,(AV.gv_ok hr).2 rfl,h.2⟩⟩
end
end Tr
namespace Go.Proofs.YteljkhfbgliokaaGreat
open Go.RowKit Tr
def tys : List (TypeId × TyI) := [
 (1,⟨false,1,[.nilf],[],none⟩),
 (2,⟨false,1,[.int .i64 0],[],none⟩),
 (3,⟨false,1,[.int .i64 0],[],none⟩),
 (4,⟨false,1,[.bool false],[],none⟩),
 (5,⟨false,1,[.int .u8 0],[],none⟩),
 (6,⟨false,1,[.int .u8 0],[],none⟩),
 (7,⟨true,4,[.int .i64 0,.int .i64 0,.bool false,.int .u8 0],[(0,1,false),(1,1,false),(2,1,false),(3,1,false)],none⟩),
 (8,⟨true,4,[.int .i64 0,.int .i64 0,.bool false,.int .u8 0],[(0,1,false),(1,1,false),(2,1,false),(3,1,false)],none⟩),
 (9,⟨false,1,[.str0],[],none⟩),
 (10,⟨false,1,[.str0],[],none⟩),
 (11,⟨false,1,[.str0],[],none⟩),
 (12,⟨false,1,[.int .u64 0],[],none⟩),
 (13,⟨true,2,[.str0,.int .u64 0],[(0,1,false),(1,1,false)],none⟩),
 (14,⟨true,2,[.str0,.int .u64 0],[(0,1,false),(1,1,false)],none⟩),
 (15,⟨false,1,[.nilp],[],none⟩),
 (16,⟨false,1,[.nilp],[],none⟩),
 (17,⟨false,1,[.nilp],[],none⟩),
 (18,⟨true,1,[.nilp],[(0,1,false)],none⟩),
 (19,⟨true,1,[.nilp],[(0,1,false)],none⟩),
 (21,⟨false,1,[.int .i32 0],[],none⟩),
 (22,⟨true,2,[.bool false,.str0],[(0,1,false),(1,1,false)],none⟩),
 (23,⟨true,2,[.bool false,.str0],[(0,1,false),(1,1,false)],none⟩),
 (24,⟨true,4,[.bool false,.str0,.bool false,.str0],[(0,2,true),(2,2,true)],none⟩),
 (25,⟨true,4,[.bool false,.str0,.bool false,.str0],[(0,2,true),(2,2,true)],none⟩),
 (26,⟨true,8,[.bool false,.str0,.bool false,.str0,.bool false,.str0,.bool false,.str0],[(0,4,true),(4,4,true)],none⟩),
 (27,⟨true,8,[.bool false,.str0,.bool false,.str0,.bool false,.str0,.bool false,.str0],[(0,4,true),(4,4,true)],none⟩),
 (28,⟨true,9,[.bool false,.bool false,.str0,.bool false,.str0,.bool false,.str0,.bool false,.str0],[(0,1,false),(1,8,true)],none⟩),
 (29,⟨true,9,[.bool false,.bool false,.str0,.bool false,.str0,.bool false,.str0,.bool false,.str0],[(0,1,false),(1,8,true)],none⟩),
 (30,⟨true,60,[.bool false,.bool false,.str0,.bool false,.str0,.bool false,.str0,.bool false,.str0,.bool false,.bool false,.str0,.bool false,.str0,.bool false,.str0,.bool false,.str0,.bool false,.bool false,.str0,.bool false,.str0,.bool false,.str0,.bool false,.str0,.bool false,.bool false,.str0,.bool false,.str0,.bool false,.str0,.bool false,.str0,.bool false,.str0,.bool false,.str0,.bool false,.str0,.bool false,.str0,.bool false,.str0,.bool false,.str0,.bool false,.str0,.bool false,.str0,.bool false,.str0,.bool false,.str0,.bool false,.str0,.bool false,.str0],[(0,9,true),(9,9,true),(18,9,true),(27,9,true),(36,8,true),(44,8,true),(52,8,true)],none⟩),
 (31,⟨true,60,[.bool false,.bool false,.str0,.bool false,.str0,.bool false,.str0,.bool false,.str0,.bool false,.bool false,.str0,.bool false,.str0,.bool false,.str0,.bool false,.str0,.bool false,.bool false,.str0,.bool false,.str0,.bool false,.str0,.bool false,.str0,.bool false,.bool false,.str0,.bool false,.str0,.bool false,.str0,.bool false,.str0,.bool false,.str0,.bool false,.str0,.bool false,.str0,.bool false,.str0,.bool false,.str0,.bool false,.str0,.bool false,.str0,.bool false,.str0,.bool false,.str0,.bool false,.str0,.bool false,.str0,.bool false,.str0],[(0,9,true),(9,9,true),(18,9,true),(27,9,true),(36,8,true),(44,8,true),(52,8,true)],none⟩),
 (32,⟨false,1,[.nilf],[],none⟩),
 (33,⟨false,1,[.nilf],[],none⟩),
 (34,⟨false,1,[.int .i64 0],[],none⟩),
 (36,⟨false,1,[.nilf],[],none⟩),
 (37,⟨true,27,[.bool false,.bool false,.str0,.bool false,.str0,.bool false,.str0,.bool false,.str0,.bool false,.bool false,.str0,.bool false,.str0,.bool false,.str0,.bool false,.str0,.bool false,.bool false,.str0,.bool false,.str0,.bool false,.str0,.bool false,.str0],[],some (3,9,29)⟩),
 (39,⟨false,1,[.nilf],[],none⟩),
 (41,⟨false,1,[.nilf],[],none⟩),
 (42,⟨false,1,[.nilf],[],none⟩),
 (44,⟨false,1,[.nilf],[],none⟩),
 (45,⟨false,1,[.nilf],[],none⟩),
 (46,⟨false,1,[.nils],[],some (0,8,27)⟩),
 (47,⟨false,1,[.nilf],[],none⟩),
 (48,⟨false,1,[.nilf],[],none⟩),
 (49,⟨false,1,[.nilf],[],none⟩),
 (50,⟨false,1,[.nilf],[],none⟩),
 (51,⟨true,16,[.bool false,.str0,.bool false,.str0,.bool false,.str0,.bool false,.str0,.bool false,.str0,.bool false,.str0,.bool false,.str0,.bool false,.str0],[(0,8,true),(8,8,true)],none⟩),
 (52,⟨true,16,[.bool false,.str0,.bool false,.str0,.bool false,.str0,.bool false,.str0,.bool false,.str0,.bool false,.str0,.bool false,.str0,.bool false,.str0],[(0,8,true),(8,8,true)],none⟩),
 (53,⟨false,1,[.nilf],[],none⟩),
 (55,⟨false,1,[.nilf],[],none⟩),
 (56,⟨false,1,[.nils],[],some (0,16,52)⟩),
 (57,⟨false,1,[.nilf],[],none⟩),
 (58,⟨false,1,[.nilf],[],none⟩),
 (59,⟨false,1,[.nilf],[],none⟩),
 (60,⟨false,1,[.nilf],[],none⟩),
 (61,⟨false,1,[.nilf],[],none⟩),
 (62,⟨false,1,[.nilf],[],none⟩),
 (63,⟨false,1,[.nilp],[],none⟩),
 (64,⟨false,1,[.nilp],[],none⟩),
 (65,⟨true,2,[.nilp,.nilp],[(0,1,false),(1,1,false)],none⟩),
 (66,⟨true,2,[.nilp,.nilp],[(0,1,false),(1,1,false)],none⟩),
 (67,⟨false,1,[.nilf],[],none⟩),
 (68,⟨true,4,[.nilp,.nilp,.nilp,.nilp],[(0,2,true),(2,2,true)],none⟩),
 (69,⟨true,4,[.nilp,.nilp,.nilp,.nilp],[(0,2,true),(2,2,true)],none⟩),
 (70,⟨true,16,[.nilp,.nilp,.nilp,.nilp,.nilp,.nilp,.nilp,.nilp,.nilp,.nilp,.nilp,.nilp,.nilp,.nilp,.nilp,.nilp],[],some (4,4,69)⟩),
 (71,⟨true,34,[.nilp,.nilp,.nilp,.nilp,.nilp,.nilp,.nilp,.nilp,.nilp,.nilp,.nilp,.nilp,.nilp,.nilp,.nilp,.nilp,.nilp,.nilp,.nilp,.nilp,.nilp,.nilp,.nilp,.nilp,.nilp,.nilp,.nilp,.nilp,.nilp,.nilp,.nilp,.nilp,.nilp,.nilp],[(0,16,true),(16,2,true),(18,2,true),(20,2,true),(22,4,true),(26,4,true),(30,4,true)],none⟩),
 (72,⟨true,34,[.nilp,.nilp,.nilp,.nilp,.nilp,.nilp,.nilp,.nilp,.nilp,.nilp,.nilp,.nilp,.nilp,.nilp,.nilp,.nilp,.nilp,.nilp,.nilp,.nilp,.nilp,.nilp,.nilp,.nilp,.nilp,.nilp,.nilp,.nilp,.nilp,.nilp,.nilp,.nilp,.nilp,.nilp],[(0,16,true),(16,2,true),(18,2,true),(20,2,true),(22,4,true),(26,4,true),(30,4,true)],none⟩),
 (73,⟨true,36,[.bool false,.bool false,.str0,.bool false,.str0,.bool false,.str0,.bool false,.str0,.bool false,.bool false,.str0,.bool false,.str0,.bool false,.str0,.bool false,.str0,.bool false,.bool false,.str0,.bool false,.str0,.bool false,.str0,.bool false,.str0,.bool false,.bool false,.str0,.bool false,.str0,.bool false,.str0,.bool false,.str0],[],some (4,9,29)⟩),
 (74,⟨false,1,[.nilf],[],none⟩),
 (76,⟨false,1,[.nilf],[],none⟩),
 (77,⟨false,1,[.nilf],[],none⟩),
 (78,⟨true,3,[.nilf,.nilf,.nilf],[],some (3,1,77)⟩),
 (79,⟨false,1,[.nilf],[],none⟩),
 (80,⟨false,1,[.nils],[],some (0,9,29)⟩),
 (81,⟨false,1,[.nilf],[],none⟩),
 (82,⟨false,1,[.nilf],[],none⟩),
 (83,⟨false,1,[.nilf],[],none⟩),
 (84,⟨false,1,[.nilf],[],none⟩),
 (85,⟨false,1,[.nilf],[],none⟩),
 (86,⟨false,1,[.nilf],[],none⟩),
 (87,⟨false,1,[.nilf],[],none⟩),
 (88,⟨false,1,[.nilf],[],none⟩),
 (89,⟨false,1,[.nilf],[],none⟩),
 (90,⟨false,1,[.nils],[],some (0,1,134)⟩),
 (91,⟨true,2,[.bool false,.nils],[(0,1,false),(1,1,false)],none⟩),
 (92,⟨true,2,[.bool false,.nils],[(0,1,false),(1,1,false)],none⟩),
 (93,⟨true,4,[.bool false,.nils,.bool false,.nils],[(0,2,true),(2,2,true)],none⟩),
 (94,⟨true,4,[.bool false,.nils,.bool false,.nils],[(0,2,true),(2,2,true)],none⟩),
 (95,⟨false,1,[.nilf],[],none⟩),
 (96,⟨true,24,[.bool false,.str0,.bool false,.str0,.bool false,.str0,.bool false,.str0,.bool false,.str0,.bool false,.str0,.bool false,.str0,.bool false,.str0,.bool false,.str0,.bool false,.str0,.bool false,.str0,.bool false,.str0],[],some (3,8,27)⟩),
 (97,⟨false,1,[.nilf],[],none⟩),
 (98,⟨false,1,[.nilf],[],none⟩),
 (99,⟨false,1,[.nilf],[],none⟩),
 (100,⟨false,1,[.nilf],[],none⟩),
 (101,⟨false,1,[.nilf],[],none⟩),
 (103,⟨false,1,[.nilf],[],none⟩),
 (104,⟨false,1,[.nilf],[],none⟩),
 (105,⟨false,1,[.nilf],[],none⟩),
 (106,⟨false,1,[.nilf],[],none⟩),
 (107,⟨false,1,[.nilf],[],none⟩),
 (108,⟨false,1,[.nilf],[],none⟩),
 (109,⟨false,1,[.nilf],[],none⟩),
 (110,⟨false,1,[.nilf],[],none⟩),
 (111,⟨false,1,[.nilf],[],none⟩),
 (112,⟨false,1,[.nilf],[],none⟩),
 (113,⟨false,1,[.nilp],[],none⟩),
 (114,⟨false,1,[.nilf],[],none⟩),
 (115,⟨false,1,[.nilf],[],none⟩),
 (116,⟨false,1,[.nilf],[],none⟩),
 (117,⟨false,1,[.nilf],[],none⟩),
 (118,⟨false,1,[.nilf],[],none⟩),
 (119,⟨false,1,[.nilf],[],none⟩),
 (120,⟨false,1,[.nilf],[],none⟩),
 (121,⟨false,1,[.nilf],[],none⟩),
 (122,⟨false,1,[.nilf],[],none⟩),
 (123,⟨false,1,[.nilf],[],none⟩),
 (124,⟨false,1,[.nilf],[],none⟩),
 (125,⟨false,1,[.nilf],[],none⟩),
 (127,⟨false,1,[.nilf],[],none⟩),
 (128,⟨false,1,[.nilf],[],none⟩),
 (129,⟨false,1,[.nilf],[],none⟩),
 (130,⟨false,1,[.nilf],[],none⟩),
 (131,⟨false,1,[.nilf],[],none⟩),
 (132,⟨false,1,[.int .u64 0],[],none⟩),
 (133,⟨false,1,[.nilf],[],none⟩),
 (134,⟨false,1,[.int .u32 0],[],none⟩),
 (135,⟨false,1,[.nils],[],some (0,1,5)⟩),
 (136,⟨false,1,[.nilf],[],none⟩),
 (137,⟨false,1,[.nilf],[],none⟩),
 (138,⟨false,1,[.nilf],[],none⟩),
 (139,⟨false,1,[.nilf],[],none⟩),
 (140,⟨false,1,[.nilf],[],none⟩),
 (141,⟨false,1,[.nilf],[],none⟩),
 (143,⟨false,1,[.nilf],[],none⟩),
 (144,⟨false,1,[.nilf],[],none⟩),
 (145,⟨false,1,[.nilf],[],none⟩),
 (146,⟨false,1,[.nilf],[],none⟩),
 (148,⟨false,1,[.nilf],[],none⟩),
 (149,⟨false,1,[.nilf],[],none⟩),
 (150,⟨false,1,[.nilf],[],none⟩),
 (151,⟨false,1,[.nilf],[],none⟩),
 (153,⟨false,1,[.nilf],[],none⟩),
 (154,⟨false,1,[.nilf],[],none⟩),
 (155,⟨false,1,[.nilf],[],none⟩),
 (157,⟨false,1,[.nilf],[],none⟩),
 (158,⟨false,1,[.nilf],[],none⟩),
 (159,⟨false,1,[.nilf],[],none⟩),
 (160,⟨false,1,[.nilf],[],none⟩),
 (161,⟨false,1,[.int .u64 0],[],none⟩),
 (163,⟨false,1,[.nilf],[],none⟩),
 (164,⟨false,1,[.nilf],[],none⟩),
 (165,⟨false,1,[.nilf],[],none⟩),
 (166,⟨true,4,[.nilp,.nilp,.nilp,.str0],[(0,1,false),(1,1,false),(2,1,false),(3,1,false)],none⟩),
 (167,⟨true,4,[.nilp,.nilp,.nilp,.str0],[(0,1,false),(1,1,false),(2,1,false),(3,1,false)],none⟩),
 (168,⟨true,0,[],[],some (0,1,16)⟩),
 (169,⟨true,0,[],[(0,0,true)],none⟩),
 (170,⟨true,0,[],[(0,0,true)],none⟩),
 (171,⟨false,1,[.int .u8 0],[],none⟩),
 (172,⟨false,1,[.int .u8 0],[],none⟩),
 (173,⟨false,1,[.nilf],[],none⟩),
 (174,⟨false,1,[.nilp],[],none⟩),
 (175,⟨false,1,[.int .i32 0],[],none⟩),
 (176,⟨false,1,[.int .i32 0],[],none⟩),
 (177,⟨true,11,[.int .u64 0,.int .u64 0,.int .u32 0,.int .u8 0,.int .u8 0,.int .u8 0,.int .u8 0,.nilf,.nilp,.int .i32 0,.int .i32 0],[(0,1,false),(1,1,false),(2,1,false),(3,1,false),(4,1,false),(5,1,false),(6,1,false),(7,1,false),(8,1,false),(9,1,false),(10,1,false)],none⟩),
 (178,⟨true,11,[.int .u64 0,.int .u64 0,.int .u32 0,.int .u8 0,.int .u8 0,.int .u8 0,.int .u8 0,.nilf,.nilp,.int .i32 0,.int .i32 0],[(0,1,false),(1,1,false),(2,1,false),(3,1,false),(4,1,false),(5,1,false),(6,1,false),(7,1,false),(8,1,false),(9,1,false),(10,1,false)],none⟩),
 (179,⟨false,1,[.nilp],[],none⟩)]
theorem tys_ok : ∀ p ∈ tys,p.2.good Tryz.prog p.1 = true := List.all_eq_true.1 (by kernel_rfl)
theorem mixed : Tryz.prog.follows .mixedOrders = true := by kernel_rfl
end Go.Proofs.YteljkhfbgliokaaGreat
namespace Tr
def wv : List Nat → Nat
 | [] => 0
 | x :: l => x + 4294967296 * wv l
def WOk (l : List Nat) : Prop := ∀ x ∈ l,x < 4294967296
def WNorm (l : List Nat) : Prop := ∀ l' x,l = l' ++ [x] → x ≠ 0
def words (n : Nat) : List Nat := if h : n = 0 then [] else n % 4294967296 :: words (n / 4294967296)
termination_by n
decreasing_by omega
theorem words_zero : words 0 = [] := by unfold words; rfl
theorem words_pos {n : Nat} (h : n ≠ 0) : words n = n % 4294967296 :: words (n / 4294967296) := by
 rw [words,dif_neg h]
theorem wv_nil : wv [] = 0 := rfl
theorem wv_cons (x : Nat) (l : List Nat) : wv (x :: l) = x + 4294967296 * wv l := rfl
theorem wv_words (n : Nat) : wv (words n) = n := by
 induction n using Nat.strongRecOn with
 | ind n ih =>
  by_cases h : n = 0
  ·subst h; rw [words_zero]; rfl
  ·rw [words_pos h,wv_cons,ih (n / 4294967296) (by omega)]; omega
theorem wok_nil : WOk [] := fun _ h => by cases h
theorem wok_cons {x : Nat} {l : List Nat} : WOk (x :: l) ↔ x < 4294967296 ∧ WOk l := by
 unfold WOk; simp
theorem wok_append {a b : List Nat} : WOk (a ++ b) ↔ WOk a ∧ WOk b := by
 unfold WOk; simp only [List.mem_append]
 exact ⟨fun h => ⟨fun x hx => h x (.inl hx),fun x hx => h x (.inr hx)⟩,fun h x hx => hx.elim (h.1 x) (h.2 x)⟩
theorem wok_words (n : Nat) : WOk (words n) := by
 induction n using Nat.strongRecOn with
 | ind n ih =>
  by_cases h : n = 0
  ·subst h; rw [words_zero]; exact wok_nil
  ·rw [words_pos h,wok_cons]; exact ⟨Nat.mod_lt _ (by decide),ih (n / 4294967296) (by omega)⟩
theorem words_eq_nil {n : Nat} : words n = [] ↔ n = 0 := by
 constructor
 ·intro h
  by_cases h0 : n = 0
  ·exact h0
  ·rw [words_pos h0] at h; cases h
 ·rintro rfl; exact words_zero
theorem wnorm_nil : WNorm [] := fun l' x h => by simp at h
theorem wnorm_words (n : Nat) : WNorm (words n) := by
 induction n using Nat.strongRecOn with
 | ind n ih =>
  by_cases h : n = 0
  ·subst h; rw [words_zero]; exact wnorm_nil
  ·rw [words_pos h]
   intro l' x hl
   cases l' with
   | nil =>
    simp at hl
    have := words_eq_nil.1 hl.2
    omega
   | cons y l' =>
    simp at hl
    exact ih (n / 4294967296) (by omega) l' x hl.2
theorem wv_append (a b : List Nat) : wv (a ++ b) = wv a + 4294967296 ^ a.length * wv b := by
 induction a with
 | nil => simp [wv]
 | cons x a ih =>
  rw [List.cons_append,wv_cons,wv_cons,ih,List.length_cons,Nat.pow_succ,Nat.mul_add,← Nat.mul_assoc,Nat.mul_comm (4294967296 ^ a.length)]
  omega
theorem wv_lt {l : List Nat} (h : WOk l) : wv l < 4294967296 ^ l.length := by
 induction l with
 | nil => simp [wv]
 | cons x l ih =>
  obtain ⟨hx,hl⟩ := wok_cons.1 h
  have := ih hl
  rw [wv_cons,List.length_cons,Nat.pow_succ]
  omega
theorem wv_snoc (l : List Nat) (x : Nat) : wv (l ++ [x]) = wv l + 4294967296 ^ l.length * x := by
 rw [wv_append]; simp [wv]
theorem words_of {l : List Nat} (h : WOk l) (hn : WNorm l) : words (wv l) = l := by
 induction l with
 | nil => exact words_zero
 | cons x l ih =>
  obtain ⟨hx,hl⟩ := wok_cons.1 h
  have hn' : WNorm l := fun l' y e => hn (x :: l') y (by rw [e]; rfl)
  have ih' := ih hl hn'
  by_cases h0 : wv (x :: l) = 0
  ·exfalso
   rw [wv_cons] at h0
   have h1 : x = 0 := by omega
   have h2 : wv l = 0 := by omega
   rw [h2,words_zero] at ih'
   subst ih'
   exact hn [] x rfl h1
  ·rw [words_pos h0,wv_cons]
   have e1 : (x + 4294967296 * wv l) % 4294967296 = x := by omega
   have e2 : (x + 4294967296 * wv l) / 4294967296 = wv l := by omega
   rw [e1,e2,ih']
theorem words_ext {l : List Nat} {n : Nat} (h : WOk l) (hn : WNorm l) (hv : wv l = n) : l = words n := by rw [← hv,words_of h hn]
theorem wv_zeros {l : List Nat} (h : ∀ x ∈ l,x = 0) : wv l = 0 := by
 induction l with
 | nil => rfl
 | cons x l ih =>
  rw [wv_cons,h x (by simp),ih (fun y hy => h y (by simp [hy]))]
theorem take_words {l : List Nat} {k : Nat} (hk : k ≤ l.length) (h : WOk l) (hz : ∀ j,k ≤ j → j < l.length → l[j]?.getD 0 = 0) (hl : k = 0 ∨ l[k - 1]?.getD 0 ≠ 0) :
  l.take k = words (wv l) := by
 have hsplit := (List.take_append_drop k l).symm
 have hd : wv (l.drop k) = 0 := by
  refine wv_zeros fun x hx => ?_
  obtain ⟨i,hi,rfl⟩ := List.getElem_of_mem hx
  simp at hi
  have := hz (k + i) (by omega) (by omega)
  rw [List.getElem?_eq_getElem (by omega)] at this
  simpa using this
 have hv : wv (l.take k) = wv l := by
  rw [hsplit,wv_append,hd]; simp
 refine words_ext (fun x hx => h x (List.mem_of_mem_take hx)) ?_ hv
 intro l' x e
 rcases hl with rfl | hl
 ·simp at e
 ·have hlen : (l.take k).length = k := by simp; omega
  have h2 : l'.length + 1 = k := by rw [← hlen,e]; simp
  have h3 : (l.take k)[k - 1]? = some x := by rw [e,show k - 1 = l'.length by omega]; simp
  rw [List.getElem?_take_of_lt (by omega)] at h3
  rw [h3] at hl
  simpa using hl
theorem words_length_le {n k : Nat} (h : n < 4294967296 ^ k) : (words n).length ≤ k := by
 induction k generalizing n with
 | zero => simp at h; subst h; rw [words_zero]; simp
 | succ k ih =>
  by_cases h0 : n = 0
  ·subst h0; rw [words_zero]; simp
  ·rw [words_pos h0,List.length_cons]
   have := ih (n := n / 4294967296) (by rw [Nat.pow_succ] at h; exact Nat.div_lt_of_lt_mul (by rw [Nat.mul_comm]; exact h))
   omega
theorem words_length_gt {n k : Nat} (h : 4294967296 ^ k ≤ n) : k < (words n).length := by
 rcases Nat.lt_or_ge k (words n).length with h1 | h1
 ·exact h1
 ·have := wv_lt (wok_words n)
  rw [wv_words] at this
  have := Nat.pow_le_pow_right (show 0 < 4294967296 by decide) h1
  omega
theorem lt_words (n : Nat) : n < 4294967296 ^ (words n).length := by
 have := wv_lt (wok_words n); rwa [wv_words] at this
def cmpZ (a b : Nat) : Int := if a < b then -1 else if b < a then 1 else 0
theorem cmp_shorter {a b : Nat} (h : (words a).length < (words b).length) : a < b := by
 rcases Nat.lt_or_ge a b with h1 | h1
 ·exact h1
 ·have := words_length_le (n := b) (k := (words a).length) (Nat.lt_of_le_of_lt h1 (lt_words a))
  omega
theorem wv_split {l : List Nat} {i : Nat} (h : i < l.length) : wv l = wv (l.take i) + 4294967296 ^ i * (l[i] + 4294967296 * wv (l.drop (i + 1))) := by
 have h1 : l = l.take i ++ (l[i] :: l.drop (i + 1)) := by
  rw [← List.drop_eq_getElem_cons h,List.take_append_drop]
 have h2 : (l.take i).length = i := by simp; omega
 conv => lhs; rw [h1]
 rw [wv_append,wv_cons,h2]
theorem lt_of_word {a b : List Nat} {i : Nat} (ha : WOk a) (hi : i < a.length) (hj : i < b.length) (hd : a.drop (i + 1) = b.drop (i + 1)) (h : a[i] < b[i]) : wv a < wv b := by
 rw [wv_split hi,wv_split hj,hd]
 have h1 := wv_lt (l := a.take i) (fun x hx => ha x (List.mem_of_mem_take hx))
 have h2 : (a.take i).length = i := by simp; omega
 rw [h2] at h1
 generalize 4294967296 ^ i = P at *
 have h3 : P * (a[i] + 4294967296 * wv (b.drop (i + 1))) + P ≤ P * (b[i] + 4294967296 * wv (b.drop (i + 1))) := by
  rw [← Nat.mul_succ]
  exact Nat.mul_le_mul_left _ (by omega)
 omega
theorem wv_set {l : List Nat} {i : Nat} (h : i < l.length) (x : Nat) : wv (l.set i x) + 4294967296 ^ i * l[i] = wv l + 4294967296 ^ i * x := by
 have h1 := wv_split (l := l.set i x) (i := i) (by simpa using h)
 have h2 := wv_split h
 rw [List.take_set_of_le (Nat.le_refl i),List.drop_set_of_lt (by omega),List.getElem_set_self] at h1
 rw [h1,h2,Nat.mul_add,Nat.mul_add]
 omega
theorem wok_set {l : List Nat} (h : WOk l) (i x : Nat) (hx : x < 4294967296) : WOk (l.set i x) := by
 intro y hy
 rcases List.mem_or_eq_of_mem_set hy with h1 | rfl
 ·exact h y h1
 ·exact hx
theorem wok_get {l : List Nat} (h : WOk l) {i : Nat} (hi : i < l.length) : l[i] < 4294967296 := h _ (List.getElem_mem hi)
theorem wok_take {l : List Nat} (h : WOk l) (k : Nat) : WOk (l.take k) := fun x hx => h x (List.mem_of_mem_take hx)
theorem wok_drop {l : List Nat} (h : WOk l) (k : Nat) : WOk (l.drop k) := fun x hx => h x (List.mem_of_mem_drop hx)
theorem wok_replicate (n : Nat) : WOk (List.replicate n 0) := fun x hx => by simp at hx; omega
theorem wv_replicate (n : Nat) : wv (List.replicate n 0) = 0 := wv_zeros fun x hx => by simp at hx; exact hx.2
theorem wv_take_succ {l : List Nat} {i : Nat} (h : i < l.length) : wv (l.take (i + 1)) = wv (l.take i) + 4294967296 ^ i * l[i] := by
 rw [List.take_succ_eq_append_getElem h,wv_snoc]
 have h2 : (l.take i).length = i := by simp; omega
 rw [h2]
theorem wv_drop {l : List Nat} {i : Nat} (h : i < l.length) : wv (l.drop i) = l[i] + 4294967296 * wv (l.drop (i + 1)) := by
 rw [List.drop_eq_getElem_cons h,wv_cons]
def wat (l : List Nat) (i : Nat) : Nat := l[i]?.getD 0
theorem wat_lt {l : List Nat} (h : WOk l) (i : Nat) : wat l i < 4294967296 := by
 unfold wat
 by_cases hi : i < l.length
 ·rw [List.getElem?_eq_getElem hi]; exact wok_get h hi
 ·rw [List.getElem?_eq_none (by omega)]; decide
theorem wat_of {l : List Nat} {i : Nat} (h : i < l.length) : wat l i = l[i] := by unfold wat; rw [List.getElem?_eq_getElem h]; rfl
theorem wat_out {l : List Nat} {i : Nat} (h : l.length ≤ i) : wat l i = 0 := by unfold wat; rw [List.getElem?_eq_none h]; rfl
theorem wv_take_wat (l : List Nat) (i : Nat) : wv (l.take (i + 1)) = wv (l.take i) + 4294967296 ^ i * wat l i := by
 by_cases h : i < l.length
 ·rw [wv_take_succ h,wat_of h]
 ·rw [wat_out (by omega),List.take_of_length_le (by omega),List.take_of_length_le (by omega)]; simp
theorem take_set_succ {l : List Nat} {i : Nat} (h : i < l.length) (x : Nat) : (l.set i x).take (i + 1) = l.take i ++ [x] := by
 rw [List.take_succ_eq_append_getElem (by simpa using h),List.take_set_of_le (Nat.le_refl i),List.getElem_set_self]
theorem wv_take_set {l : List Nat} {i : Nat} (h : i < l.length) (x : Nat) : wv ((l.set i x).take (i + 1)) = wv (l.take i) + 4294967296 ^ i * x := by
 rw [take_set_succ h,wv_snoc]
 have h2 : (l.take i).length = i := by simp; omega
 rw [h2]
theorem mul_split (P s : Nat) : P * (s % 4294967296) + P * 4294967296 * (s / 4294967296) = P * s := by
 have : P * s = P * (s % 4294967296 + 4294967296 * (s / 4294967296)) := by rw [Nat.mod_add_div]
 rw [this,Nat.mul_add,Nat.mul_assoc]
theorem more_step {out la lb : List Nat} {i c : Nat} (ho : i < out.length) (h : wv (out.take i) + 4294967296 ^ i * c = wv (la.take i) + wv (lb.take i)) :
  wv ((out.set i ((c + wat la i + wat lb i) % 4294967296)).take (i + 1)) + 4294967296 ^ (i + 1) * ((c + wat la i + wat lb i) / 4294967296) = wv (la.take (i + 1)) + wv (lb.take (i + 1)) := by
 rw [wv_take_set ho,wv_take_wat,wv_take_wat,Nat.pow_succ]
 have := mul_split (4294967296 ^ i) (c + wat la i + wat lb i)
 rw [Nat.mul_add,Nat.mul_add] at this
 omega
theorem more_end {out la lb : List Nat} {n c : Nat} (ho : out.length = n + 1) (ha : la.length = n) (hb : lb.length ≤ n) (h : wv (out.take n) + 4294967296 ^ n * c = wv (la.take n) + wv (lb.take n)) :
  wv (out.set n c) = wv la + wv lb := by
 have e := wv_take_set (l := out) (i := n) (by omega) c
 rw [List.take_of_length_le (by simp; omega)] at e
 rw [e,h,List.take_of_length_le (by omega),List.take_of_length_le hb]
theorem less_step {out la lb : List Nat} {i c d : Nat} (ho : i < out.length) {e : Nat} (he : wat la i + 4294967296 * e = d + wat lb i + c) (h : wv (out.take i) + wv (lb.take i) = wv (la.take i) + 4294967296 ^ i * c) :
  wv ((out.set i d).take (i + 1)) + wv (lb.take (i + 1)) = wv (la.take (i + 1)) + 4294967296 ^ (i + 1) * e := by
 rw [wv_take_set ho,wv_take_wat,wv_take_wat,Nat.pow_succ,Nat.mul_assoc]
 generalize 4294967296 ^ i = P at *
 have : P * (wat la i + 4294967296 * e) = P * (d + wat lb i + c) := by rw [he]
 rw [Nat.mul_add,Nat.mul_add,Nat.mul_add] at this
 omega
theorem less_end {out la lb : List Nat} {n c : Nat} (ho : out.length = n) (oo : WOk out) (ha : la.length = n) (hb : lb.length ≤ n) (hle : wv lb ≤ wv la) (h : wv (out.take n) + wv (lb.take n) = wv (la.take n) + 4294967296 ^ n * c) : wv out = wv la - wv lb := by
 rw [List.take_of_length_le (by omega),List.take_of_length_le hb,List.take_of_length_le (by omega)] at h
 have h1 := wv_lt oo
 rw [ho] at h1
 have hc : c = 0 := by
  rcases Nat.eq_zero_or_pos c with h0 | h0
  ·exact h0
  ·have : 4294967296 ^ n * 1 ≤ 4294967296 ^ n * c := Nat.mul_le_mul_left _ h0
   omega
 subst hc
 omega
end Tr
