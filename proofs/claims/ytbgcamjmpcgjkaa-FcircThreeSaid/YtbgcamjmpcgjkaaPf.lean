/- FcircThree, for every input: the circle through any three whole points (of numbers up to 2^10) has them on it; what moves nothing changes it in nothing but noughts' signs. No condition. -/
import Derived.Test.YtbgcamjmpcgjkaaLw
import Derived.ProofKit
import Derived.OpenShut
import Derived.ShutString
import Derived.ChangeOld
import Derived.Below
import Derived.Lib.SmallJoins
namespace Go.Proofs.Ytbgcamjmpcgjkaa
open Go.ChangeShapes Go.WideShapes Go.ChangeAt Go.RowKit Go.Deep Go.Joins

theorem Try.own : ownKnob Try.prog.godebug = none := by kernel_rfl
theorem Try.laidOut : laidOutB Try.prog = true := by kernel_rfl

theorem open_whole {H : Type} {enc : TypeId × Value → H} {w : World} {base : Nat} {spare : Nat → Bool} {held : Bool} {r : Reach} {b0 : Nat} {v : Value} {d : DataW H} {p : List MemPlace}
    (hv : Value.okWide Try.prog w r b0 23 v) (h : DataW.Trod enc Try.prog w base spare held 23 v d p) :
    ∃ n1 n2 n3 n4 n5 n6 : Int, v = .agg #[.int .i64 n1, .int .i64 n2, .int .i64 n3, .int .i64 n4, .int .i64 n5, .int .i64 n6] := by
  have hs := Try.underlying23
  have hi := Try.underlying2
  obtain ⟨cs, rfl, hsz⟩ := okWide_struct hs hv
  have hc : (Try.prog).cellsOf 23 = 6 := by kernel_rfl
  have hc1 : (Try.prog).cellsOf 2 = 1 := by kernel_rfl
  obtain ⟨fuel, hf⟩ := h
  obtain ⟨xs, n, _, _, _, hlen, hg⟩ := DataW.trod_struct hs hf
  obtain ⟨l⟩ := cs
  match l, hsz.trans hc with
  | [c0, c1, c2, c3, c4, c5], _ =>
    have get : ∀ (c : Value) (x : Option (DataW H × List MemPlace)), x.isSome = true → DataW.trod enc Try.prog w base spare held n 2 [c] = x → ∃ z, c = .int .i64 z := by
      intro c x hx he
      obtain ⟨y, rfl⟩ := Option.isSome_iff_exists.1 hx
      obtain ⟨z, hz, _⟩ := DataW.trod_int hi he
      exact ⟨z, by simpa using hz⟩
    have some_of : ∀ j, j < 6 → (xs[j]?).isSome = true := by
      intro j hj
      have : xs.length = 6 := hlen
      simp [this, hj]
    obtain ⟨n1, rfl⟩ := get c0 _ (some_of 0 (by decide)) (by have := hg 0 _ rfl; simpa [hc1, Value.cells] using this)
    obtain ⟨n2, rfl⟩ := get c1 _ (some_of 1 (by decide)) (by have := hg 1 _ rfl; simpa [hc1, Value.cells] using this)
    obtain ⟨n3, rfl⟩ := get c2 _ (some_of 2 (by decide)) (by have := hg 2 _ rfl; simpa [hc1, Value.cells] using this)
    obtain ⟨n4, rfl⟩ := get c3 _ (some_of 3 (by decide)) (by have := hg 3 _ rfl; simpa [hc1, Value.cells] using this)
    obtain ⟨n5, rfl⟩ := get c4 _ (some_of 4 (by decide)) (by have := hg 4 _ rfl; simpa [hc1, Value.cells] using this)
    obtain ⟨n6, rfl⟩ := get c5 _ (some_of 5 (by decide)) (by have := hg 5 _ rfl; simpa [hc1, Value.cells] using this)
    exact ⟨n1, n2, n3, n4, n5, n6, rfl⟩

set_option maxRecDepth 100000 in
theorem lifted (os : Os) (started : os.Started) (H : Type) (enc : TypeId × Value → H) :
    ReturnsInHanded {} Try.checked os 3 .any (Rows.fcircThreeSpec.pre6 enc Try.prog Try.f3 Rows.fcircThreeRow.domain false) (Rows.fcircThreeSpec.post enc Try.prog Try.f3 false true false false) := by
  refine returnsInHanded_of_change (C := Try.checked) Try.own started (by kernel_rfl) Try.func3
    (ChangeSpec.witness6 (enc := enc) (C := Try.checked) false ⟨#[], #[.agg #[.int .i64 0, .int .i64 0, .int .i64 0, .int .i64 0, .int .i64 0, .int .i64 0]], []⟩ 8 (by kernel_rfl) (by kernel_rfl) (by kernel_rfl) (by kernel_rfl)) ?_
  intro W base args ds gs before hval0 hW hcnd _
  have hval : ∀ (j : Nat) t v, Try.f3.params[j]? = some t → args[j]? = some v → Value.okWide Try.prog W .any base t v := hval0
  have hW' := hW
  obtain ⟨p, q, hA0, hV, rfl, hfz, hnd⟩ := hW
  have hA : DataW.TrodAll enc Try.prog W 0 (fun _ => true) true Try.f3.params.toList args.toList ds p := hA0
  rw [Try.params3] at hA hval
  obtain ⟨v0, d0, rfl, rfl, h0⟩ := trodAll_one hA
  obtain ⟨rfl, rfl⟩ := trodVars_none hV
  have k0 := h0
  have lt0 : ∀ x ∈ p, x.block < W.heap.size := by obtain ⟨m, hm⟩ := k0; exact DataW.trod_lt m _ _ _ hm
  obtain ⟨n1, n2, n3, n4, n5, n6, rfl⟩ := open_whole (hval 0 23 v0 rfl rfl) h0
  clear hA0 hval0
  refine (law_ok n1 n2 n3 n4 n5 n6 W).mono fun e W' ⟨he, bel⟩ => ?_
  subst he
  exact ⟨_, rfl, _, _, _, [], _, [], hW', trodAll_mk1 (shut_bool Try.underlying4 _), (trodAll_mk1 (Below.trod Try.laidOut (by kernel_rfl) (of_decide_eq_true (by kernel_rfl)) k0 bel lt0)), rfl, bel.frame _, fun h => by cases h⟩

theorem FcircThree_holds : Rows.FcircThreeSaid :=
  OpenClaim.holds_of_wide 3 Try.f3 rfl rfl rfl rfl rfl rfl rfl ⟨rfl, rfl, rfl, rfl, rfl⟩ rfl rfl rfl rfl rfl (by kernel_rfl) Try.func3 (by kernel_rfl)
    (of_decide_eq_true (by kernel_rfl)) (by unfold Func.isWrapper; first | (rw [if_pos (by decide +kernel)]; kernel_rfl) | (rw [if_neg (by decide +kernel)]; exact ⟨rfl, rfl⟩))
    (fun os started H enc _ => lifted os started H enc)
#print axioms FcircThree_holds
end Go.Proofs.Ytbgcamjmpcgjkaa
