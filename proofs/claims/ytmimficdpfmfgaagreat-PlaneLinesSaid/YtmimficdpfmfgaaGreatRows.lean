/-
  No cell of these rows narrows 'for every input' (looked for: loops, veiled, ifaces, maps, wideKeys, modest, calm, conditions, laid).
  DERIVED. THE GIVEN ROWS OF THIS SEAT. 6 by the template 'for every input the law returns true; each argument reads behind the call as it read before'; 0 by the template 'total and deterministic' (their statements: YtmimficdpfmfgaaGreatTotals.lean).
  GIVEN WITH THE SEED: the statements are not yours to turn. If you find one false, say at which input.
  Laid BY PROGRAM, IN A SANDBOX (cutbox-rows.mjs): the forced cells as the released guide's own fill.sh prints them over the translation f1e55182842a099c… (all of the seat's roots in one cut). By AI agents, Wed Nov 11 2026. No macro, syntax, notation, axiom, sorry.
-/
import Derived.Test.YtmimficdpfmfgaaGreatChecked
import GoSem.Claim
import GoSem.ClaimJoined
import GoSem.ClaimMapViews
import Derived.JoinedTies
import Derived.KernelRfl
namespace Go.Proofs.YtmimficdpfmfgaaGreat
/- THE CELL 'sum', in the pinned program and in every row, IS THE sha256 OF THE DUMP (.gsa) THAT YtmimficdpfmfgaaGreatProg.lean LOADS. Nothing in Lean hashes anything: it is a label: what it is worth is what the hold of that sum in a sandbox is worth. -/
noncomputable def Tryz.pinned : Pinned := { name := "ytmimficdpfmfgaagreat", sum := "f1e55182842a099c60ddca2efdff0eaba5f6d94d0e4708baad61919c0ac71e90", checked := Tryz.checked }
namespace Rows
def none {H : Type} : Left H := { results := [], args := [] }

/-- 'tracerylaw25.PlaneMaps': WHATEVER THE INPUT: true; the input reads as it did. -/
def planeMapsSpec : ChangeSpec := { name := "planeMaps", fn := fun _ => fun
  | [d1, d2, d3] => { results := [.lit (.bool true)], args := [d1, d2, d3] }
  | _ => none }
def planeMapsRow : OpenClaim := { program := "ytmimficdpfmfgaagreat", sum := "f1e55182842a099c60ddca2efdff0eaba5f6d94d0e4708baad61919c0ac71e90", func := "tracery/tracerylaw25.PlaneMaps", spec := "planeMaps", unfollowed := true, recurses := true, plainKeys := false, apart := false }
def PlaneMapsSaid : Prop := planeMapsRow.holds Tryz.pinned (OpenSpec.ofChange planeMapsSpec)

/-- ITS FALSE NEIGHBOUR: 'it returns false'. Refute it at one input. -/
def planeMapsWrong : ChangeSpec := { name := "planeMaps", fn := fun _ => fun
  | [d1, d2, d3] => { results := [.lit (.bool false)], args := [d1, d2, d3] }
  | _ => none }
def PlaneMapsWrongFalsely : Prop := planeMapsRow.holds Tryz.pinned (OpenSpec.ofChange planeMapsWrong)

/-- 'tracerylaw25.PlaneLines': WHATEVER THE INPUT: true; the input reads as it did. -/
def planeLinesSpec : ChangeSpec := { name := "planeLines", fn := fun _ => fun
  | [d1, d2, d3] => { results := [.lit (.bool true)], args := [d1, d2, d3] }
  | _ => none }
def planeLinesRow : OpenClaim := { program := "ytmimficdpfmfgaagreat", sum := "f1e55182842a099c60ddca2efdff0eaba5f6d94d0e4708baad61919c0ac71e90", func := "tracery/tracerylaw25.PlaneLines", spec := "planeLines", unfollowed := true, recurses := true, plainKeys := false, apart := false }
def PlaneLinesSaid : Prop := planeLinesRow.holds Tryz.pinned (OpenSpec.ofChange planeLinesSpec)

/-- ITS FALSE NEIGHBOUR: 'it returns false'. Refute it at one input. -/
def planeLinesWrong : ChangeSpec := { name := "planeLines", fn := fun _ => fun
  | [d1, d2, d3] => { results := [.lit (.bool false)], args := [d1, d2, d3] }
  | _ => none }
def PlaneLinesWrongFalsely : Prop := planeLinesRow.holds Tryz.pinned (OpenSpec.ofChange planeLinesWrong)

/-- 'tracerylaw25.PlaneTwo': WHATEVER THE INPUT: true; the input reads as it did. -/
def planeTwoSpec : ChangeSpec := { name := "planeTwo", fn := fun _ => fun
  | [d1, d2, d3] => { results := [.lit (.bool true)], args := [d1, d2, d3] }
  | _ => none }
def planeTwoRow : OpenClaim := { program := "ytmimficdpfmfgaagreat", sum := "f1e55182842a099c60ddca2efdff0eaba5f6d94d0e4708baad61919c0ac71e90", func := "tracery/tracerylaw25.PlaneTwo", spec := "planeTwo", unfollowed := true, recurses := true, plainKeys := false, apart := false }
def PlaneTwoSaid : Prop := planeTwoRow.holds Tryz.pinned (OpenSpec.ofChange planeTwoSpec)

/-- ITS FALSE NEIGHBOUR: 'it returns false'. Refute it at one input. -/
def planeTwoWrong : ChangeSpec := { name := "planeTwo", fn := fun _ => fun
  | [d1, d2, d3] => { results := [.lit (.bool false)], args := [d1, d2, d3] }
  | _ => none }
def PlaneTwoWrongFalsely : Prop := planeTwoRow.holds Tryz.pinned (OpenSpec.ofChange planeTwoWrong)

/-- 'tracerylaw25.PlaneKept': WHATEVER THE INPUT: true; the input reads as it did. -/
def planeKeptSpec : ChangeSpec := { name := "planeKept", fn := fun _ => fun
  | [d1, d2] => { results := [.lit (.bool true)], args := [d1, d2] }
  | _ => none }
def planeKeptRow : OpenClaim := { program := "ytmimficdpfmfgaagreat", sum := "f1e55182842a099c60ddca2efdff0eaba5f6d94d0e4708baad61919c0ac71e90", func := "tracery/tracerylaw25.PlaneKept", spec := "planeKept", unfollowed := true, recurses := true, plainKeys := false, apart := false }
def PlaneKeptSaid : Prop := planeKeptRow.holds Tryz.pinned (OpenSpec.ofChange planeKeptSpec)

/-- ITS FALSE NEIGHBOUR: 'it returns false'. Refute it at one input. -/
def planeKeptWrong : ChangeSpec := { name := "planeKept", fn := fun _ => fun
  | [d1, d2] => { results := [.lit (.bool false)], args := [d1, d2] }
  | _ => none }
def PlaneKeptWrongFalsely : Prop := planeKeptRow.holds Tryz.pinned (OpenSpec.ofChange planeKeptWrong)

/-- 'tracerylaw25.PlaneThree': WHATEVER THE INPUT: true; the input reads as it did. -/
def planeThreeSpec : ChangeSpec := { name := "planeThree", fn := fun _ => fun
  | [d1, d2, d3] => { results := [.lit (.bool true)], args := [d1, d2, d3] }
  | _ => none }
def planeThreeRow : OpenClaim := { program := "ytmimficdpfmfgaagreat", sum := "f1e55182842a099c60ddca2efdff0eaba5f6d94d0e4708baad61919c0ac71e90", func := "tracery/tracerylaw25.PlaneThree", spec := "planeThree", unfollowed := true, recurses := true, plainKeys := false, apart := false }
def PlaneThreeSaid : Prop := planeThreeRow.holds Tryz.pinned (OpenSpec.ofChange planeThreeSpec)

/-- ITS FALSE NEIGHBOUR: 'it returns false'. Refute it at one input. -/
def planeThreeWrong : ChangeSpec := { name := "planeThree", fn := fun _ => fun
  | [d1, d2, d3] => { results := [.lit (.bool false)], args := [d1, d2, d3] }
  | _ => none }
def PlaneThreeWrongFalsely : Prop := planeThreeRow.holds Tryz.pinned (OpenSpec.ofChange planeThreeWrong)

/-- 'tracerylaw25.PlaneLaws': WHATEVER THE INPUT: true; the input reads as it did. -/
def planeLawsSpec : ChangeSpec := { name := "planeLaws", fn := fun _ => fun
  | [d1, d2] => { results := [.lit (.bool true)], args := [d1, d2] }
  | _ => none }
def planeLawsRow : OpenClaim := { program := "ytmimficdpfmfgaagreat", sum := "f1e55182842a099c60ddca2efdff0eaba5f6d94d0e4708baad61919c0ac71e90", func := "tracery/tracerylaw25.PlaneLaws", spec := "planeLaws", unfollowed := true, recurses := true, plainKeys := false, apart := false }
def PlaneLawsSaid : Prop := planeLawsRow.holds Tryz.pinned (OpenSpec.ofChange planeLawsSpec)

/-- ITS FALSE NEIGHBOUR: 'it returns false'. Refute it at one input. -/
def planeLawsWrong : ChangeSpec := { name := "planeLaws", fn := fun _ => fun
  | [d1, d2] => { results := [.lit (.bool false)], args := [d1, d2] }
  | _ => none }
def PlaneLawsWrongFalsely : Prop := planeLawsRow.holds Tryz.pinned (OpenSpec.ofChange planeLawsWrong)

/- THE SECOND FORM. 'bulk': how many values and letters a reading holds, each counted each time it is reached (what is shared counts as often as it is met; a slice's spare places count too). A statement '..UptoSaid' is the law's where the arguments, and the package variables that the reading takes, are together of bulk at most 1048576: NARROWER than '..Said'. Prove '..Said' where nothing that the law and all that it calls make is longer than what came in: it says more and counts as full. Else prove '..UptoSaid'. A law counts once. -/
mutual
def uptoBulk {H : Type} : DataW H → Nat
  | .lit (.string bytes) => bytes.length + 1
  | .lit _ => 1
  | .nil => 1
  | .ptr d => uptoBulk d + 1
  | .slice elems spare => uptoBulkAll elems + uptoBulkAll spare + 1
  | .agg parts => uptoBulkAll parts + 1
  | .iface _ d => uptoBulk d + 1
  | .map entries => uptoBulkEntries entries + 1
  | .held _ => 1
def uptoBulkAll {H : Type} : List (DataW H) → Nat
  | [] => 0
  | d :: r => uptoBulk d + uptoBulkAll r
def uptoBulkEntries {H : Type} : List (Lit × DataW H) → Nat
  | [] => 0
  | x :: r => uptoBulkEntry x + uptoBulkEntries r
def uptoBulkEntry {H : Type} : Lit × DataW H → Nat
  | (.string bytes, d) => bytes.length + uptoBulk d + 1
  | (_, d) => uptoBulk d + 1
 end
def uptoSmall : (H : Type) → List (DataW H) → Bool := fun _ ds => decide (uptoBulkAll ds ≤ 1048576)
def OpenSpec.upto (s : _root_.Go.ChangeSpec) : _root_.Go.OpenSpec := { _root_.Go.OpenSpec.ofChange s with cond := some uptoSmall }

/-- 'tracerylaw25.PlaneMaps', WHERE WHAT IT READS IS OF BULK AT MOST 1048576: true; the input reads as it did. -/
def planeMapsUptoRow : OpenClaim := { program := "ytmimficdpfmfgaagreat", sum := "f1e55182842a099c60ddca2efdff0eaba5f6d94d0e4708baad61919c0ac71e90", func := "tracery/tracerylaw25.PlaneMaps", spec := "planeMaps", unfollowed := true, recurses := true, plainKeys := false, apart := false, narrowed := true }
def PlaneMapsUptoSaid : Prop := planeMapsUptoRow.holds Tryz.pinned (OpenSpec.upto planeMapsSpec)

/-- 'tracerylaw25.PlaneLines', WHERE WHAT IT READS IS OF BULK AT MOST 1048576: true; the input reads as it did. -/
def planeLinesUptoRow : OpenClaim := { program := "ytmimficdpfmfgaagreat", sum := "f1e55182842a099c60ddca2efdff0eaba5f6d94d0e4708baad61919c0ac71e90", func := "tracery/tracerylaw25.PlaneLines", spec := "planeLines", unfollowed := true, recurses := true, plainKeys := false, apart := false, narrowed := true }
def PlaneLinesUptoSaid : Prop := planeLinesUptoRow.holds Tryz.pinned (OpenSpec.upto planeLinesSpec)

/-- 'tracerylaw25.PlaneTwo', WHERE WHAT IT READS IS OF BULK AT MOST 1048576: true; the input reads as it did. -/
def planeTwoUptoRow : OpenClaim := { program := "ytmimficdpfmfgaagreat", sum := "f1e55182842a099c60ddca2efdff0eaba5f6d94d0e4708baad61919c0ac71e90", func := "tracery/tracerylaw25.PlaneTwo", spec := "planeTwo", unfollowed := true, recurses := true, plainKeys := false, apart := false, narrowed := true }
def PlaneTwoUptoSaid : Prop := planeTwoUptoRow.holds Tryz.pinned (OpenSpec.upto planeTwoSpec)

/-- 'tracerylaw25.PlaneKept', WHERE WHAT IT READS IS OF BULK AT MOST 1048576: true; the input reads as it did. -/
def planeKeptUptoRow : OpenClaim := { program := "ytmimficdpfmfgaagreat", sum := "f1e55182842a099c60ddca2efdff0eaba5f6d94d0e4708baad61919c0ac71e90", func := "tracery/tracerylaw25.PlaneKept", spec := "planeKept", unfollowed := true, recurses := true, plainKeys := false, apart := false, narrowed := true }
def PlaneKeptUptoSaid : Prop := planeKeptUptoRow.holds Tryz.pinned (OpenSpec.upto planeKeptSpec)

/-- 'tracerylaw25.PlaneThree', WHERE WHAT IT READS IS OF BULK AT MOST 1048576: true; the input reads as it did. -/
def planeThreeUptoRow : OpenClaim := { program := "ytmimficdpfmfgaagreat", sum := "f1e55182842a099c60ddca2efdff0eaba5f6d94d0e4708baad61919c0ac71e90", func := "tracery/tracerylaw25.PlaneThree", spec := "planeThree", unfollowed := true, recurses := true, plainKeys := false, apart := false, narrowed := true }
def PlaneThreeUptoSaid : Prop := planeThreeUptoRow.holds Tryz.pinned (OpenSpec.upto planeThreeSpec)

/-- 'tracerylaw25.PlaneLaws', WHERE WHAT IT READS IS OF BULK AT MOST 1048576: true; the input reads as it did. -/
def planeLawsUptoRow : OpenClaim := { program := "ytmimficdpfmfgaagreat", sum := "f1e55182842a099c60ddca2efdff0eaba5f6d94d0e4708baad61919c0ac71e90", func := "tracery/tracerylaw25.PlaneLaws", spec := "planeLaws", unfollowed := true, recurses := true, plainKeys := false, apart := false, narrowed := true }
def PlaneLawsUptoSaid : Prop := planeLawsUptoRow.holds Tryz.pinned (OpenSpec.upto planeLawsSpec)

end Rows
end Go.Proofs.YtmimficdpfmfgaaGreat
