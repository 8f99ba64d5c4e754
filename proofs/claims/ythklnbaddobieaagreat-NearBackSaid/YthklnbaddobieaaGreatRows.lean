/-
  No cell of these rows narrows 'for every input' (looked for: loops, veiled, ifaces, maps, wideKeys, modest, calm, conditions, laid).
  DERIVED. THE GIVEN ROWS OF THIS SEAT. 5 by the template 'for every input the law returns true; each argument reads behind the call as it read before'; 0 by the template 'total and deterministic' (their statements: YthklnbaddobieaaGreatTotals.lean).
  GIVEN WITH THE SEED: the statements are not yours to turn. If you find one false, say at which input.
  Laid BY PROGRAM, IN A SANDBOX (cutbox-rows.mjs): the forced cells as the released guide's own fill.sh prints them over the translation b9db91949cafddae… (all of the seat's roots in one cut). By AI agents, Wed Nov 11 2026. No macro, syntax, notation, axiom, sorry.
-/
import Derived.Test.YthklnbaddobieaaGreatChecked
import GoSem.Claim
import GoSem.ClaimJoined
import GoSem.ClaimMapViews
import Derived.JoinedTies
import Derived.KernelRfl
namespace Go.Proofs.YthklnbaddobieaaGreat
/- THE CELL 'sum', in the pinned program and in every row, IS THE sha256 OF THE DUMP (.gsa) THAT YthklnbaddobieaaGreatProg.lean LOADS. Nothing in Lean hashes anything: it is a label: what it is worth is what the hold of that sum in a sandbox is worth. -/
noncomputable def Tryz.pinned : Pinned := { name := "ythklnbaddobieaagreat", sum := "b9db91949cafddae8806ceda0f83c1fad8fbc801fc950a9555ec520f24c60c1f", checked := Tryz.checked }
namespace Rows
def none {H : Type} : Left H := { results := [], args := [] }

/-- 'tracerylaw06.NearFloats': WHATEVER THE INPUT: true; the input reads as it did. -/
def nearFloatsSpec : ChangeSpec := { name := "nearFloats", fn := fun _ => fun
  | [d] => { results := [.lit (.bool true)], args := [d] }
  | _ => none }
def nearFloatsRow : OpenClaim := { program := "ythklnbaddobieaagreat", sum := "b9db91949cafddae8806ceda0f83c1fad8fbc801fc950a9555ec520f24c60c1f", func := "tracery/tracerylaw06.NearFloats", spec := "nearFloats", inPlace := ["math.Float64bits", "math.Float64frombits"], unfollowed := true, recurses := true, apart := false }
def NearFloatsSaid : Prop := nearFloatsRow.holds Tryz.pinned (OpenSpec.ofChange nearFloatsSpec)

/-- ITS FALSE NEIGHBOUR: 'it returns false'. Refute it at one input. -/
def nearFloatsWrong : ChangeSpec := { name := "nearFloats", fn := fun _ => fun
  | [d] => { results := [.lit (.bool false)], args := [d] }
  | _ => none }
def NearFloatsWrongFalsely : Prop := nearFloatsRow.holds Tryz.pinned (OpenSpec.ofChange nearFloatsWrong)

/-- 'tracerylaw06.NearBetween': WHATEVER THE INPUT: true; the input reads as it did. -/
def nearBetweenSpec : ChangeSpec := { name := "nearBetween", fn := fun _ => fun
  | [d1, d2, d3] => { results := [.lit (.bool true)], args := [d1, d2, d3] }
  | _ => none }
def nearBetweenRow : OpenClaim := { program := "ythklnbaddobieaagreat", sum := "b9db91949cafddae8806ceda0f83c1fad8fbc801fc950a9555ec520f24c60c1f", func := "tracery/tracerylaw06.NearBetween", spec := "nearBetween", inPlace := ["math.Float64bits", "math.Float64frombits"], unfollowed := true, recurses := true, apart := false }
def NearBetweenSaid : Prop := nearBetweenRow.holds Tryz.pinned (OpenSpec.ofChange nearBetweenSpec)

/-- ITS FALSE NEIGHBOUR: 'it returns false'. Refute it at one input. -/
def nearBetweenWrong : ChangeSpec := { name := "nearBetween", fn := fun _ => fun
  | [d1, d2, d3] => { results := [.lit (.bool false)], args := [d1, d2, d3] }
  | _ => none }
def NearBetweenWrongFalsely : Prop := nearBetweenRow.holds Tryz.pinned (OpenSpec.ofChange nearBetweenWrong)

/-- 'tracerylaw06.NearBack': WHATEVER THE INPUT: true; the input reads as it did. -/
def nearBackSpec : ChangeSpec := { name := "nearBack", fn := fun _ => fun
  | [d1, d2] => { results := [.lit (.bool true)], args := [d1, d2] }
  | _ => none }
def nearBackRow : OpenClaim := { program := "ythklnbaddobieaagreat", sum := "b9db91949cafddae8806ceda0f83c1fad8fbc801fc950a9555ec520f24c60c1f", func := "tracery/tracerylaw06.NearBack", spec := "nearBack", inPlace := ["math.Float64bits", "math.Float64frombits"], unfollowed := true, recurses := true, apart := false }
def NearBackSaid : Prop := nearBackRow.holds Tryz.pinned (OpenSpec.ofChange nearBackSpec)

/-- ITS FALSE NEIGHBOUR: 'it returns false'. Refute it at one input. -/
def nearBackWrong : ChangeSpec := { name := "nearBack", fn := fun _ => fun
  | [d1, d2] => { results := [.lit (.bool false)], args := [d1, d2] }
  | _ => none }
def NearBackWrongFalsely : Prop := nearBackRow.holds Tryz.pinned (OpenSpec.ofChange nearBackWrong)

/-- 'tracerylaw09.FmobOf': WHATEVER THE INPUT: true; the input reads as it did. -/
def fmobOfSpec : ChangeSpec := { name := "fmobOf", fn := fun _ => fun
  | [d] => { results := [.lit (.bool true)], args := [d] }
  | _ => none }
def fmobOfRow : OpenClaim := { program := "ythklnbaddobieaagreat", sum := "b9db91949cafddae8806ceda0f83c1fad8fbc801fc950a9555ec520f24c60c1f", func := "tracery/tracerylaw09.FmobOf", spec := "fmobOf", inPlace := ["math.Float64bits", "math.Float64frombits"], unfollowed := true, recurses := true, apart := false }
def FmobOfSaid : Prop := fmobOfRow.holds Tryz.pinned (OpenSpec.ofChange fmobOfSpec)

/-- ITS FALSE NEIGHBOUR: 'it returns false'. Refute it at one input. -/
def fmobOfWrong : ChangeSpec := { name := "fmobOf", fn := fun _ => fun
  | [d] => { results := [.lit (.bool false)], args := [d] }
  | _ => none }
def FmobOfWrongFalsely : Prop := fmobOfRow.holds Tryz.pinned (OpenSpec.ofChange fmobOfWrong)

/-- 'tracerylaw12.FcircOf': WHATEVER THE INPUT: true; the input reads as it did. -/
def fcircOfSpec : ChangeSpec := { name := "fcircOf", fn := fun _ => fun
  | [d] => { results := [.lit (.bool true)], args := [d] }
  | _ => none }
def fcircOfRow : OpenClaim := { program := "ythklnbaddobieaagreat", sum := "b9db91949cafddae8806ceda0f83c1fad8fbc801fc950a9555ec520f24c60c1f", func := "tracery/tracerylaw12.FcircOf", spec := "fcircOf", inPlace := ["math.Float64bits", "math.Float64frombits", "math.sqrt"], unfollowed := true, recurses := true, apart := false }
def FcircOfSaid : Prop := fcircOfRow.holds Tryz.pinned (OpenSpec.ofChange fcircOfSpec)

/-- ITS FALSE NEIGHBOUR: 'it returns false'. Refute it at one input. -/
def fcircOfWrong : ChangeSpec := { name := "fcircOf", fn := fun _ => fun
  | [d] => { results := [.lit (.bool false)], args := [d] }
  | _ => none }
def FcircOfWrongFalsely : Prop := fcircOfRow.holds Tryz.pinned (OpenSpec.ofChange fcircOfWrong)

/- THE SECOND FORM. 'bulk': how many values and letters a reading holds, each counted each time it is reached (what is shared counts as often as it is met; a slice's spare places count too). A statement '..UptoSaid' is the law's where the arguments, and the package variables that the reading takes, are together of bulk at most 1048576: NARROWER than '..Said'. Prove '..Said' where nothing that the law and all that it calls make is longer than what came in: it says more and counts as full. Else prove '..UptoSaid'. A law counts once. -/
mutual
def uptoBulk {H : Type} : DataW H → Nat
  | .lit (.string bytes) => bytes.length + 1
  | .lit _ => 1
  | .nil => 1
  | .ptr d => uptoBulk d + 1
  | .slice elems spare => uptoBulkAll elems + uptoBulkAll spare + 1
  | .agg parts => uptoBulkAll parts + 1
  | .iface _ d => uptoBulk d + 1
  | .map entries => uptoBulkEntries entries + 1
  | .held _ => 1
def uptoBulkAll {H : Type} : List (DataW H) → Nat
  | [] => 0
  | d :: r => uptoBulk d + uptoBulkAll r
def uptoBulkEntries {H : Type} : List (Lit × DataW H) → Nat
  | [] => 0
  | x :: r => uptoBulkEntry x + uptoBulkEntries r
def uptoBulkEntry {H : Type} : Lit × DataW H → Nat
  | (.string bytes, d) => bytes.length + uptoBulk d + 1
  | (_, d) => uptoBulk d + 1
 end
def uptoSmall : (H : Type) → List (DataW H) → Bool := fun _ ds => decide (uptoBulkAll ds ≤ 1048576)
def OpenSpec.upto (s : _root_.Go.ChangeSpec) : _root_.Go.OpenSpec := { _root_.Go.OpenSpec.ofChange s with cond := some uptoSmall }

/-- 'tracerylaw06.NearFloats', WHERE WHAT IT READS IS OF BULK AT MOST 1048576: true; the input reads as it did. -/
def nearFloatsUptoRow : OpenClaim := { program := "ythklnbaddobieaagreat", sum := "b9db91949cafddae8806ceda0f83c1fad8fbc801fc950a9555ec520f24c60c1f", func := "tracery/tracerylaw06.NearFloats", spec := "nearFloats", inPlace := ["math.Float64bits", "math.Float64frombits"], unfollowed := true, recurses := true, apart := false, narrowed := true }
def NearFloatsUptoSaid : Prop := nearFloatsUptoRow.holds Tryz.pinned (OpenSpec.upto nearFloatsSpec)

/-- 'tracerylaw06.NearBetween', WHERE WHAT IT READS IS OF BULK AT MOST 1048576: true; the input reads as it did. -/
def nearBetweenUptoRow : OpenClaim := { program := "ythklnbaddobieaagreat", sum := "b9db91949cafddae8806ceda0f83c1fad8fbc801fc950a9555ec520f24c60c1f", func := "tracery/tracerylaw06.NearBetween", spec := "nearBetween", inPlace := ["math.Float64bits", "math.Float64frombits"], unfollowed := true, recurses := true, apart := false, narrowed := true }
def NearBetweenUptoSaid : Prop := nearBetweenUptoRow.holds Tryz.pinned (OpenSpec.upto nearBetweenSpec)

/-- 'tracerylaw06.NearBack', WHERE WHAT IT READS IS OF BULK AT MOST 1048576: true; the input reads as it did. -/
def nearBackUptoRow : OpenClaim := { program := "ythklnbaddobieaagreat", sum := "b9db91949cafddae8806ceda0f83c1fad8fbc801fc950a9555ec520f24c60c1f", func := "tracery/tracerylaw06.NearBack", spec := "nearBack", inPlace := ["math.Float64bits", "math.Float64frombits"], unfollowed := true, recurses := true, apart := false, narrowed := true }
def NearBackUptoSaid : Prop := nearBackUptoRow.holds Tryz.pinned (OpenSpec.upto nearBackSpec)

/-- 'tracerylaw09.FmobOf', WHERE WHAT IT READS IS OF BULK AT MOST 1048576: true; the input reads as it did. -/
def fmobOfUptoRow : OpenClaim := { program := "ythklnbaddobieaagreat", sum := "b9db91949cafddae8806ceda0f83c1fad8fbc801fc950a9555ec520f24c60c1f", func := "tracery/tracerylaw09.FmobOf", spec := "fmobOf", inPlace := ["math.Float64bits", "math.Float64frombits"], unfollowed := true, recurses := true, apart := false, narrowed := true }
def FmobOfUptoSaid : Prop := fmobOfUptoRow.holds Tryz.pinned (OpenSpec.upto fmobOfSpec)

/-- 'tracerylaw12.FcircOf', WHERE WHAT IT READS IS OF BULK AT MOST 1048576: true; the input reads as it did. -/
def fcircOfUptoRow : OpenClaim := { program := "ythklnbaddobieaagreat", sum := "b9db91949cafddae8806ceda0f83c1fad8fbc801fc950a9555ec520f24c60c1f", func := "tracery/tracerylaw12.FcircOf", spec := "fcircOf", inPlace := ["math.Float64bits", "math.Float64frombits", "math.sqrt"], unfollowed := true, recurses := true, apart := false, narrowed := true }
def FcircOfUptoSaid : Prop := fcircOfUptoRow.holds Tryz.pinned (OpenSpec.upto fcircOfSpec)

end Rows
end Go.Proofs.YthklnbaddobieaaGreat
