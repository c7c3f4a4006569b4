/-
  No cell of these rows narrows 'for every input' (looked for: loops, veiled, ifaces, maps, wideKeys, modest, calm, conditions, laid).
  DERIVED. THE GIVEN ROWS OF THIS SEAT. 11 by the template 'for every input the law returns true; each argument reads behind the call as it read before'; 0 by the template 'total and deterministic' (their statements: YtnnenocjmkbocaaTotals.lean).
  GIVEN WITH THE SEED: the statements are not yours to turn. If you find one false, say at which input.
  Laid BY PROGRAM, IN A SANDBOX (cutbox-rows.mjs): the forced cells as the released guide's own fill.sh prints them over the translation 6b0dbb21e239a287… (all of the seat's roots in one cut). By AI agents, Wed Nov 11 2026. No macro, syntax, notation, axiom, sorry.
-/
import Derived.Test.YtnnenocjmkbocaaChecked
import GoSem.Claim
import GoSem.ClaimJoined
import GoSem.ClaimMapViews
import Derived.JoinedTies
import Derived.KernelRfl
namespace Go.Proofs.Ytnnenocjmkbocaa
/- THE CELL 'sum', in the pinned program and in every row, IS THE sha256 OF THE DUMP (.gsa) THAT YtnnenocjmkbocaaProg.lean LOADS. Nothing in Lean hashes anything: it is a label: what it is worth is what the hold of that sum in a sandbox is worth. -/
noncomputable def Try.pinned : Pinned := { name := "ytnnenocjmkbocaa", sum := "6b0dbb21e239a2875b34188441413797b1786dfdd89ae9c6433601761c155e51", checked := Try.checked }
namespace Rows
def none {H : Type} : Left H := { results := [], args := [] }

/-- 'laws.FnExactPathEnd': WHATEVER THE INPUT: true; the input reads as it did. -/
def fnExactPathEndSpec : ChangeSpec := { name := "fnExactPathEnd", fn := fun _ => fun
  | [d1, d2, d3, d4] => { results := [.lit (.bool true)], args := [d1, d2, d3, d4] }
  | _ => none }
def fnExactPathEndRow : OpenClaim := { program := "ytnnenocjmkbocaa", sum := "6b0dbb21e239a2875b34188441413797b1786dfdd89ae9c6433601761c155e51", func := "loop.example/g00506/laws.FnExactPathEnd", spec := "fnExactPathEnd", plainKeys := false, apart := false }
def FnExactPathEndSaid : Prop := fnExactPathEndRow.holds Try.pinned (OpenSpec.ofChange fnExactPathEndSpec)

/-- ITS FALSE NEIGHBOUR: 'it returns false'. Refute it at one input. -/
def fnExactPathEndWrong : ChangeSpec := { name := "fnExactPathEnd", fn := fun _ => fun
  | [d1, d2, d3, d4] => { results := [.lit (.bool false)], args := [d1, d2, d3, d4] }
  | _ => none }
def FnExactPathEndWrongFalsely : Prop := fnExactPathEndRow.holds Try.pinned (OpenSpec.ofChange fnExactPathEndWrong)

/-- 'laws.FnExactEqualSession': WHATEVER THE INPUT: true; the input reads as it did. -/
def fnExactEqualSessionSpec : ChangeSpec := { name := "fnExactEqualSession", fn := fun _ => fun
  | [d1, d2] => { results := [.lit (.bool true)], args := [d1, d2] }
  | _ => none }
def fnExactEqualSessionRow : OpenClaim := { program := "ytnnenocjmkbocaa", sum := "6b0dbb21e239a2875b34188441413797b1786dfdd89ae9c6433601761c155e51", func := "loop.example/g00506/laws.FnExactEqualSession", spec := "fnExactEqualSession", plainKeys := false, apart := false }
def FnExactEqualSessionSaid : Prop := fnExactEqualSessionRow.holds Try.pinned (OpenSpec.ofChange fnExactEqualSessionSpec)

/-- ITS FALSE NEIGHBOUR: 'it returns false'. Refute it at one input. -/
def fnExactEqualSessionWrong : ChangeSpec := { name := "fnExactEqualSession", fn := fun _ => fun
  | [d1, d2] => { results := [.lit (.bool false)], args := [d1, d2] }
  | _ => none }
def FnExactEqualSessionWrongFalsely : Prop := fnExactEqualSessionRow.holds Try.pinned (OpenSpec.ofChange fnExactEqualSessionWrong)

/-- 'laws.FnExactIsValidCompiled': WHATEVER THE INPUT: true; the input reads as it did. -/
def fnExactIsValidCompiledSpec : ChangeSpec := { name := "fnExactIsValidCompiled", fn := fun _ => fun
  | [d] => { results := [.lit (.bool true)], args := [d] }
  | _ => none }
def fnExactIsValidCompiledRow : OpenClaim := { program := "ytnnenocjmkbocaa", sum := "6b0dbb21e239a2875b34188441413797b1786dfdd89ae9c6433601761c155e51", func := "loop.example/g00506/laws.FnExactIsValidCompiled", spec := "fnExactIsValidCompiled", plainKeys := false, apart := false }
def FnExactIsValidCompiledSaid : Prop := fnExactIsValidCompiledRow.holds Try.pinned (OpenSpec.ofChange fnExactIsValidCompiledSpec)

/-- ITS FALSE NEIGHBOUR: 'it returns false'. Refute it at one input. -/
def fnExactIsValidCompiledWrong : ChangeSpec := { name := "fnExactIsValidCompiled", fn := fun _ => fun
  | [d] => { results := [.lit (.bool false)], args := [d] }
  | _ => none }
def FnExactIsValidCompiledWrongFalsely : Prop := fnExactIsValidCompiledRow.holds Try.pinned (OpenSpec.ofChange fnExactIsValidCompiledWrong)

/-- 'laws.FnExactOrientGate': WHATEVER THE INPUT: true; the input reads as it did. -/
def fnExactOrientGateSpec : ChangeSpec := { name := "fnExactOrientGate", fn := fun _ => fun
  | [d1, d2] => { results := [.lit (.bool true)], args := [d1, d2] }
  | _ => none }
def fnExactOrientGateRow : OpenClaim := { program := "ytnnenocjmkbocaa", sum := "6b0dbb21e239a2875b34188441413797b1786dfdd89ae9c6433601761c155e51", func := "loop.example/g00506/laws.FnExactOrientGate", spec := "fnExactOrientGate", recurses := true, plainKeys := false, apart := false }
def FnExactOrientGateSaid : Prop := fnExactOrientGateRow.holds Try.pinned (OpenSpec.ofChange fnExactOrientGateSpec)

/-- ITS FALSE NEIGHBOUR: 'it returns false'. Refute it at one input. -/
def fnExactOrientGateWrong : ChangeSpec := { name := "fnExactOrientGate", fn := fun _ => fun
  | [d1, d2] => { results := [.lit (.bool false)], args := [d1, d2] }
  | _ => none }
def FnExactOrientGateWrongFalsely : Prop := fnExactOrientGateRow.holds Try.pinned (OpenSpec.ofChange fnExactOrientGateWrong)

/-- 'laws.FnExactOrientGates': WHATEVER THE INPUT: true; the input reads as it did. -/
def fnExactOrientGatesSpec : ChangeSpec := { name := "fnExactOrientGates", fn := fun _ => fun
  | [d1, d2] => { results := [.lit (.bool true)], args := [d1, d2] }
  | _ => none }
def fnExactOrientGatesRow : OpenClaim := { program := "ytnnenocjmkbocaa", sum := "6b0dbb21e239a2875b34188441413797b1786dfdd89ae9c6433601761c155e51", func := "loop.example/g00506/laws.FnExactOrientGates", spec := "fnExactOrientGates", recurses := true, plainKeys := false, apart := false }
def FnExactOrientGatesSaid : Prop := fnExactOrientGatesRow.holds Try.pinned (OpenSpec.ofChange fnExactOrientGatesSpec)

/-- ITS FALSE NEIGHBOUR: 'it returns false'. Refute it at one input. -/
def fnExactOrientGatesWrong : ChangeSpec := { name := "fnExactOrientGates", fn := fun _ => fun
  | [d1, d2] => { results := [.lit (.bool false)], args := [d1, d2] }
  | _ => none }
def FnExactOrientGatesWrongFalsely : Prop := fnExactOrientGatesRow.holds Try.pinned (OpenSpec.ofChange fnExactOrientGatesWrong)

/-- 'laws.FnControlOps': WHATEVER THE INPUT: true; the input reads as it did. -/
def fnControlOpsSpec : ChangeSpec := { name := "fnControlOps", fn := fun _ => fun
  | [d] => { results := [.lit (.bool true)], args := [d] }
  | _ => none }
def fnControlOpsRow : OpenClaim := { program := "ytnnenocjmkbocaa", sum := "6b0dbb21e239a2875b34188441413797b1786dfdd89ae9c6433601761c155e51", func := "loop.example/g00506/laws.FnControlOps", spec := "fnControlOps", plainKeys := false, apart := false }
def FnControlOpsSaid : Prop := fnControlOpsRow.holds Try.pinned (OpenSpec.ofChange fnControlOpsSpec)

/-- ITS FALSE NEIGHBOUR: 'it returns false'. Refute it at one input. -/
def fnControlOpsWrong : ChangeSpec := { name := "fnControlOps", fn := fun _ => fun
  | [d] => { results := [.lit (.bool false)], args := [d] }
  | _ => none }
def FnControlOpsWrongFalsely : Prop := fnControlOpsRow.holds Try.pinned (OpenSpec.ofChange fnControlOpsWrong)

/-- 'laws.FnEnds': WHATEVER THE INPUT: true; the input reads as it did. -/
def fnEndsSpec : ChangeSpec := { name := "fnEnds", fn := fun _ => fun
  | [d] => { results := [.lit (.bool true)], args := [d] }
  | _ => none }
def fnEndsRow : OpenClaim := { program := "ytnnenocjmkbocaa", sum := "6b0dbb21e239a2875b34188441413797b1786dfdd89ae9c6433601761c155e51", func := "loop.example/g00506/laws.FnEnds", spec := "fnEnds", plainKeys := false, apart := false }
def FnEndsSaid : Prop := fnEndsRow.holds Try.pinned (OpenSpec.ofChange fnEndsSpec)

/-- ITS FALSE NEIGHBOUR: 'it returns false'. Refute it at one input. -/
def fnEndsWrong : ChangeSpec := { name := "fnEnds", fn := fun _ => fun
  | [d] => { results := [.lit (.bool false)], args := [d] }
  | _ => none }
def FnEndsWrongFalsely : Prop := fnEndsRow.holds Try.pinned (OpenSpec.ofChange fnEndsWrong)

/-- 'laws.FnExactOrientOps': WHATEVER THE INPUT: true; the input reads as it did. -/
def fnExactOrientOpsSpec : ChangeSpec := { name := "fnExactOrientOps", fn := fun _ => fun
  | [d1, d2] => { results := [.lit (.bool true)], args := [d1, d2] }
  | _ => none }
def fnExactOrientOpsRow : OpenClaim := { program := "ytnnenocjmkbocaa", sum := "6b0dbb21e239a2875b34188441413797b1786dfdd89ae9c6433601761c155e51", func := "loop.example/g00506/laws.FnExactOrientOps", spec := "fnExactOrientOps", recurses := true, plainKeys := false, apart := false }
def FnExactOrientOpsSaid : Prop := fnExactOrientOpsRow.holds Try.pinned (OpenSpec.ofChange fnExactOrientOpsSpec)

/-- ITS FALSE NEIGHBOUR: 'it returns false'. Refute it at one input. -/
def fnExactOrientOpsWrong : ChangeSpec := { name := "fnExactOrientOps", fn := fun _ => fun
  | [d1, d2] => { results := [.lit (.bool false)], args := [d1, d2] }
  | _ => none }
def FnExactOrientOpsWrongFalsely : Prop := fnExactOrientOpsRow.holds Try.pinned (OpenSpec.ofChange fnExactOrientOpsWrong)

/-- 'laws.FnAdjointOps': WHATEVER THE INPUT: true; the input reads as it did. -/
def fnAdjointOpsSpec : ChangeSpec := { name := "fnAdjointOps", fn := fun _ => fun
  | [d] => { results := [.lit (.bool true)], args := [d] }
  | _ => none }
def fnAdjointOpsRow : OpenClaim := { program := "ytnnenocjmkbocaa", sum := "6b0dbb21e239a2875b34188441413797b1786dfdd89ae9c6433601761c155e51", func := "loop.example/g00506/laws.FnAdjointOps", spec := "fnAdjointOps", plainKeys := false, apart := false }
def FnAdjointOpsSaid : Prop := fnAdjointOpsRow.holds Try.pinned (OpenSpec.ofChange fnAdjointOpsSpec)

/-- ITS FALSE NEIGHBOUR: 'it returns false'. Refute it at one input. -/
def fnAdjointOpsWrong : ChangeSpec := { name := "fnAdjointOps", fn := fun _ => fun
  | [d] => { results := [.lit (.bool false)], args := [d] }
  | _ => none }
def FnAdjointOpsWrongFalsely : Prop := fnAdjointOpsRow.holds Try.pinned (OpenSpec.ofChange fnAdjointOpsWrong)

/-- 'laws.FnAllowed': WHATEVER THE INPUT: true; the input reads as it did. -/
def fnAllowedSpec : ChangeSpec := { name := "fnAllowed", fn := fun _ => fun
  | [d] => { results := [.lit (.bool true)], args := [d] }
  | _ => none }
def fnAllowedRow : OpenClaim := { program := "ytnnenocjmkbocaa", sum := "6b0dbb21e239a2875b34188441413797b1786dfdd89ae9c6433601761c155e51", func := "loop.example/g00506/laws.FnAllowed", spec := "fnAllowed", recurses := true, plainKeys := false, apart := false }
def FnAllowedSaid : Prop := fnAllowedRow.holds Try.pinned (OpenSpec.ofChange fnAllowedSpec)

/-- ITS FALSE NEIGHBOUR: 'it returns false'. Refute it at one input. -/
def fnAllowedWrong : ChangeSpec := { name := "fnAllowed", fn := fun _ => fun
  | [d] => { results := [.lit (.bool false)], args := [d] }
  | _ => none }
def FnAllowedWrongFalsely : Prop := fnAllowedRow.holds Try.pinned (OpenSpec.ofChange fnAllowedWrong)

/-- 'laws.FnExactRouteOps': WHATEVER THE INPUT: true; the input reads as it did. -/
def fnExactRouteOpsSpec : ChangeSpec := { name := "fnExactRouteOps", fn := fun _ => fun
  | [d1, d2, d3, d4] => { results := [.lit (.bool true)], args := [d1, d2, d3, d4] }
  | _ => none }
def fnExactRouteOpsRow : OpenClaim := { program := "ytnnenocjmkbocaa", sum := "6b0dbb21e239a2875b34188441413797b1786dfdd89ae9c6433601761c155e51", func := "loop.example/g00506/laws.FnExactRouteOps", spec := "fnExactRouteOps", recurses := true, plainKeys := false, apart := false }
def FnExactRouteOpsSaid : Prop := fnExactRouteOpsRow.holds Try.pinned (OpenSpec.ofChange fnExactRouteOpsSpec)

/-- ITS FALSE NEIGHBOUR: 'it returns false'. Refute it at one input. -/
def fnExactRouteOpsWrong : ChangeSpec := { name := "fnExactRouteOps", fn := fun _ => fun
  | [d1, d2, d3, d4] => { results := [.lit (.bool false)], args := [d1, d2, d3, d4] }
  | _ => none }
def FnExactRouteOpsWrongFalsely : Prop := fnExactRouteOpsRow.holds Try.pinned (OpenSpec.ofChange fnExactRouteOpsWrong)

/- THE SECOND FORM. 'bulk': how many values and letters a reading holds, each counted each time it is reached (what is shared counts as often as it is met; a slice's spare places count too). A statement '..UptoSaid' is the law's where the arguments, and the package variables that the reading takes, are together of bulk at most 1048576: NARROWER than '..Said'. Prove '..Said' where nothing that the law and all that it calls make is longer than what came in: it says more and counts as full. Else prove '..UptoSaid'. A law counts once. -/
mutual
def uptoBulk {H : Type} : DataW H → Nat
  | .lit (.string bytes) => bytes.length + 1
  | .lit _ => 1
  | .nil => 1
  | .ptr d => uptoBulk d + 1
  | .slice elems spare => uptoBulkAll elems + uptoBulkAll spare + 1
  | .agg parts => uptoBulkAll parts + 1
  | .iface _ d => uptoBulk d + 1
  | .map entries => uptoBulkEntries entries + 1
  | .held _ => 1
def uptoBulkAll {H : Type} : List (DataW H) → Nat
  | [] => 0
  | d :: r => uptoBulk d + uptoBulkAll r
def uptoBulkEntries {H : Type} : List (Lit × DataW H) → Nat
  | [] => 0
  | x :: r => uptoBulkEntry x + uptoBulkEntries r
def uptoBulkEntry {H : Type} : Lit × DataW H → Nat
  | (.string bytes, d) => bytes.length + uptoBulk d + 1
  | (_, d) => uptoBulk d + 1
 end
def uptoSmall : (H : Type) → List (DataW H) → Bool := fun _ ds => decide (uptoBulkAll ds ≤ 1048576)
def OpenSpec.upto (s : _root_.Go.ChangeSpec) : _root_.Go.OpenSpec := { _root_.Go.OpenSpec.ofChange s with cond := some uptoSmall }

/-- 'laws.FnExactPathEnd', WHERE WHAT IT READS IS OF BULK AT MOST 1048576: true; the input reads as it did. -/
def fnExactPathEndUptoRow : OpenClaim := { program := "ytnnenocjmkbocaa", sum := "6b0dbb21e239a2875b34188441413797b1786dfdd89ae9c6433601761c155e51", func := "loop.example/g00506/laws.FnExactPathEnd", spec := "fnExactPathEnd", plainKeys := false, apart := false, narrowed := true }
def FnExactPathEndUptoSaid : Prop := fnExactPathEndUptoRow.holds Try.pinned (OpenSpec.upto fnExactPathEndSpec)

/-- 'laws.FnExactEqualSession', WHERE WHAT IT READS IS OF BULK AT MOST 1048576: true; the input reads as it did. -/
def fnExactEqualSessionUptoRow : OpenClaim := { program := "ytnnenocjmkbocaa", sum := "6b0dbb21e239a2875b34188441413797b1786dfdd89ae9c6433601761c155e51", func := "loop.example/g00506/laws.FnExactEqualSession", spec := "fnExactEqualSession", plainKeys := false, apart := false, narrowed := true }
def FnExactEqualSessionUptoSaid : Prop := fnExactEqualSessionUptoRow.holds Try.pinned (OpenSpec.upto fnExactEqualSessionSpec)

/-- 'laws.FnExactIsValidCompiled', WHERE WHAT IT READS IS OF BULK AT MOST 1048576: true; the input reads as it did. -/
def fnExactIsValidCompiledUptoRow : OpenClaim := { program := "ytnnenocjmkbocaa", sum := "6b0dbb21e239a2875b34188441413797b1786dfdd89ae9c6433601761c155e51", func := "loop.example/g00506/laws.FnExactIsValidCompiled", spec := "fnExactIsValidCompiled", plainKeys := false, apart := false, narrowed := true }
def FnExactIsValidCompiledUptoSaid : Prop := fnExactIsValidCompiledUptoRow.holds Try.pinned (OpenSpec.upto fnExactIsValidCompiledSpec)

/-- 'laws.FnExactOrientGate', WHERE WHAT IT READS IS OF BULK AT MOST 1048576: true; the input reads as it did. -/
def fnExactOrientGateUptoRow : OpenClaim := { program := "ytnnenocjmkbocaa", sum := "6b0dbb21e239a2875b34188441413797b1786dfdd89ae9c6433601761c155e51", func := "loop.example/g00506/laws.FnExactOrientGate", spec := "fnExactOrientGate", recurses := true, plainKeys := false, apart := false, narrowed := true }
def FnExactOrientGateUptoSaid : Prop := fnExactOrientGateUptoRow.holds Try.pinned (OpenSpec.upto fnExactOrientGateSpec)

/-- 'laws.FnExactOrientGates', WHERE WHAT IT READS IS OF BULK AT MOST 1048576: true; the input reads as it did. -/
def fnExactOrientGatesUptoRow : OpenClaim := { program := "ytnnenocjmkbocaa", sum := "6b0dbb21e239a2875b34188441413797b1786dfdd89ae9c6433601761c155e51", func := "loop.example/g00506/laws.FnExactOrientGates", spec := "fnExactOrientGates", recurses := true, plainKeys := false, apart := false, narrowed := true }
def FnExactOrientGatesUptoSaid : Prop := fnExactOrientGatesUptoRow.holds Try.pinned (OpenSpec.upto fnExactOrientGatesSpec)

/-- 'laws.FnControlOps', WHERE WHAT IT READS IS OF BULK AT MOST 1048576: true; the input reads as it did. -/
def fnControlOpsUptoRow : OpenClaim := { program := "ytnnenocjmkbocaa", sum := "6b0dbb21e239a2875b34188441413797b1786dfdd89ae9c6433601761c155e51", func := "loop.example/g00506/laws.FnControlOps", spec := "fnControlOps", plainKeys := false, apart := false, narrowed := true }
def FnControlOpsUptoSaid : Prop := fnControlOpsUptoRow.holds Try.pinned (OpenSpec.upto fnControlOpsSpec)

/-- 'laws.FnEnds', WHERE WHAT IT READS IS OF BULK AT MOST 1048576: true; the input reads as it did. -/
def fnEndsUptoRow : OpenClaim := { program := "ytnnenocjmkbocaa", sum := "6b0dbb21e239a2875b34188441413797b1786dfdd89ae9c6433601761c155e51", func := "loop.example/g00506/laws.FnEnds", spec := "fnEnds", plainKeys := false, apart := false, narrowed := true }
def FnEndsUptoSaid : Prop := fnEndsUptoRow.holds Try.pinned (OpenSpec.upto fnEndsSpec)

/-- 'laws.FnExactOrientOps', WHERE WHAT IT READS IS OF BULK AT MOST 1048576: true; the input reads as it did. -/
def fnExactOrientOpsUptoRow : OpenClaim := { program := "ytnnenocjmkbocaa", sum := "6b0dbb21e239a2875b34188441413797b1786dfdd89ae9c6433601761c155e51", func := "loop.example/g00506/laws.FnExactOrientOps", spec := "fnExactOrientOps", recurses := true, plainKeys := false, apart := false, narrowed := true }
def FnExactOrientOpsUptoSaid : Prop := fnExactOrientOpsUptoRow.holds Try.pinned (OpenSpec.upto fnExactOrientOpsSpec)

/-- 'laws.FnAdjointOps', WHERE WHAT IT READS IS OF BULK AT MOST 1048576: true; the input reads as it did. -/
def fnAdjointOpsUptoRow : OpenClaim := { program := "ytnnenocjmkbocaa", sum := "6b0dbb21e239a2875b34188441413797b1786dfdd89ae9c6433601761c155e51", func := "loop.example/g00506/laws.FnAdjointOps", spec := "fnAdjointOps", plainKeys := false, apart := false, narrowed := true }
def FnAdjointOpsUptoSaid : Prop := fnAdjointOpsUptoRow.holds Try.pinned (OpenSpec.upto fnAdjointOpsSpec)

/-- 'laws.FnAllowed', WHERE WHAT IT READS IS OF BULK AT MOST 1048576: true; the input reads as it did. -/
def fnAllowedUptoRow : OpenClaim := { program := "ytnnenocjmkbocaa", sum := "6b0dbb21e239a2875b34188441413797b1786dfdd89ae9c6433601761c155e51", func := "loop.example/g00506/laws.FnAllowed", spec := "fnAllowed", recurses := true, plainKeys := false, apart := false, narrowed := true }
def FnAllowedUptoSaid : Prop := fnAllowedUptoRow.holds Try.pinned (OpenSpec.upto fnAllowedSpec)

/-- 'laws.FnExactRouteOps', WHERE WHAT IT READS IS OF BULK AT MOST 1048576: true; the input reads as it did. -/
def fnExactRouteOpsUptoRow : OpenClaim := { program := "ytnnenocjmkbocaa", sum := "6b0dbb21e239a2875b34188441413797b1786dfdd89ae9c6433601761c155e51", func := "loop.example/g00506/laws.FnExactRouteOps", spec := "fnExactRouteOps", recurses := true, plainKeys := false, apart := false, narrowed := true }
def FnExactRouteOpsUptoSaid : Prop := fnExactRouteOpsUptoRow.holds Try.pinned (OpenSpec.upto fnExactRouteOpsSpec)

end Rows
end Go.Proofs.Ytnnenocjmkbocaa
