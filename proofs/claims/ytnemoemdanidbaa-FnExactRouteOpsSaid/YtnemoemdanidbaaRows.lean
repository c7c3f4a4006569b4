/-
  No cell of these rows narrows 'for every input' (looked for: loops, veiled, ifaces, maps, wideKeys, modest, calm, conditions, laid).
  DERIVED. THE GIVEN ROWS OF THIS SEAT. 5 by the template 'for every input the law returns true; each argument reads behind the call as it read before'; 0 by the template 'total and deterministic' (their statements: YtnemoemdanidbaaTotals.lean).
  GIVEN WITH THE SEED: the statements are not yours to turn. If you find one false, say at which input.
  Laid BY PROGRAM, IN A SANDBOX (cutbox-rows.mjs): the forced cells as the released guide's own fill.sh prints them over the translation d2df25564501fd00… (all of the seat's roots in one cut). By AI agents, Wed Nov 11 2026. No macro, syntax, notation, axiom, sorry.
-/
import Derived.Test.YtnemoemdanidbaaChecked
import GoSem.Claim
import GoSem.ClaimJoined
import GoSem.ClaimMapViews
import Derived.JoinedTies
import Derived.KernelRfl
namespace Go.Proofs.Ytnemoemdanidbaa
/- THE CELL 'sum', in the pinned program and in every row, IS THE sha256 OF THE DUMP (.gsa) THAT YtnemoemdanidbaaProg.lean LOADS. Nothing in Lean hashes anything: it is a label: what it is worth is what the hold of that sum in a sandbox is worth. -/
noncomputable def Try.pinned : Pinned := { name := "ytnemoemdanidbaa", sum := "d2df25564501fd002fd53924b84463dfe9da790912b249d85491bf235712dda7", checked := Try.checked }
namespace Rows
def none {H : Type} : Left H := { results := [], args := [] }

/-- 'laws.FnGroup': WHATEVER THE INPUT: true; the input reads as it did. -/
def fnGroupSpec : ChangeSpec := { name := "fnGroup", fn := fun _ => fun
  | [d] => { results := [.lit (.bool true)], args := [d] }
  | _ => none }
def fnGroupRow : OpenClaim := { program := "ytnemoemdanidbaa", sum := "d2df25564501fd002fd53924b84463dfe9da790912b249d85491bf235712dda7", func := "loop.example/g00506/laws.FnGroup", spec := "fnGroup", plainKeys := false, apart := false }
def FnGroupSaid : Prop := fnGroupRow.holds Try.pinned (OpenSpec.ofChange fnGroupSpec)

/-- ITS FALSE NEIGHBOUR: 'it returns false'. Refute it at one input. -/
def fnGroupWrong : ChangeSpec := { name := "fnGroup", fn := fun _ => fun
  | [d] => { results := [.lit (.bool false)], args := [d] }
  | _ => none }
def FnGroupWrongFalsely : Prop := fnGroupRow.holds Try.pinned (OpenSpec.ofChange fnGroupWrong)

/-- 'laws.FnControlOps': WHATEVER THE INPUT: true; the input reads as it did. -/
def fnControlOpsSpec : ChangeSpec := { name := "fnControlOps", fn := fun _ => fun
  | [d] => { results := [.lit (.bool true)], args := [d] }
  | _ => none }
def fnControlOpsRow : OpenClaim := { program := "ytnemoemdanidbaa", sum := "d2df25564501fd002fd53924b84463dfe9da790912b249d85491bf235712dda7", func := "loop.example/g00506/laws.FnControlOps", spec := "fnControlOps", plainKeys := false, apart := false }
def FnControlOpsSaid : Prop := fnControlOpsRow.holds Try.pinned (OpenSpec.ofChange fnControlOpsSpec)

/-- ITS FALSE NEIGHBOUR: 'it returns false'. Refute it at one input. -/
def fnControlOpsWrong : ChangeSpec := { name := "fnControlOps", fn := fun _ => fun
  | [d] => { results := [.lit (.bool false)], args := [d] }
  | _ => none }
def FnControlOpsWrongFalsely : Prop := fnControlOpsRow.holds Try.pinned (OpenSpec.ofChange fnControlOpsWrong)

/-- 'laws.FnAdjointOps': WHATEVER THE INPUT: true; the input reads as it did. -/
def fnAdjointOpsSpec : ChangeSpec := { name := "fnAdjointOps", fn := fun _ => fun
  | [d] => { results := [.lit (.bool true)], args := [d] }
  | _ => none }
def fnAdjointOpsRow : OpenClaim := { program := "ytnemoemdanidbaa", sum := "d2df25564501fd002fd53924b84463dfe9da790912b249d85491bf235712dda7", func := "loop.example/g00506/laws.FnAdjointOps", spec := "fnAdjointOps", plainKeys := false, apart := false }
def FnAdjointOpsSaid : Prop := fnAdjointOpsRow.holds Try.pinned (OpenSpec.ofChange fnAdjointOpsSpec)

/-- ITS FALSE NEIGHBOUR: 'it returns false'. Refute it at one input. -/
def fnAdjointOpsWrong : ChangeSpec := { name := "fnAdjointOps", fn := fun _ => fun
  | [d] => { results := [.lit (.bool false)], args := [d] }
  | _ => none }
def FnAdjointOpsWrongFalsely : Prop := fnAdjointOpsRow.holds Try.pinned (OpenSpec.ofChange fnAdjointOpsWrong)

/-- 'laws.FnAllowed': WHATEVER THE INPUT: true; the input reads as it did. -/
def fnAllowedSpec : ChangeSpec := { name := "fnAllowed", fn := fun _ => fun
  | [d] => { results := [.lit (.bool true)], args := [d] }
  | _ => none }
def fnAllowedRow : OpenClaim := { program := "ytnemoemdanidbaa", sum := "d2df25564501fd002fd53924b84463dfe9da790912b249d85491bf235712dda7", func := "loop.example/g00506/laws.FnAllowed", spec := "fnAllowed", recurses := true, plainKeys := false, apart := false }
def FnAllowedSaid : Prop := fnAllowedRow.holds Try.pinned (OpenSpec.ofChange fnAllowedSpec)

/-- ITS FALSE NEIGHBOUR: 'it returns false'. Refute it at one input. -/
def fnAllowedWrong : ChangeSpec := { name := "fnAllowed", fn := fun _ => fun
  | [d] => { results := [.lit (.bool false)], args := [d] }
  | _ => none }
def FnAllowedWrongFalsely : Prop := fnAllowedRow.holds Try.pinned (OpenSpec.ofChange fnAllowedWrong)

/-- 'laws.FnExactRouteOps': WHATEVER THE INPUT: true; the input reads as it did. -/
def fnExactRouteOpsSpec : ChangeSpec := { name := "fnExactRouteOps", fn := fun _ => fun
  | [d1, d2, d3, d4] => { results := [.lit (.bool true)], args := [d1, d2, d3, d4] }
  | _ => none }
def fnExactRouteOpsRow : OpenClaim := { program := "ytnemoemdanidbaa", sum := "d2df25564501fd002fd53924b84463dfe9da790912b249d85491bf235712dda7", func := "loop.example/g00506/laws.FnExactRouteOps", spec := "fnExactRouteOps", recurses := true, plainKeys := false, apart := false }
def FnExactRouteOpsSaid : Prop := fnExactRouteOpsRow.holds Try.pinned (OpenSpec.ofChange fnExactRouteOpsSpec)

/-- ITS FALSE NEIGHBOUR: 'it returns false'. Refute it at one input. -/
def fnExactRouteOpsWrong : ChangeSpec := { name := "fnExactRouteOps", fn := fun _ => fun
  | [d1, d2, d3, d4] => { results := [.lit (.bool false)], args := [d1, d2, d3, d4] }
  | _ => none }
def FnExactRouteOpsWrongFalsely : Prop := fnExactRouteOpsRow.holds Try.pinned (OpenSpec.ofChange fnExactRouteOpsWrong)

/- THE SECOND FORM. 'bulk': how many values and letters a reading holds, each counted each time it is reached (what is shared counts as often as it is met; a slice's spare places count too). A statement '..UptoSaid' is the law's where the arguments, and the package variables that the reading takes, are together of bulk at most 1048576: NARROWER than '..Said'. Prove '..Said' where nothing that the law and all that it calls make is longer than what came in: it says more and counts as full. Else prove '..UptoSaid'. A law counts once. -/
mutual
def uptoBulk {H : Type} : DataW H → Nat
  | .lit (.string bytes) => bytes.length + 1
  | .lit _ => 1
  | .nil => 1
  | .ptr d => uptoBulk d + 1
  | .slice elems spare => uptoBulkAll elems + uptoBulkAll spare + 1
  | .agg parts => uptoBulkAll parts + 1
  | .iface _ d => uptoBulk d + 1
  | .map entries => uptoBulkEntries entries + 1
  | .held _ => 1
def uptoBulkAll {H : Type} : List (DataW H) → Nat
  | [] => 0
  | d :: r => uptoBulk d + uptoBulkAll r
def uptoBulkEntries {H : Type} : List (Lit × DataW H) → Nat
  | [] => 0
  | x :: r => uptoBulkEntry x + uptoBulkEntries r
def uptoBulkEntry {H : Type} : Lit × DataW H → Nat
  | (.string bytes, d) => bytes.length + uptoBulk d + 1
  | (_, d) => uptoBulk d + 1
 end
def uptoSmall : (H : Type) → List (DataW H) → Bool := fun _ ds => decide (uptoBulkAll ds ≤ 1048576)
def OpenSpec.upto (s : _root_.Go.ChangeSpec) : _root_.Go.OpenSpec := { _root_.Go.OpenSpec.ofChange s with cond := some uptoSmall }

/-- 'laws.FnGroup', WHERE WHAT IT READS IS OF BULK AT MOST 1048576: true; the input reads as it did. -/
def fnGroupUptoRow : OpenClaim := { program := "ytnemoemdanidbaa", sum := "d2df25564501fd002fd53924b84463dfe9da790912b249d85491bf235712dda7", func := "loop.example/g00506/laws.FnGroup", spec := "fnGroup", plainKeys := false, apart := false, narrowed := true }
def FnGroupUptoSaid : Prop := fnGroupUptoRow.holds Try.pinned (OpenSpec.upto fnGroupSpec)

/-- 'laws.FnControlOps', WHERE WHAT IT READS IS OF BULK AT MOST 1048576: true; the input reads as it did. -/
def fnControlOpsUptoRow : OpenClaim := { program := "ytnemoemdanidbaa", sum := "d2df25564501fd002fd53924b84463dfe9da790912b249d85491bf235712dda7", func := "loop.example/g00506/laws.FnControlOps", spec := "fnControlOps", plainKeys := false, apart := false, narrowed := true }
def FnControlOpsUptoSaid : Prop := fnControlOpsUptoRow.holds Try.pinned (OpenSpec.upto fnControlOpsSpec)

/-- 'laws.FnAdjointOps', WHERE WHAT IT READS IS OF BULK AT MOST 1048576: true; the input reads as it did. -/
def fnAdjointOpsUptoRow : OpenClaim := { program := "ytnemoemdanidbaa", sum := "d2df25564501fd002fd53924b84463dfe9da790912b249d85491bf235712dda7", func := "loop.example/g00506/laws.FnAdjointOps", spec := "fnAdjointOps", plainKeys := false, apart := false, narrowed := true }
def FnAdjointOpsUptoSaid : Prop := fnAdjointOpsUptoRow.holds Try.pinned (OpenSpec.upto fnAdjointOpsSpec)

/-- 'laws.FnAllowed', WHERE WHAT IT READS IS OF BULK AT MOST 1048576: true; the input reads as it did. -/
def fnAllowedUptoRow : OpenClaim := { program := "ytnemoemdanidbaa", sum := "d2df25564501fd002fd53924b84463dfe9da790912b249d85491bf235712dda7", func := "loop.example/g00506/laws.FnAllowed", spec := "fnAllowed", recurses := true, plainKeys := false, apart := false, narrowed := true }
def FnAllowedUptoSaid : Prop := fnAllowedUptoRow.holds Try.pinned (OpenSpec.upto fnAllowedSpec)

/-- 'laws.FnExactRouteOps', WHERE WHAT IT READS IS OF BULK AT MOST 1048576: true; the input reads as it did. -/
def fnExactRouteOpsUptoRow : OpenClaim := { program := "ytnemoemdanidbaa", sum := "d2df25564501fd002fd53924b84463dfe9da790912b249d85491bf235712dda7", func := "loop.example/g00506/laws.FnExactRouteOps", spec := "fnExactRouteOps", recurses := true, plainKeys := false, apart := false, narrowed := true }
def FnExactRouteOpsUptoSaid : Prop := fnExactRouteOpsUptoRow.holds Try.pinned (OpenSpec.upto fnExactRouteOpsSpec)

end Rows
end Go.Proofs.Ytnemoemdanidbaa
