/-
  No cell of these rows narrows 'for every input' (looked for: loops, veiled, ifaces, maps, wideKeys, modest, calm, conditions, laid).
  DERIVED. THE GIVEN ROWS OF THIS SEAT. 11 by the template 'for every input the law returns true; each argument reads behind the call as it read before'; 0 by the template 'total and deterministic' (their statements: YthnbenlglnmehaaTotals.lean).
  GIVEN WITH THE SEED: the statements are not yours to turn. If you find one false, say at which input.
  Laid BY PROGRAM, IN A SANDBOX (cutbox-rows.mjs): the forced cells as the released guide's own fill.sh prints them over the translation 9119976b84a81f3f… (all of the seat's roots in one cut). By AI agents, Wed Nov 11 2026. No macro, syntax, notation, axiom, sorry.
-/
import Derived.Test.YthnbenlglnmehaaChecked
import GoSem.Claim
import GoSem.ClaimJoined
import GoSem.ClaimMapViews
import Derived.JoinedTies
import Derived.KernelRfl
namespace Go.Proofs.Ythnbenlglnmehaa
/- THE CELL 'sum', in the pinned program and in every row, IS THE sha256 OF THE DUMP (.gsa) THAT YthnbenlglnmehaaProg.lean LOADS. Nothing in Lean hashes anything: it is a label: what it is worth is what the hold of that sum in a sandbox is worth. -/
noncomputable def Try.pinned : Pinned := { name := "ythnbenlglnmehaa", sum := "9119976b84a81f3f69ac8643050237a85b1a4d3697e26962e955d31ee14f7f3f", checked := Try.checked }
namespace Rows
def none {H : Type} : Left H := { results := [], args := [] }

/-- 'laws.FnExactCompileErrorName': WHATEVER THE INPUT: true; the input reads as it did. -/
def fnExactCompileErrorNameSpec : ChangeSpec := { name := "fnExactCompileErrorName", fn := fun _ => fun
  | [d] => { results := [.lit (.bool true)], args := [d] }
  | _ => none }
def fnExactCompileErrorNameRow : OpenClaim := { program := "ythnbenlglnmehaa", sum := "9119976b84a81f3f69ac8643050237a85b1a4d3697e26962e955d31ee14f7f3f", func := "loop.example/g00506/laws.FnExactCompileErrorName", spec := "fnExactCompileErrorName", apart := false }
def FnExactCompileErrorNameSaid : Prop := fnExactCompileErrorNameRow.holds Try.pinned (OpenSpec.ofChange fnExactCompileErrorNameSpec)

/-- ITS FALSE NEIGHBOUR: 'it returns false'. Refute it at one input. -/
def fnExactCompileErrorNameWrong : ChangeSpec := { name := "fnExactCompileErrorName", fn := fun _ => fun
  | [d] => { results := [.lit (.bool false)], args := [d] }
  | _ => none }
def FnExactCompileErrorNameWrongFalsely : Prop := fnExactCompileErrorNameRow.holds Try.pinned (OpenSpec.ofChange fnExactCompileErrorNameWrong)

/-- 'laws.FnExactHadamardCount': WHATEVER THE INPUT: true; the input reads as it did. -/
def fnExactHadamardCountSpec : ChangeSpec := { name := "fnExactHadamardCount", fn := fun _ => fun
  | [d] => { results := [.lit (.bool true)], args := [d] }
  | _ => none }
def fnExactHadamardCountRow : OpenClaim := { program := "ythnbenlglnmehaa", sum := "9119976b84a81f3f69ac8643050237a85b1a4d3697e26962e955d31ee14f7f3f", func := "loop.example/g00506/laws.FnExactHadamardCount", spec := "fnExactHadamardCount", apart := false }
def FnExactHadamardCountSaid : Prop := fnExactHadamardCountRow.holds Try.pinned (OpenSpec.ofChange fnExactHadamardCountSpec)

/-- ITS FALSE NEIGHBOUR: 'it returns false'. Refute it at one input. -/
def fnExactHadamardCountWrong : ChangeSpec := { name := "fnExactHadamardCount", fn := fun _ => fun
  | [d] => { results := [.lit (.bool false)], args := [d] }
  | _ => none }
def FnExactHadamardCountWrongFalsely : Prop := fnExactHadamardCountRow.holds Try.pinned (OpenSpec.ofChange fnExactHadamardCountWrong)

/-- 'laws.FnExactGroupEnd': WHATEVER THE INPUT: true; the input reads as it did. -/
def fnExactGroupEndSpec : ChangeSpec := { name := "fnExactGroupEnd", fn := fun _ => fun
  | [d1, d2] => { results := [.lit (.bool true)], args := [d1, d2] }
  | _ => none }
def fnExactGroupEndRow : OpenClaim := { program := "ythnbenlglnmehaa", sum := "9119976b84a81f3f69ac8643050237a85b1a4d3697e26962e955d31ee14f7f3f", func := "loop.example/g00506/laws.FnExactGroupEnd", spec := "fnExactGroupEnd", apart := false }
def FnExactGroupEndSaid : Prop := fnExactGroupEndRow.holds Try.pinned (OpenSpec.ofChange fnExactGroupEndSpec)

/-- ITS FALSE NEIGHBOUR: 'it returns false'. Refute it at one input. -/
def fnExactGroupEndWrong : ChangeSpec := { name := "fnExactGroupEnd", fn := fun _ => fun
  | [d1, d2] => { results := [.lit (.bool false)], args := [d1, d2] }
  | _ => none }
def FnExactGroupEndWrongFalsely : Prop := fnExactGroupEndRow.holds Try.pinned (OpenSpec.ofChange fnExactGroupEndWrong)

/-- 'laws.FnGateOps': WHATEVER THE INPUT: true; the input reads as it did. -/
def fnGateOpsSpec : ChangeSpec := { name := "fnGateOps", fn := fun _ => fun
  | [d] => { results := [.lit (.bool true)], args := [d] }
  | _ => none }
def fnGateOpsRow : OpenClaim := { program := "ythnbenlglnmehaa", sum := "9119976b84a81f3f69ac8643050237a85b1a4d3697e26962e955d31ee14f7f3f", func := "loop.example/g00506/laws.FnGateOps", spec := "fnGateOps", apart := false }
def FnGateOpsSaid : Prop := fnGateOpsRow.holds Try.pinned (OpenSpec.ofChange fnGateOpsSpec)

/-- ITS FALSE NEIGHBOUR: 'it returns false'. Refute it at one input. -/
def fnGateOpsWrong : ChangeSpec := { name := "fnGateOps", fn := fun _ => fun
  | [d] => { results := [.lit (.bool false)], args := [d] }
  | _ => none }
def FnGateOpsWrongFalsely : Prop := fnGateOpsRow.holds Try.pinned (OpenSpec.ofChange fnGateOpsWrong)

/-- 'laws.FnExactOpsGateCost': WHATEVER THE INPUT: true; the input reads as it did. -/
def fnExactOpsGateCostSpec : ChangeSpec := { name := "fnExactOpsGateCost", fn := fun _ => fun
  | [d] => { results := [.lit (.bool true)], args := [d] }
  | _ => none }
def fnExactOpsGateCostRow : OpenClaim := { program := "ythnbenlglnmehaa", sum := "9119976b84a81f3f69ac8643050237a85b1a4d3697e26962e955d31ee14f7f3f", func := "loop.example/g00506/laws.FnExactOpsGateCost", spec := "fnExactOpsGateCost", apart := false }
def FnExactOpsGateCostSaid : Prop := fnExactOpsGateCostRow.holds Try.pinned (OpenSpec.ofChange fnExactOpsGateCostSpec)

/-- ITS FALSE NEIGHBOUR: 'it returns false'. Refute it at one input. -/
def fnExactOpsGateCostWrong : ChangeSpec := { name := "fnExactOpsGateCost", fn := fun _ => fun
  | [d] => { results := [.lit (.bool false)], args := [d] }
  | _ => none }
def FnExactOpsGateCostWrongFalsely : Prop := fnExactOpsGateCostRow.holds Try.pinned (OpenSpec.ofChange fnExactOpsGateCostWrong)

/-- 'laws.FnGroup': WHATEVER THE INPUT: true; the input reads as it did. -/
def fnGroupSpec : ChangeSpec := { name := "fnGroup", fn := fun _ => fun
  | [d] => { results := [.lit (.bool true)], args := [d] }
  | _ => none }
def fnGroupRow : OpenClaim := { program := "ythnbenlglnmehaa", sum := "9119976b84a81f3f69ac8643050237a85b1a4d3697e26962e955d31ee14f7f3f", func := "loop.example/g00506/laws.FnGroup", spec := "fnGroup", apart := false }
def FnGroupSaid : Prop := fnGroupRow.holds Try.pinned (OpenSpec.ofChange fnGroupSpec)

/-- ITS FALSE NEIGHBOUR: 'it returns false'. Refute it at one input. -/
def fnGroupWrong : ChangeSpec := { name := "fnGroup", fn := fun _ => fun
  | [d] => { results := [.lit (.bool false)], args := [d] }
  | _ => none }
def FnGroupWrongFalsely : Prop := fnGroupRow.holds Try.pinned (OpenSpec.ofChange fnGroupWrong)

/-- 'laws.FnExactOpGates': WHATEVER THE INPUT: true; the input reads as it did. -/
def fnExactOpGatesSpec : ChangeSpec := { name := "fnExactOpGates", fn := fun _ => fun
  | [d] => { results := [.lit (.bool true)], args := [d] }
  | _ => none }
def fnExactOpGatesRow : OpenClaim := { program := "ythnbenlglnmehaa", sum := "9119976b84a81f3f69ac8643050237a85b1a4d3697e26962e955d31ee14f7f3f", func := "loop.example/g00506/laws.FnExactOpGates", spec := "fnExactOpGates", apart := false }
def FnExactOpGatesSaid : Prop := fnExactOpGatesRow.holds Try.pinned (OpenSpec.ofChange fnExactOpGatesSpec)

/-- ITS FALSE NEIGHBOUR: 'it returns false'. Refute it at one input. -/
def fnExactOpGatesWrong : ChangeSpec := { name := "fnExactOpGates", fn := fun _ => fun
  | [d] => { results := [.lit (.bool false)], args := [d] }
  | _ => none }
def FnExactOpGatesWrongFalsely : Prop := fnExactOpGatesRow.holds Try.pinned (OpenSpec.ofChange fnExactOpGatesWrong)

/-- 'laws.FnExactPathSumStep': WHATEVER THE INPUT: true; the input reads as it did. -/
def fnExactPathSumStepSpec : ChangeSpec := { name := "fnExactPathSumStep", fn := fun _ => fun
  | [d1, d2, d3, d4] => { results := [.lit (.bool true)], args := [d1, d2, d3, d4] }
  | _ => none }
def fnExactPathSumStepRow : OpenClaim := { program := "ythnbenlglnmehaa", sum := "9119976b84a81f3f69ac8643050237a85b1a4d3697e26962e955d31ee14f7f3f", func := "loop.example/g00506/laws.FnExactPathSumStep", spec := "fnExactPathSumStep", apart := false }
def FnExactPathSumStepSaid : Prop := fnExactPathSumStepRow.holds Try.pinned (OpenSpec.ofChange fnExactPathSumStepSpec)

/-- ITS FALSE NEIGHBOUR: 'it returns false'. Refute it at one input. -/
def fnExactPathSumStepWrong : ChangeSpec := { name := "fnExactPathSumStep", fn := fun _ => fun
  | [d1, d2, d3, d4] => { results := [.lit (.bool false)], args := [d1, d2, d3, d4] }
  | _ => none }
def FnExactPathSumStepWrongFalsely : Prop := fnExactPathSumStepRow.holds Try.pinned (OpenSpec.ofChange fnExactPathSumStepWrong)

/-- 'laws.FnExactEqualCompiled': WHATEVER THE INPUT: true; the input reads as it did. -/
def fnExactEqualCompiledSpec : ChangeSpec := { name := "fnExactEqualCompiled", fn := fun _ => fun
  | [d1, d2] => { results := [.lit (.bool true)], args := [d1, d2] }
  | _ => none }
def fnExactEqualCompiledRow : OpenClaim := { program := "ythnbenlglnmehaa", sum := "9119976b84a81f3f69ac8643050237a85b1a4d3697e26962e955d31ee14f7f3f", func := "loop.example/g00506/laws.FnExactEqualCompiled", spec := "fnExactEqualCompiled", apart := false }
def FnExactEqualCompiledSaid : Prop := fnExactEqualCompiledRow.holds Try.pinned (OpenSpec.ofChange fnExactEqualCompiledSpec)

/-- ITS FALSE NEIGHBOUR: 'it returns false'. Refute it at one input. -/
def fnExactEqualCompiledWrong : ChangeSpec := { name := "fnExactEqualCompiled", fn := fun _ => fun
  | [d1, d2] => { results := [.lit (.bool false)], args := [d1, d2] }
  | _ => none }
def FnExactEqualCompiledWrongFalsely : Prop := fnExactEqualCompiledRow.holds Try.pinned (OpenSpec.ofChange fnExactEqualCompiledWrong)

/-- 'laws.FnExactDecomposeOps': WHATEVER THE INPUT: true; the input reads as it did. -/
def fnExactDecomposeOpsSpec : ChangeSpec := { name := "fnExactDecomposeOps", fn := fun _ => fun
  | [d] => { results := [.lit (.bool true)], args := [d] }
  | _ => none }
def fnExactDecomposeOpsRow : OpenClaim := { program := "ythnbenlglnmehaa", sum := "9119976b84a81f3f69ac8643050237a85b1a4d3697e26962e955d31ee14f7f3f", func := "loop.example/g00506/laws.FnExactDecomposeOps", spec := "fnExactDecomposeOps", apart := false }
def FnExactDecomposeOpsSaid : Prop := fnExactDecomposeOpsRow.holds Try.pinned (OpenSpec.ofChange fnExactDecomposeOpsSpec)

/-- ITS FALSE NEIGHBOUR: 'it returns false'. Refute it at one input. -/
def fnExactDecomposeOpsWrong : ChangeSpec := { name := "fnExactDecomposeOps", fn := fun _ => fun
  | [d] => { results := [.lit (.bool false)], args := [d] }
  | _ => none }
def FnExactDecomposeOpsWrongFalsely : Prop := fnExactDecomposeOpsRow.holds Try.pinned (OpenSpec.ofChange fnExactDecomposeOpsWrong)

/-- 'laws.FnExactIsExecutable': WHATEVER THE INPUT: true; the input reads as it did. -/
def fnExactIsExecutableSpec : ChangeSpec := { name := "fnExactIsExecutable", fn := fun _ => fun
  | [d1, d2] => { results := [.lit (.bool true)], args := [d1, d2] }
  | _ => none }
def fnExactIsExecutableRow : OpenClaim := { program := "ythnbenlglnmehaa", sum := "9119976b84a81f3f69ac8643050237a85b1a4d3697e26962e955d31ee14f7f3f", func := "loop.example/g00506/laws.FnExactIsExecutable", spec := "fnExactIsExecutable", apart := false }
def FnExactIsExecutableSaid : Prop := fnExactIsExecutableRow.holds Try.pinned (OpenSpec.ofChange fnExactIsExecutableSpec)

/-- ITS FALSE NEIGHBOUR: 'it returns false'. Refute it at one input. -/
def fnExactIsExecutableWrong : ChangeSpec := { name := "fnExactIsExecutable", fn := fun _ => fun
  | [d1, d2] => { results := [.lit (.bool false)], args := [d1, d2] }
  | _ => none }
def FnExactIsExecutableWrongFalsely : Prop := fnExactIsExecutableRow.holds Try.pinned (OpenSpec.ofChange fnExactIsExecutableWrong)

/- THE SECOND FORM. 'bulk': how many values and letters a reading holds, each counted each time it is reached (what is shared counts as often as it is met; a slice's spare places count too). A statement '..UptoSaid' is the law's where the arguments, and the package variables that the reading takes, are together of bulk at most 1048576: NARROWER than '..Said'. Prove '..Said' where nothing that the law and all that it calls make is longer than what came in: it says more and counts as full. Else prove '..UptoSaid'. A law counts once. -/
mutual
def uptoBulk {H : Type} : DataW H → Nat
  | .lit (.string bytes) => bytes.length + 1
  | .lit _ => 1
  | .nil => 1
  | .ptr d => uptoBulk d + 1
  | .slice elems spare => uptoBulkAll elems + uptoBulkAll spare + 1
  | .agg parts => uptoBulkAll parts + 1
  | .iface _ d => uptoBulk d + 1
  | .map entries => uptoBulkEntries entries + 1
  | .held _ => 1
def uptoBulkAll {H : Type} : List (DataW H) → Nat
  | [] => 0
  | d :: r => uptoBulk d + uptoBulkAll r
def uptoBulkEntries {H : Type} : List (Lit × DataW H) → Nat
  | [] => 0
  | x :: r => uptoBulkEntry x + uptoBulkEntries r
def uptoBulkEntry {H : Type} : Lit × DataW H → Nat
  | (.string bytes, d) => bytes.length + uptoBulk d + 1
  | (_, d) => uptoBulk d + 1
 end
def uptoSmall : (H : Type) → List (DataW H) → Bool := fun _ ds => decide (uptoBulkAll ds ≤ 1048576)
def OpenSpec.upto (s : _root_.Go.ChangeSpec) : _root_.Go.OpenSpec := { _root_.Go.OpenSpec.ofChange s with cond := some uptoSmall }

/-- 'laws.FnExactCompileErrorName', WHERE WHAT IT READS IS OF BULK AT MOST 1048576: true; the input reads as it did. -/
def fnExactCompileErrorNameUptoRow : OpenClaim := { program := "ythnbenlglnmehaa", sum := "9119976b84a81f3f69ac8643050237a85b1a4d3697e26962e955d31ee14f7f3f", func := "loop.example/g00506/laws.FnExactCompileErrorName", spec := "fnExactCompileErrorName", apart := false, narrowed := true }
def FnExactCompileErrorNameUptoSaid : Prop := fnExactCompileErrorNameUptoRow.holds Try.pinned (OpenSpec.upto fnExactCompileErrorNameSpec)

/-- 'laws.FnExactHadamardCount', WHERE WHAT IT READS IS OF BULK AT MOST 1048576: true; the input reads as it did. -/
def fnExactHadamardCountUptoRow : OpenClaim := { program := "ythnbenlglnmehaa", sum := "9119976b84a81f3f69ac8643050237a85b1a4d3697e26962e955d31ee14f7f3f", func := "loop.example/g00506/laws.FnExactHadamardCount", spec := "fnExactHadamardCount", apart := false, narrowed := true }
def FnExactHadamardCountUptoSaid : Prop := fnExactHadamardCountUptoRow.holds Try.pinned (OpenSpec.upto fnExactHadamardCountSpec)

/-- 'laws.FnExactGroupEnd', WHERE WHAT IT READS IS OF BULK AT MOST 1048576: true; the input reads as it did. -/
def fnExactGroupEndUptoRow : OpenClaim := { program := "ythnbenlglnmehaa", sum := "9119976b84a81f3f69ac8643050237a85b1a4d3697e26962e955d31ee14f7f3f", func := "loop.example/g00506/laws.FnExactGroupEnd", spec := "fnExactGroupEnd", apart := false, narrowed := true }
def FnExactGroupEndUptoSaid : Prop := fnExactGroupEndUptoRow.holds Try.pinned (OpenSpec.upto fnExactGroupEndSpec)

/-- 'laws.FnGateOps', WHERE WHAT IT READS IS OF BULK AT MOST 1048576: true; the input reads as it did. -/
def fnGateOpsUptoRow : OpenClaim := { program := "ythnbenlglnmehaa", sum := "9119976b84a81f3f69ac8643050237a85b1a4d3697e26962e955d31ee14f7f3f", func := "loop.example/g00506/laws.FnGateOps", spec := "fnGateOps", apart := false, narrowed := true }
def FnGateOpsUptoSaid : Prop := fnGateOpsUptoRow.holds Try.pinned (OpenSpec.upto fnGateOpsSpec)

/-- 'laws.FnExactOpsGateCost', WHERE WHAT IT READS IS OF BULK AT MOST 1048576: true; the input reads as it did. -/
def fnExactOpsGateCostUptoRow : OpenClaim := { program := "ythnbenlglnmehaa", sum := "9119976b84a81f3f69ac8643050237a85b1a4d3697e26962e955d31ee14f7f3f", func := "loop.example/g00506/laws.FnExactOpsGateCost", spec := "fnExactOpsGateCost", apart := false, narrowed := true }
def FnExactOpsGateCostUptoSaid : Prop := fnExactOpsGateCostUptoRow.holds Try.pinned (OpenSpec.upto fnExactOpsGateCostSpec)

/-- 'laws.FnGroup', WHERE WHAT IT READS IS OF BULK AT MOST 1048576: true; the input reads as it did. -/
def fnGroupUptoRow : OpenClaim := { program := "ythnbenlglnmehaa", sum := "9119976b84a81f3f69ac8643050237a85b1a4d3697e26962e955d31ee14f7f3f", func := "loop.example/g00506/laws.FnGroup", spec := "fnGroup", apart := false, narrowed := true }
def FnGroupUptoSaid : Prop := fnGroupUptoRow.holds Try.pinned (OpenSpec.upto fnGroupSpec)

/-- 'laws.FnExactOpGates', WHERE WHAT IT READS IS OF BULK AT MOST 1048576: true; the input reads as it did. -/
def fnExactOpGatesUptoRow : OpenClaim := { program := "ythnbenlglnmehaa", sum := "9119976b84a81f3f69ac8643050237a85b1a4d3697e26962e955d31ee14f7f3f", func := "loop.example/g00506/laws.FnExactOpGates", spec := "fnExactOpGates", apart := false, narrowed := true }
def FnExactOpGatesUptoSaid : Prop := fnExactOpGatesUptoRow.holds Try.pinned (OpenSpec.upto fnExactOpGatesSpec)

/-- 'laws.FnExactPathSumStep', WHERE WHAT IT READS IS OF BULK AT MOST 1048576: true; the input reads as it did. -/
def fnExactPathSumStepUptoRow : OpenClaim := { program := "ythnbenlglnmehaa", sum := "9119976b84a81f3f69ac8643050237a85b1a4d3697e26962e955d31ee14f7f3f", func := "loop.example/g00506/laws.FnExactPathSumStep", spec := "fnExactPathSumStep", apart := false, narrowed := true }
def FnExactPathSumStepUptoSaid : Prop := fnExactPathSumStepUptoRow.holds Try.pinned (OpenSpec.upto fnExactPathSumStepSpec)

/-- 'laws.FnExactEqualCompiled', WHERE WHAT IT READS IS OF BULK AT MOST 1048576: true; the input reads as it did. -/
def fnExactEqualCompiledUptoRow : OpenClaim := { program := "ythnbenlglnmehaa", sum := "9119976b84a81f3f69ac8643050237a85b1a4d3697e26962e955d31ee14f7f3f", func := "loop.example/g00506/laws.FnExactEqualCompiled", spec := "fnExactEqualCompiled", apart := false, narrowed := true }
def FnExactEqualCompiledUptoSaid : Prop := fnExactEqualCompiledUptoRow.holds Try.pinned (OpenSpec.upto fnExactEqualCompiledSpec)

/-- 'laws.FnExactDecomposeOps', WHERE WHAT IT READS IS OF BULK AT MOST 1048576: true; the input reads as it did. -/
def fnExactDecomposeOpsUptoRow : OpenClaim := { program := "ythnbenlglnmehaa", sum := "9119976b84a81f3f69ac8643050237a85b1a4d3697e26962e955d31ee14f7f3f", func := "loop.example/g00506/laws.FnExactDecomposeOps", spec := "fnExactDecomposeOps", apart := false, narrowed := true }
def FnExactDecomposeOpsUptoSaid : Prop := fnExactDecomposeOpsUptoRow.holds Try.pinned (OpenSpec.upto fnExactDecomposeOpsSpec)

/-- 'laws.FnExactIsExecutable', WHERE WHAT IT READS IS OF BULK AT MOST 1048576: true; the input reads as it did. -/
def fnExactIsExecutableUptoRow : OpenClaim := { program := "ythnbenlglnmehaa", sum := "9119976b84a81f3f69ac8643050237a85b1a4d3697e26962e955d31ee14f7f3f", func := "loop.example/g00506/laws.FnExactIsExecutable", spec := "fnExactIsExecutable", apart := false, narrowed := true }
def FnExactIsExecutableUptoSaid : Prop := fnExactIsExecutableUptoRow.holds Try.pinned (OpenSpec.upto fnExactIsExecutableSpec)

end Rows
end Go.Proofs.Ythnbenlglnmehaa
