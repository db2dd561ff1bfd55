/-
  No cell of these rows narrows 'for every input' (looked for: loops, veiled, ifaces, maps, wideKeys, modest, calm, conditions, laid).
  DERIVED. THE GIVEN ROWS OF THIS SEAT. 6 by the template 'for every input the law returns true; each argument reads behind the call as it read before'; 0 by the template 'total and deterministic' (their statements: YteconfmfgehoeaaTotals.lean).
  GIVEN WITH THE SEED: the statements are not yours to turn. If you find one false, say at which input.
  Laid BY PROGRAM, IN A SANDBOX (cutbox-rows.mjs): the forced cells as the released guide's own fill.sh prints them over the translation e363e375a7b55bf7… (all of the seat's roots in one cut). By AI agents, Wed Nov 11 2026. No macro, syntax, notation, axiom, sorry.
-/
import Derived.Test.YteconfmfgehoeaaChecked
import GoSem.Claim
import GoSem.ClaimJoined
import GoSem.ClaimMapViews
import Derived.JoinedTies
import Derived.KernelRfl
namespace Go.Proofs.Yteconfmfgehoeaa
/- THE CELL 'sum', in the pinned program and in every row, IS THE sha256 OF THE DUMP (.gsa) THAT YteconfmfgehoeaaProg.lean LOADS. Nothing in Lean hashes anything: it is a label: what it is worth is what the hold of that sum in a sandbox is worth. -/
noncomputable def Try.pinned : Pinned := { name := "yteconfmfgehoeaa", sum := "e363e375a7b55bf798046b7bb16f4d78aef2462a4929f84baff523933bff11c6", checked := Try.checked }
namespace Rows
def none {H : Type} : Left H := { results := [], args := [] }

/-- 'laws.FnExactConstants': WHATEVER THE INPUT: true; the input reads as it did. -/
def fnExactConstantsSpec : ChangeSpec := { name := "fnExactConstants", fn := fun _ => fun
  | [] => { results := [.lit (.bool true)], args := [] }
  | _ => none }
def fnExactConstantsRow : OpenClaim := { program := "yteconfmfgehoeaa", sum := "e363e375a7b55bf798046b7bb16f4d78aef2462a4929f84baff523933bff11c6", func := "loop.example/g00283/laws.FnExactConstants", spec := "fnExactConstants", apart := false }
def FnExactConstantsSaid : Prop := fnExactConstantsRow.holds Try.pinned (OpenSpec.ofChange fnExactConstantsSpec)

/-- ITS FALSE NEIGHBOUR: 'it returns false'. Refute it at one input. -/
def fnExactConstantsWrong : ChangeSpec := { name := "fnExactConstants", fn := fun _ => fun
  | [] => { results := [.lit (.bool false)], args := [] }
  | _ => none }
def FnExactConstantsWrongFalsely : Prop := fnExactConstantsRow.holds Try.pinned (OpenSpec.ofChange fnExactConstantsWrong)

/-- 'laws.FnExactRound': WHATEVER THE INPUT: true; the input reads as it did. -/
def fnExactRoundSpec : ChangeSpec := { name := "fnExactRound", fn := fun _ => fun
  | [d] => { results := [.lit (.bool true)], args := [d] }
  | _ => none }
def fnExactRoundRow : OpenClaim := { program := "yteconfmfgehoeaa", sum := "e363e375a7b55bf798046b7bb16f4d78aef2462a4929f84baff523933bff11c6", func := "loop.example/g00283/laws.FnExactRound", spec := "fnExactRound", apart := false }
def FnExactRoundSaid : Prop := fnExactRoundRow.holds Try.pinned (OpenSpec.ofChange fnExactRoundSpec)

/-- ITS FALSE NEIGHBOUR: 'it returns false'. Refute it at one input. -/
def fnExactRoundWrong : ChangeSpec := { name := "fnExactRound", fn := fun _ => fun
  | [d] => { results := [.lit (.bool false)], args := [d] }
  | _ => none }
def FnExactRoundWrongFalsely : Prop := fnExactRoundRow.holds Try.pinned (OpenSpec.ofChange fnExactRoundWrong)

/-- 'laws.FnExactHas': WHATEVER THE INPUT: true; the input reads as it did. -/
def fnExactHasSpec : ChangeSpec := { name := "fnExactHas", fn := fun _ => fun
  | [d] => { results := [.lit (.bool true)], args := [d] }
  | _ => none }
def fnExactHasRow : OpenClaim := { program := "yteconfmfgehoeaa", sum := "e363e375a7b55bf798046b7bb16f4d78aef2462a4929f84baff523933bff11c6", func := "loop.example/g00283/laws.FnExactHas", spec := "fnExactHas", apart := false }
def FnExactHasSaid : Prop := fnExactHasRow.holds Try.pinned (OpenSpec.ofChange fnExactHasSpec)

/-- ITS FALSE NEIGHBOUR: 'it returns false'. Refute it at one input. -/
def fnExactHasWrong : ChangeSpec := { name := "fnExactHas", fn := fun _ => fun
  | [d] => { results := [.lit (.bool false)], args := [d] }
  | _ => none }
def FnExactHasWrongFalsely : Prop := fnExactHasRow.holds Try.pinned (OpenSpec.ofChange fnExactHasWrong)

/-- 'laws.FnExactValOk': WHATEVER THE INPUT: true; the input reads as it did. -/
def fnExactValOkSpec : ChangeSpec := { name := "fnExactValOk", fn := fun _ => fun
  | [d] => { results := [.lit (.bool true)], args := [d] }
  | _ => none }
def fnExactValOkRow : OpenClaim := { program := "yteconfmfgehoeaa", sum := "e363e375a7b55bf798046b7bb16f4d78aef2462a4929f84baff523933bff11c6", func := "loop.example/g00283/laws.FnExactValOk", spec := "fnExactValOk", apart := false }
def FnExactValOkSaid : Prop := fnExactValOkRow.holds Try.pinned (OpenSpec.ofChange fnExactValOkSpec)

/-- ITS FALSE NEIGHBOUR: 'it returns false'. Refute it at one input. -/
def fnExactValOkWrong : ChangeSpec := { name := "fnExactValOk", fn := fun _ => fun
  | [d] => { results := [.lit (.bool false)], args := [d] }
  | _ => none }
def FnExactValOkWrongFalsely : Prop := fnExactValOkRow.holds Try.pinned (OpenSpec.ofChange fnExactValOkWrong)

/-- 'laws.FnExactCheck': WHATEVER THE INPUT: true; the input reads as it did. -/
def fnExactCheckSpec : ChangeSpec := { name := "fnExactCheck", fn := fun _ => fun
  | [d] => { results := [.lit (.bool true)], args := [d] }
  | _ => none }
def fnExactCheckRow : OpenClaim := { program := "yteconfmfgehoeaa", sum := "e363e375a7b55bf798046b7bb16f4d78aef2462a4929f84baff523933bff11c6", func := "loop.example/g00283/laws.FnExactCheck", spec := "fnExactCheck", apart := false }
def FnExactCheckSaid : Prop := fnExactCheckRow.holds Try.pinned (OpenSpec.ofChange fnExactCheckSpec)

/-- ITS FALSE NEIGHBOUR: 'it returns false'. Refute it at one input. -/
def fnExactCheckWrong : ChangeSpec := { name := "fnExactCheck", fn := fun _ => fun
  | [d] => { results := [.lit (.bool false)], args := [d] }
  | _ => none }
def FnExactCheckWrongFalsely : Prop := fnExactCheckRow.holds Try.pinned (OpenSpec.ofChange fnExactCheckWrong)

/-- 'laws.FnExactGetWord': WHATEVER THE INPUT: true; the input reads as it did. -/
def fnExactGetWordSpec : ChangeSpec := { name := "fnExactGetWord", fn := fun _ => fun
  | [d1, d2] => { results := [.lit (.bool true)], args := [d1, d2] }
  | _ => none }
def fnExactGetWordRow : OpenClaim := { program := "yteconfmfgehoeaa", sum := "e363e375a7b55bf798046b7bb16f4d78aef2462a4929f84baff523933bff11c6", func := "loop.example/g00283/laws.FnExactGetWord", spec := "fnExactGetWord", apart := false }
def FnExactGetWordSaid : Prop := fnExactGetWordRow.holds Try.pinned (OpenSpec.ofChange fnExactGetWordSpec)

/-- ITS FALSE NEIGHBOUR: 'it returns false'. Refute it at one input. -/
def fnExactGetWordWrong : ChangeSpec := { name := "fnExactGetWord", fn := fun _ => fun
  | [d1, d2] => { results := [.lit (.bool false)], args := [d1, d2] }
  | _ => none }
def FnExactGetWordWrongFalsely : Prop := fnExactGetWordRow.holds Try.pinned (OpenSpec.ofChange fnExactGetWordWrong)

/- THE SECOND FORM. 'bulk': how many values and letters a reading holds, each counted each time it is reached (what is shared counts as often as it is met; a slice's spare places count too). A statement '..UptoSaid' is the law's where the arguments, and the package variables that the reading takes, are together of bulk at most 1048576: NARROWER than '..Said'. Prove '..Said' where nothing that the law and all that it calls make is longer than what came in: it says more and counts as full. Else prove '..UptoSaid'. A law counts once. -/
mutual
def uptoBulk {H : Type} : DataW H → Nat
  | .lit (.string bytes) => bytes.length + 1
  | .lit _ => 1
  | .nil => 1
  | .ptr d => uptoBulk d + 1
  | .slice elems spare => uptoBulkAll elems + uptoBulkAll spare + 1
  | .agg parts => uptoBulkAll parts + 1
  | .iface _ d => uptoBulk d + 1
  | .map entries => uptoBulkEntries entries + 1
  | .held _ => 1
def uptoBulkAll {H : Type} : List (DataW H) → Nat
  | [] => 0
  | d :: r => uptoBulk d + uptoBulkAll r
def uptoBulkEntries {H : Type} : List (Lit × DataW H) → Nat
  | [] => 0
  | x :: r => uptoBulkEntry x + uptoBulkEntries r
def uptoBulkEntry {H : Type} : Lit × DataW H → Nat
  | (.string bytes, d) => bytes.length + uptoBulk d + 1
  | (_, d) => uptoBulk d + 1
 end
def uptoSmall : (H : Type) → List (DataW H) → Bool := fun _ ds => decide (uptoBulkAll ds ≤ 1048576)
def OpenSpec.upto (s : _root_.Go.ChangeSpec) : _root_.Go.OpenSpec := { _root_.Go.OpenSpec.ofChange s with cond := some uptoSmall }

/-- 'laws.FnExactConstants', WHERE WHAT IT READS IS OF BULK AT MOST 1048576: true; the input reads as it did. -/
def fnExactConstantsUptoRow : OpenClaim := { program := "yteconfmfgehoeaa", sum := "e363e375a7b55bf798046b7bb16f4d78aef2462a4929f84baff523933bff11c6", func := "loop.example/g00283/laws.FnExactConstants", spec := "fnExactConstants", apart := false, narrowed := true }
def FnExactConstantsUptoSaid : Prop := fnExactConstantsUptoRow.holds Try.pinned (OpenSpec.upto fnExactConstantsSpec)

/-- 'laws.FnExactRound', WHERE WHAT IT READS IS OF BULK AT MOST 1048576: true; the input reads as it did. -/
def fnExactRoundUptoRow : OpenClaim := { program := "yteconfmfgehoeaa", sum := "e363e375a7b55bf798046b7bb16f4d78aef2462a4929f84baff523933bff11c6", func := "loop.example/g00283/laws.FnExactRound", spec := "fnExactRound", apart := false, narrowed := true }
def FnExactRoundUptoSaid : Prop := fnExactRoundUptoRow.holds Try.pinned (OpenSpec.upto fnExactRoundSpec)

/-- 'laws.FnExactHas', WHERE WHAT IT READS IS OF BULK AT MOST 1048576: true; the input reads as it did. -/
def fnExactHasUptoRow : OpenClaim := { program := "yteconfmfgehoeaa", sum := "e363e375a7b55bf798046b7bb16f4d78aef2462a4929f84baff523933bff11c6", func := "loop.example/g00283/laws.FnExactHas", spec := "fnExactHas", apart := false, narrowed := true }
def FnExactHasUptoSaid : Prop := fnExactHasUptoRow.holds Try.pinned (OpenSpec.upto fnExactHasSpec)

/-- 'laws.FnExactValOk', WHERE WHAT IT READS IS OF BULK AT MOST 1048576: true; the input reads as it did. -/
def fnExactValOkUptoRow : OpenClaim := { program := "yteconfmfgehoeaa", sum := "e363e375a7b55bf798046b7bb16f4d78aef2462a4929f84baff523933bff11c6", func := "loop.example/g00283/laws.FnExactValOk", spec := "fnExactValOk", apart := false, narrowed := true }
def FnExactValOkUptoSaid : Prop := fnExactValOkUptoRow.holds Try.pinned (OpenSpec.upto fnExactValOkSpec)

/-- 'laws.FnExactCheck', WHERE WHAT IT READS IS OF BULK AT MOST 1048576: true; the input reads as it did. -/
def fnExactCheckUptoRow : OpenClaim := { program := "yteconfmfgehoeaa", sum := "e363e375a7b55bf798046b7bb16f4d78aef2462a4929f84baff523933bff11c6", func := "loop.example/g00283/laws.FnExactCheck", spec := "fnExactCheck", apart := false, narrowed := true }
def FnExactCheckUptoSaid : Prop := fnExactCheckUptoRow.holds Try.pinned (OpenSpec.upto fnExactCheckSpec)

/-- 'laws.FnExactGetWord', WHERE WHAT IT READS IS OF BULK AT MOST 1048576: true; the input reads as it did. -/
def fnExactGetWordUptoRow : OpenClaim := { program := "yteconfmfgehoeaa", sum := "e363e375a7b55bf798046b7bb16f4d78aef2462a4929f84baff523933bff11c6", func := "loop.example/g00283/laws.FnExactGetWord", spec := "fnExactGetWord", apart := false, narrowed := true }
def FnExactGetWordUptoSaid : Prop := fnExactGetWordUptoRow.holds Try.pinned (OpenSpec.upto fnExactGetWordSpec)

end Rows
end Go.Proofs.Yteconfmfgehoeaa
