/-
  No cell of these rows narrows 'for every input' (looked for: loops, veiled, ifaces, maps, wideKeys, modest, calm, conditions, laid).
  DERIVED. THE GIVEN ROWS OF THIS SEAT. 12 by the template 'for every input the law returns true; each argument reads behind the call as it read before'; 0 by the template 'total and deterministic' (their statements: YtfpghkgfodnjmaaTotals.lean).
  GIVEN WITH THE SEED: the statements are not yours to turn. If you find one false, say at which input.
  Laid BY PROGRAM, IN A SANDBOX (cutbox-rows.mjs): the forced cells as the released guide's own fill.sh prints them over the translation 17280149736aea72… (all of the seat's roots in one cut). By AI agents, Wed Nov 11 2026. No macro, syntax, notation, axiom, sorry.
-/
import Derived.Test.YtfpghkgfodnjmaaChecked
import GoSem.Claim
import GoSem.ClaimJoined
import GoSem.ClaimMapViews
import Derived.JoinedTies
import Derived.KernelRfl
namespace Go.Proofs.Ytfpghkgfodnjmaa
/- THE CELL 'sum', in the pinned program and in every row, IS THE sha256 OF THE DUMP (.gsa) THAT YtfpghkgfodnjmaaProg.lean LOADS. Nothing in Lean hashes anything: it is a label: what it is worth is what the hold of that sum in a sandbox is worth. -/
noncomputable def Try.pinned : Pinned := { name := "ytfpghkgfodnjmaa", sum := "17280149736aea720fbc7f44ceece459aa6a9dd61f643f11b677b524e9ee5856", checked := Try.checked }
namespace Rows
def none {H : Type} : Left H := { results := [], args := [] }

/-- 'laws.FnTurned': WHATEVER THE INPUT: true; the input reads as it did. -/
def fnTurnedSpec : ChangeSpec := { name := "fnTurned", fn := fun _ => fun
  | [d] => { results := [.lit (.bool true)], args := [d] }
  | _ => none }
def fnTurnedRow : OpenClaim := { program := "ytfpghkgfodnjmaa", sum := "17280149736aea720fbc7f44ceece459aa6a9dd61f643f11b677b524e9ee5856", func := "loop.example/g00283/laws.FnTurned", spec := "fnTurned", apart := false }
def FnTurnedSaid : Prop := fnTurnedRow.holds Try.pinned (OpenSpec.ofChange fnTurnedSpec)

/-- ITS FALSE NEIGHBOUR: 'it returns false'. Refute it at one input. -/
def fnTurnedWrong : ChangeSpec := { name := "fnTurned", fn := fun _ => fun
  | [d] => { results := [.lit (.bool false)], args := [d] }
  | _ => none }
def FnTurnedWrongFalsely : Prop := fnTurnedRow.holds Try.pinned (OpenSpec.ofChange fnTurnedWrong)

/-- 'laws.FnExactNetOk': WHATEVER THE INPUT: true; the input reads as it did. -/
def fnExactNetOkSpec : ChangeSpec := { name := "fnExactNetOk", fn := fun _ => fun
  | [d] => { results := [.lit (.bool true)], args := [d] }
  | _ => none }
def fnExactNetOkRow : OpenClaim := { program := "ytfpghkgfodnjmaa", sum := "17280149736aea720fbc7f44ceece459aa6a9dd61f643f11b677b524e9ee5856", func := "loop.example/g00283/laws.FnExactNetOk", spec := "fnExactNetOk", apart := false }
def FnExactNetOkSaid : Prop := fnExactNetOkRow.holds Try.pinned (OpenSpec.ofChange fnExactNetOkSpec)

/-- ITS FALSE NEIGHBOUR: 'it returns false'. Refute it at one input. -/
def fnExactNetOkWrong : ChangeSpec := { name := "fnExactNetOk", fn := fun _ => fun
  | [d] => { results := [.lit (.bool false)], args := [d] }
  | _ => none }
def FnExactNetOkWrongFalsely : Prop := fnExactNetOkRow.holds Try.pinned (OpenSpec.ofChange fnExactNetOkWrong)

/-- 'laws.FnExactCodeOk': WHATEVER THE INPUT: true; the input reads as it did. -/
def fnExactCodeOkSpec : ChangeSpec := { name := "fnExactCodeOk", fn := fun _ => fun
  | [d] => { results := [.lit (.bool true)], args := [d] }
  | _ => none }
def fnExactCodeOkRow : OpenClaim := { program := "ytfpghkgfodnjmaa", sum := "17280149736aea720fbc7f44ceece459aa6a9dd61f643f11b677b524e9ee5856", func := "loop.example/g00283/laws.FnExactCodeOk", spec := "fnExactCodeOk", apart := false }
def FnExactCodeOkSaid : Prop := fnExactCodeOkRow.holds Try.pinned (OpenSpec.ofChange fnExactCodeOkSpec)

/-- ITS FALSE NEIGHBOUR: 'it returns false'. Refute it at one input. -/
def fnExactCodeOkWrong : ChangeSpec := { name := "fnExactCodeOk", fn := fun _ => fun
  | [d] => { results := [.lit (.bool false)], args := [d] }
  | _ => none }
def FnExactCodeOkWrongFalsely : Prop := fnExactCodeOkRow.holds Try.pinned (OpenSpec.ofChange fnExactCodeOkWrong)

/-- 'laws.FnSealed': WHATEVER THE INPUT: true; the input reads as it did. -/
def fnSealedSpec : ChangeSpec := { name := "fnSealed", fn := fun _ => fun
  | [d] => { results := [.lit (.bool true)], args := [d] }
  | _ => none }
def fnSealedRow : OpenClaim := { program := "ytfpghkgfodnjmaa", sum := "17280149736aea720fbc7f44ceece459aa6a9dd61f643f11b677b524e9ee5856", func := "loop.example/g00283/laws.FnSealed", spec := "fnSealed", apart := false }
def FnSealedSaid : Prop := fnSealedRow.holds Try.pinned (OpenSpec.ofChange fnSealedSpec)

/-- ITS FALSE NEIGHBOUR: 'it returns false'. Refute it at one input. -/
def fnSealedWrong : ChangeSpec := { name := "fnSealed", fn := fun _ => fun
  | [d] => { results := [.lit (.bool false)], args := [d] }
  | _ => none }
def FnSealedWrongFalsely : Prop := fnSealedRow.holds Try.pinned (OpenSpec.ofChange fnSealedWrong)

/-- 'laws.FnNums': WHATEVER THE INPUT: true; the input reads as it did. -/
def fnNumsSpec : ChangeSpec := { name := "fnNums", fn := fun _ => fun
  | [d] => { results := [.lit (.bool true)], args := [d] }
  | _ => none }
def fnNumsRow : OpenClaim := { program := "ytfpghkgfodnjmaa", sum := "17280149736aea720fbc7f44ceece459aa6a9dd61f643f11b677b524e9ee5856", func := "loop.example/g00283/laws.FnNums", spec := "fnNums", apart := false }
def FnNumsSaid : Prop := fnNumsRow.holds Try.pinned (OpenSpec.ofChange fnNumsSpec)

/-- ITS FALSE NEIGHBOUR: 'it returns false'. Refute it at one input. -/
def fnNumsWrong : ChangeSpec := { name := "fnNums", fn := fun _ => fun
  | [d] => { results := [.lit (.bool false)], args := [d] }
  | _ => none }
def FnNumsWrongFalsely : Prop := fnNumsRow.holds Try.pinned (OpenSpec.ofChange fnNumsWrong)

/-- 'laws.FnExactConstBytes': WHATEVER THE INPUT: true; the input reads as it did. -/
def fnExactConstBytesSpec : ChangeSpec := { name := "fnExactConstBytes", fn := fun _ => fun
  | [d] => { results := [.lit (.bool true)], args := [d] }
  | _ => none }
def fnExactConstBytesRow : OpenClaim := { program := "ytfpghkgfodnjmaa", sum := "17280149736aea720fbc7f44ceece459aa6a9dd61f643f11b677b524e9ee5856", func := "loop.example/g00283/laws.FnExactConstBytes", spec := "fnExactConstBytes", apart := false }
def FnExactConstBytesSaid : Prop := fnExactConstBytesRow.holds Try.pinned (OpenSpec.ofChange fnExactConstBytesSpec)

/-- ITS FALSE NEIGHBOUR: 'it returns false'. Refute it at one input. -/
def fnExactConstBytesWrong : ChangeSpec := { name := "fnExactConstBytes", fn := fun _ => fun
  | [d] => { results := [.lit (.bool false)], args := [d] }
  | _ => none }
def FnExactConstBytesWrongFalsely : Prop := fnExactConstBytesRow.holds Try.pinned (OpenSpec.ofChange fnExactConstBytesWrong)

/-- 'laws.FnNetOrder': WHATEVER THE INPUT: true; the input reads as it did. -/
def fnNetOrderSpec : ChangeSpec := { name := "fnNetOrder", fn := fun _ => fun
  | [d] => { results := [.lit (.bool true)], args := [d] }
  | _ => none }
def fnNetOrderRow : OpenClaim := { program := "ytfpghkgfodnjmaa", sum := "17280149736aea720fbc7f44ceece459aa6a9dd61f643f11b677b524e9ee5856", func := "loop.example/g00283/laws.FnNetOrder", spec := "fnNetOrder", apart := false }
def FnNetOrderSaid : Prop := fnNetOrderRow.holds Try.pinned (OpenSpec.ofChange fnNetOrderSpec)

/-- ITS FALSE NEIGHBOUR: 'it returns false'. Refute it at one input. -/
def fnNetOrderWrong : ChangeSpec := { name := "fnNetOrder", fn := fun _ => fun
  | [d] => { results := [.lit (.bool false)], args := [d] }
  | _ => none }
def FnNetOrderWrongFalsely : Prop := fnNetOrderRow.holds Try.pinned (OpenSpec.ofChange fnNetOrderWrong)

/-- 'laws.FnExactEncode': WHATEVER THE INPUT: true; the input reads as it did. -/
def fnExactEncodeSpec : ChangeSpec := { name := "fnExactEncode", fn := fun _ => fun
  | [d] => { results := [.lit (.bool true)], args := [d] }
  | _ => none }
def fnExactEncodeRow : OpenClaim := { program := "ytfpghkgfodnjmaa", sum := "17280149736aea720fbc7f44ceece459aa6a9dd61f643f11b677b524e9ee5856", func := "loop.example/g00283/laws.FnExactEncode", spec := "fnExactEncode", apart := false }
def FnExactEncodeSaid : Prop := fnExactEncodeRow.holds Try.pinned (OpenSpec.ofChange fnExactEncodeSpec)

/-- ITS FALSE NEIGHBOUR: 'it returns false'. Refute it at one input. -/
def fnExactEncodeWrong : ChangeSpec := { name := "fnExactEncode", fn := fun _ => fun
  | [d] => { results := [.lit (.bool false)], args := [d] }
  | _ => none }
def FnExactEncodeWrongFalsely : Prop := fnExactEncodeRow.holds Try.pinned (OpenSpec.ofChange fnExactEncodeWrong)

/-- 'laws.FnExactMsgOk': WHATEVER THE INPUT: true; the input reads as it did. -/
def fnExactMsgOkSpec : ChangeSpec := { name := "fnExactMsgOk", fn := fun _ => fun
  | [d] => { results := [.lit (.bool true)], args := [d] }
  | _ => none }
def fnExactMsgOkRow : OpenClaim := { program := "ytfpghkgfodnjmaa", sum := "17280149736aea720fbc7f44ceece459aa6a9dd61f643f11b677b524e9ee5856", func := "loop.example/g00283/laws.FnExactMsgOk", spec := "fnExactMsgOk", apart := false }
def FnExactMsgOkSaid : Prop := fnExactMsgOkRow.holds Try.pinned (OpenSpec.ofChange fnExactMsgOkSpec)

/-- ITS FALSE NEIGHBOUR: 'it returns false'. Refute it at one input. -/
def fnExactMsgOkWrong : ChangeSpec := { name := "fnExactMsgOk", fn := fun _ => fun
  | [d] => { results := [.lit (.bool false)], args := [d] }
  | _ => none }
def FnExactMsgOkWrongFalsely : Prop := fnExactMsgOkRow.holds Try.pinned (OpenSpec.ofChange fnExactMsgOkWrong)

/-- 'laws.FnExactConstOf': WHATEVER THE INPUT: true; the input reads as it did. -/
def fnExactConstOfSpec : ChangeSpec := { name := "fnExactConstOf", fn := fun _ => fun
  | [d1, d2] => { results := [.lit (.bool true)], args := [d1, d2] }
  | _ => none }
def fnExactConstOfRow : OpenClaim := { program := "ytfpghkgfodnjmaa", sum := "17280149736aea720fbc7f44ceece459aa6a9dd61f643f11b677b524e9ee5856", func := "loop.example/g00283/laws.FnExactConstOf", spec := "fnExactConstOf", apart := false }
def FnExactConstOfSaid : Prop := fnExactConstOfRow.holds Try.pinned (OpenSpec.ofChange fnExactConstOfSpec)

/-- ITS FALSE NEIGHBOUR: 'it returns false'. Refute it at one input. -/
def fnExactConstOfWrong : ChangeSpec := { name := "fnExactConstOf", fn := fun _ => fun
  | [d1, d2] => { results := [.lit (.bool false)], args := [d1, d2] }
  | _ => none }
def FnExactConstOfWrongFalsely : Prop := fnExactConstOfRow.holds Try.pinned (OpenSpec.ofChange fnExactConstOfWrong)

/-- 'laws.FnExactPost': WHATEVER THE INPUT: true; the input reads as it did. -/
def fnExactPostSpec : ChangeSpec := { name := "fnExactPost", fn := fun _ => fun
  | [d1, d2] => { results := [.lit (.bool true)], args := [d1, d2] }
  | _ => none }
def fnExactPostRow : OpenClaim := { program := "ytfpghkgfodnjmaa", sum := "17280149736aea720fbc7f44ceece459aa6a9dd61f643f11b677b524e9ee5856", func := "loop.example/g00283/laws.FnExactPost", spec := "fnExactPost", apart := false }
def FnExactPostSaid : Prop := fnExactPostRow.holds Try.pinned (OpenSpec.ofChange fnExactPostSpec)

/-- ITS FALSE NEIGHBOUR: 'it returns false'. Refute it at one input. -/
def fnExactPostWrong : ChangeSpec := { name := "fnExactPost", fn := fun _ => fun
  | [d1, d2] => { results := [.lit (.bool false)], args := [d1, d2] }
  | _ => none }
def FnExactPostWrongFalsely : Prop := fnExactPostRow.holds Try.pinned (OpenSpec.ofChange fnExactPostWrong)

/-- 'laws.FnExactTake': WHATEVER THE INPUT: true; the input reads as it did. -/
def fnExactTakeSpec : ChangeSpec := { name := "fnExactTake", fn := fun _ => fun
  | [d1, d2] => { results := [.lit (.bool true)], args := [d1, d2] }
  | _ => none }
def fnExactTakeRow : OpenClaim := { program := "ytfpghkgfodnjmaa", sum := "17280149736aea720fbc7f44ceece459aa6a9dd61f643f11b677b524e9ee5856", func := "loop.example/g00283/laws.FnExactTake", spec := "fnExactTake", apart := false }
def FnExactTakeSaid : Prop := fnExactTakeRow.holds Try.pinned (OpenSpec.ofChange fnExactTakeSpec)

/-- ITS FALSE NEIGHBOUR: 'it returns false'. Refute it at one input. -/
def fnExactTakeWrong : ChangeSpec := { name := "fnExactTake", fn := fun _ => fun
  | [d1, d2] => { results := [.lit (.bool false)], args := [d1, d2] }
  | _ => none }
def FnExactTakeWrongFalsely : Prop := fnExactTakeRow.holds Try.pinned (OpenSpec.ofChange fnExactTakeWrong)

/- THE SECOND FORM. 'bulk': how many values and letters a reading holds, each counted each time it is reached (what is shared counts as often as it is met; a slice's spare places count too). A statement '..UptoSaid' is the law's where the arguments, and the package variables that the reading takes, are together of bulk at most 1048576: NARROWER than '..Said'. Prove '..Said' where nothing that the law and all that it calls make is longer than what came in: it says more and counts as full. Else prove '..UptoSaid'. A law counts once. -/
mutual
def uptoBulk {H : Type} : DataW H → Nat
  | .lit (.string bytes) => bytes.length + 1
  | .lit _ => 1
  | .nil => 1
  | .ptr d => uptoBulk d + 1
  | .slice elems spare => uptoBulkAll elems + uptoBulkAll spare + 1
  | .agg parts => uptoBulkAll parts + 1
  | .iface _ d => uptoBulk d + 1
  | .map entries => uptoBulkEntries entries + 1
  | .held _ => 1
def uptoBulkAll {H : Type} : List (DataW H) → Nat
  | [] => 0
  | d :: r => uptoBulk d + uptoBulkAll r
def uptoBulkEntries {H : Type} : List (Lit × DataW H) → Nat
  | [] => 0
  | x :: r => uptoBulkEntry x + uptoBulkEntries r
def uptoBulkEntry {H : Type} : Lit × DataW H → Nat
  | (.string bytes, d) => bytes.length + uptoBulk d + 1
  | (_, d) => uptoBulk d + 1
 end
def uptoSmall : (H : Type) → List (DataW H) → Bool := fun _ ds => decide (uptoBulkAll ds ≤ 1048576)
def OpenSpec.upto (s : _root_.Go.ChangeSpec) : _root_.Go.OpenSpec := { _root_.Go.OpenSpec.ofChange s with cond := some uptoSmall }

/-- 'laws.FnTurned', WHERE WHAT IT READS IS OF BULK AT MOST 1048576: true; the input reads as it did. -/
def fnTurnedUptoRow : OpenClaim := { program := "ytfpghkgfodnjmaa", sum := "17280149736aea720fbc7f44ceece459aa6a9dd61f643f11b677b524e9ee5856", func := "loop.example/g00283/laws.FnTurned", spec := "fnTurned", apart := false, narrowed := true }
def FnTurnedUptoSaid : Prop := fnTurnedUptoRow.holds Try.pinned (OpenSpec.upto fnTurnedSpec)

/-- 'laws.FnExactNetOk', WHERE WHAT IT READS IS OF BULK AT MOST 1048576: true; the input reads as it did. -/
def fnExactNetOkUptoRow : OpenClaim := { program := "ytfpghkgfodnjmaa", sum := "17280149736aea720fbc7f44ceece459aa6a9dd61f643f11b677b524e9ee5856", func := "loop.example/g00283/laws.FnExactNetOk", spec := "fnExactNetOk", apart := false, narrowed := true }
def FnExactNetOkUptoSaid : Prop := fnExactNetOkUptoRow.holds Try.pinned (OpenSpec.upto fnExactNetOkSpec)

/-- 'laws.FnExactCodeOk', WHERE WHAT IT READS IS OF BULK AT MOST 1048576: true; the input reads as it did. -/
def fnExactCodeOkUptoRow : OpenClaim := { program := "ytfpghkgfodnjmaa", sum := "17280149736aea720fbc7f44ceece459aa6a9dd61f643f11b677b524e9ee5856", func := "loop.example/g00283/laws.FnExactCodeOk", spec := "fnExactCodeOk", apart := false, narrowed := true }
def FnExactCodeOkUptoSaid : Prop := fnExactCodeOkUptoRow.holds Try.pinned (OpenSpec.upto fnExactCodeOkSpec)

/-- 'laws.FnSealed', WHERE WHAT IT READS IS OF BULK AT MOST 1048576: true; the input reads as it did. -/
def fnSealedUptoRow : OpenClaim := { program := "ytfpghkgfodnjmaa", sum := "17280149736aea720fbc7f44ceece459aa6a9dd61f643f11b677b524e9ee5856", func := "loop.example/g00283/laws.FnSealed", spec := "fnSealed", apart := false, narrowed := true }
def FnSealedUptoSaid : Prop := fnSealedUptoRow.holds Try.pinned (OpenSpec.upto fnSealedSpec)

/-- 'laws.FnNums', WHERE WHAT IT READS IS OF BULK AT MOST 1048576: true; the input reads as it did. -/
def fnNumsUptoRow : OpenClaim := { program := "ytfpghkgfodnjmaa", sum := "17280149736aea720fbc7f44ceece459aa6a9dd61f643f11b677b524e9ee5856", func := "loop.example/g00283/laws.FnNums", spec := "fnNums", apart := false, narrowed := true }
def FnNumsUptoSaid : Prop := fnNumsUptoRow.holds Try.pinned (OpenSpec.upto fnNumsSpec)

/-- 'laws.FnExactConstBytes', WHERE WHAT IT READS IS OF BULK AT MOST 1048576: true; the input reads as it did. -/
def fnExactConstBytesUptoRow : OpenClaim := { program := "ytfpghkgfodnjmaa", sum := "17280149736aea720fbc7f44ceece459aa6a9dd61f643f11b677b524e9ee5856", func := "loop.example/g00283/laws.FnExactConstBytes", spec := "fnExactConstBytes", apart := false, narrowed := true }
def FnExactConstBytesUptoSaid : Prop := fnExactConstBytesUptoRow.holds Try.pinned (OpenSpec.upto fnExactConstBytesSpec)

/-- 'laws.FnNetOrder', WHERE WHAT IT READS IS OF BULK AT MOST 1048576: true; the input reads as it did. -/
def fnNetOrderUptoRow : OpenClaim := { program := "ytfpghkgfodnjmaa", sum := "17280149736aea720fbc7f44ceece459aa6a9dd61f643f11b677b524e9ee5856", func := "loop.example/g00283/laws.FnNetOrder", spec := "fnNetOrder", apart := false, narrowed := true }
def FnNetOrderUptoSaid : Prop := fnNetOrderUptoRow.holds Try.pinned (OpenSpec.upto fnNetOrderSpec)

/-- 'laws.FnExactEncode', WHERE WHAT IT READS IS OF BULK AT MOST 1048576: true; the input reads as it did. -/
def fnExactEncodeUptoRow : OpenClaim := { program := "ytfpghkgfodnjmaa", sum := "17280149736aea720fbc7f44ceece459aa6a9dd61f643f11b677b524e9ee5856", func := "loop.example/g00283/laws.FnExactEncode", spec := "fnExactEncode", apart := false, narrowed := true }
def FnExactEncodeUptoSaid : Prop := fnExactEncodeUptoRow.holds Try.pinned (OpenSpec.upto fnExactEncodeSpec)

/-- 'laws.FnExactMsgOk', WHERE WHAT IT READS IS OF BULK AT MOST 1048576: true; the input reads as it did. -/
def fnExactMsgOkUptoRow : OpenClaim := { program := "ytfpghkgfodnjmaa", sum := "17280149736aea720fbc7f44ceece459aa6a9dd61f643f11b677b524e9ee5856", func := "loop.example/g00283/laws.FnExactMsgOk", spec := "fnExactMsgOk", apart := false, narrowed := true }
def FnExactMsgOkUptoSaid : Prop := fnExactMsgOkUptoRow.holds Try.pinned (OpenSpec.upto fnExactMsgOkSpec)

/-- 'laws.FnExactConstOf', WHERE WHAT IT READS IS OF BULK AT MOST 1048576: true; the input reads as it did. -/
def fnExactConstOfUptoRow : OpenClaim := { program := "ytfpghkgfodnjmaa", sum := "17280149736aea720fbc7f44ceece459aa6a9dd61f643f11b677b524e9ee5856", func := "loop.example/g00283/laws.FnExactConstOf", spec := "fnExactConstOf", apart := false, narrowed := true }
def FnExactConstOfUptoSaid : Prop := fnExactConstOfUptoRow.holds Try.pinned (OpenSpec.upto fnExactConstOfSpec)

/-- 'laws.FnExactPost', WHERE WHAT IT READS IS OF BULK AT MOST 1048576: true; the input reads as it did. -/
def fnExactPostUptoRow : OpenClaim := { program := "ytfpghkgfodnjmaa", sum := "17280149736aea720fbc7f44ceece459aa6a9dd61f643f11b677b524e9ee5856", func := "loop.example/g00283/laws.FnExactPost", spec := "fnExactPost", apart := false, narrowed := true }
def FnExactPostUptoSaid : Prop := fnExactPostUptoRow.holds Try.pinned (OpenSpec.upto fnExactPostSpec)

/-- 'laws.FnExactTake', WHERE WHAT IT READS IS OF BULK AT MOST 1048576: true; the input reads as it did. -/
def fnExactTakeUptoRow : OpenClaim := { program := "ytfpghkgfodnjmaa", sum := "17280149736aea720fbc7f44ceece459aa6a9dd61f643f11b677b524e9ee5856", func := "loop.example/g00283/laws.FnExactTake", spec := "fnExactTake", apart := false, narrowed := true }
def FnExactTakeUptoSaid : Prop := fnExactTakeUptoRow.holds Try.pinned (OpenSpec.upto fnExactTakeSpec)

end Rows
end Go.Proofs.Ytfpghkgfodnjmaa
