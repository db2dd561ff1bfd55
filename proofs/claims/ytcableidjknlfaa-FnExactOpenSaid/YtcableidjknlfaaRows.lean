/-
  No cell of these rows narrows 'for every input' (looked for: loops, veiled, ifaces, maps, wideKeys, modest, calm, conditions, laid).
  DERIVED. THE GIVEN ROWS OF THIS SEAT. 12 by the template 'for every input the law returns true; each argument reads behind the call as it read before'; 0 by the template 'total and deterministic' (their statements: YtcableidjknlfaaTotals.lean).
  GIVEN WITH THE SEED: the statements are not yours to turn. If you find one false, say at which input.
  Laid BY PROGRAM, IN A SANDBOX (cutbox-rows.mjs): the forced cells as the released guide's own fill.sh prints them over the translation 5ac0fcdb76409125… (all of the seat's roots in one cut). By AI agents, Wed Nov 11 2026. No macro, syntax, notation, axiom, sorry.
-/
import Derived.Test.YtcableidjknlfaaChecked
import GoSem.Claim
import GoSem.ClaimJoined
import GoSem.ClaimMapViews
import Derived.JoinedTies
import Derived.KernelRfl
namespace Go.Proofs.Ytcableidjknlfaa
/- THE CELL 'sum', in the pinned program and in every row, IS THE sha256 OF THE DUMP (.gsa) THAT YtcableidjknlfaaProg.lean LOADS. Nothing in Lean hashes anything: it is a label: what it is worth is what the hold of that sum in a sandbox is worth. -/
noncomputable def Try.pinned : Pinned := { name := "ytcableidjknlfaa", sum := "5ac0fcdb76409125ad57e2feb0c776e22b4ba208a82b8d4b8272524ca336cc50", checked := Try.checked }
namespace Rows
def none {H : Type} : Left H := { results := [], args := [] }

/-- 'laws.FnExactPutWord': WHATEVER THE INPUT: true; the input reads as it did. -/
def fnExactPutWordSpec : ChangeSpec := { name := "fnExactPutWord", fn := fun _ => fun
  | [d] => { results := [.lit (.bool true)], args := [d] }
  | _ => none }
def fnExactPutWordRow : OpenClaim := { program := "ytcableidjknlfaa", sum := "5ac0fcdb76409125ad57e2feb0c776e22b4ba208a82b8d4b8272524ca336cc50", func := "loop.example/g00283/laws.FnExactPutWord", spec := "fnExactPutWord", apart := false }
def FnExactPutWordSaid : Prop := fnExactPutWordRow.holds Try.pinned (OpenSpec.ofChange fnExactPutWordSpec)

/-- ITS FALSE NEIGHBOUR: 'it returns false'. Refute it at one input. -/
def fnExactPutWordWrong : ChangeSpec := { name := "fnExactPutWord", fn := fun _ => fun
  | [d] => { results := [.lit (.bool false)], args := [d] }
  | _ => none }
def FnExactPutWordWrongFalsely : Prop := fnExactPutWordRow.holds Try.pinned (OpenSpec.ofChange fnExactPutWordWrong)

/-- 'laws.FnExactPutNum': WHATEVER THE INPUT: true; the input reads as it did. -/
def fnExactPutNumSpec : ChangeSpec := { name := "fnExactPutNum", fn := fun _ => fun
  | [d] => { results := [.lit (.bool true)], args := [d] }
  | _ => none }
def fnExactPutNumRow : OpenClaim := { program := "ytcableidjknlfaa", sum := "5ac0fcdb76409125ad57e2feb0c776e22b4ba208a82b8d4b8272524ca336cc50", func := "loop.example/g00283/laws.FnExactPutNum", spec := "fnExactPutNum", apart := false }
def FnExactPutNumSaid : Prop := fnExactPutNumRow.holds Try.pinned (OpenSpec.ofChange fnExactPutNumSpec)

/-- ITS FALSE NEIGHBOUR: 'it returns false'. Refute it at one input. -/
def fnExactPutNumWrong : ChangeSpec := { name := "fnExactPutNum", fn := fun _ => fun
  | [d] => { results := [.lit (.bool false)], args := [d] }
  | _ => none }
def FnExactPutNumWrongFalsely : Prop := fnExactPutNumRow.holds Try.pinned (OpenSpec.ofChange fnExactPutNumWrong)

/-- 'laws.FnExactGetNum': WHATEVER THE INPUT: true; the input reads as it did. -/
def fnExactGetNumSpec : ChangeSpec := { name := "fnExactGetNum", fn := fun _ => fun
  | [d1, d2] => { results := [.lit (.bool true)], args := [d1, d2] }
  | _ => none }
def fnExactGetNumRow : OpenClaim := { program := "ytcableidjknlfaa", sum := "5ac0fcdb76409125ad57e2feb0c776e22b4ba208a82b8d4b8272524ca336cc50", func := "loop.example/g00283/laws.FnExactGetNum", spec := "fnExactGetNum", apart := false }
def FnExactGetNumSaid : Prop := fnExactGetNumRow.holds Try.pinned (OpenSpec.ofChange fnExactGetNumSpec)

/-- ITS FALSE NEIGHBOUR: 'it returns false'. Refute it at one input. -/
def fnExactGetNumWrong : ChangeSpec := { name := "fnExactGetNum", fn := fun _ => fun
  | [d1, d2] => { results := [.lit (.bool false)], args := [d1, d2] }
  | _ => none }
def FnExactGetNumWrongFalsely : Prop := fnExactGetNumRow.holds Try.pinned (OpenSpec.ofChange fnExactGetNumWrong)

/-- 'laws.FnRoundSums': WHATEVER THE INPUT: true; the input reads as it did. -/
def fnRoundSumsSpec : ChangeSpec := { name := "fnRoundSums", fn := fun _ => fun
  | [d] => { results := [.lit (.bool true)], args := [d] }
  | _ => none }
def fnRoundSumsRow : OpenClaim := { program := "ytcableidjknlfaa", sum := "5ac0fcdb76409125ad57e2feb0c776e22b4ba208a82b8d4b8272524ca336cc50", func := "loop.example/g00283/laws.FnRoundSums", spec := "fnRoundSums", apart := false }
def FnRoundSumsSaid : Prop := fnRoundSumsRow.holds Try.pinned (OpenSpec.ofChange fnRoundSumsSpec)

/-- ITS FALSE NEIGHBOUR: 'it returns false'. Refute it at one input. -/
def fnRoundSumsWrong : ChangeSpec := { name := "fnRoundSums", fn := fun _ => fun
  | [d] => { results := [.lit (.bool false)], args := [d] }
  | _ => none }
def FnRoundSumsWrongFalsely : Prop := fnRoundSumsRow.holds Try.pinned (OpenSpec.ofChange fnRoundSumsWrong)

/-- 'laws.FnExactTurn': WHATEVER THE INPUT: true; the input reads as it did. -/
def fnExactTurnSpec : ChangeSpec := { name := "fnExactTurn", fn := fun _ => fun
  | [d1, d2] => { results := [.lit (.bool true)], args := [d1, d2] }
  | _ => none }
def fnExactTurnRow : OpenClaim := { program := "ytcableidjknlfaa", sum := "5ac0fcdb76409125ad57e2feb0c776e22b4ba208a82b8d4b8272524ca336cc50", func := "loop.example/g00283/laws.FnExactTurn", spec := "fnExactTurn", apart := false }
def FnExactTurnSaid : Prop := fnExactTurnRow.holds Try.pinned (OpenSpec.ofChange fnExactTurnSpec)

/-- ITS FALSE NEIGHBOUR: 'it returns false'. Refute it at one input. -/
def fnExactTurnWrong : ChangeSpec := { name := "fnExactTurn", fn := fun _ => fun
  | [d1, d2] => { results := [.lit (.bool false)], args := [d1, d2] }
  | _ => none }
def FnExactTurnWrongFalsely : Prop := fnExactTurnRow.holds Try.pinned (OpenSpec.ofChange fnExactTurnWrong)

/-- 'laws.FnExactNotesOk': WHATEVER THE INPUT: true; the input reads as it did. -/
def fnExactNotesOkSpec : ChangeSpec := { name := "fnExactNotesOk", fn := fun _ => fun
  | [d] => { results := [.lit (.bool true)], args := [d] }
  | _ => none }
def fnExactNotesOkRow : OpenClaim := { program := "ytcableidjknlfaa", sum := "5ac0fcdb76409125ad57e2feb0c776e22b4ba208a82b8d4b8272524ca336cc50", func := "loop.example/g00283/laws.FnExactNotesOk", spec := "fnExactNotesOk", apart := false }
def FnExactNotesOkSaid : Prop := fnExactNotesOkRow.holds Try.pinned (OpenSpec.ofChange fnExactNotesOkSpec)

/-- ITS FALSE NEIGHBOUR: 'it returns false'. Refute it at one input. -/
def fnExactNotesOkWrong : ChangeSpec := { name := "fnExactNotesOk", fn := fun _ => fun
  | [d] => { results := [.lit (.bool false)], args := [d] }
  | _ => none }
def FnExactNotesOkWrongFalsely : Prop := fnExactNotesOkRow.holds Try.pinned (OpenSpec.ofChange fnExactNotesOkWrong)

/-- 'laws.FnExactConstOk': WHATEVER THE INPUT: true; the input reads as it did. -/
def fnExactConstOkSpec : ChangeSpec := { name := "fnExactConstOk", fn := fun _ => fun
  | [d] => { results := [.lit (.bool true)], args := [d] }
  | _ => none }
def fnExactConstOkRow : OpenClaim := { program := "ytcableidjknlfaa", sum := "5ac0fcdb76409125ad57e2feb0c776e22b4ba208a82b8d4b8272524ca336cc50", func := "loop.example/g00283/laws.FnExactConstOk", spec := "fnExactConstOk", apart := false }
def FnExactConstOkSaid : Prop := fnExactConstOkRow.holds Try.pinned (OpenSpec.ofChange fnExactConstOkSpec)

/-- ITS FALSE NEIGHBOUR: 'it returns false'. Refute it at one input. -/
def fnExactConstOkWrong : ChangeSpec := { name := "fnExactConstOk", fn := fun _ => fun
  | [d] => { results := [.lit (.bool false)], args := [d] }
  | _ => none }
def FnExactConstOkWrongFalsely : Prop := fnExactConstOkRow.holds Try.pinned (OpenSpec.ofChange fnExactConstOkWrong)

/-- 'laws.FnExactSeal': WHATEVER THE INPUT: true; the input reads as it did. -/
def fnExactSealSpec : ChangeSpec := { name := "fnExactSeal", fn := fun _ => fun
  | [d] => { results := [.lit (.bool true)], args := [d] }
  | _ => none }
def fnExactSealRow : OpenClaim := { program := "ytcableidjknlfaa", sum := "5ac0fcdb76409125ad57e2feb0c776e22b4ba208a82b8d4b8272524ca336cc50", func := "loop.example/g00283/laws.FnExactSeal", spec := "fnExactSeal", apart := false }
def FnExactSealSaid : Prop := fnExactSealRow.holds Try.pinned (OpenSpec.ofChange fnExactSealSpec)

/-- ITS FALSE NEIGHBOUR: 'it returns false'. Refute it at one input. -/
def fnExactSealWrong : ChangeSpec := { name := "fnExactSeal", fn := fun _ => fun
  | [d] => { results := [.lit (.bool false)], args := [d] }
  | _ => none }
def FnExactSealWrongFalsely : Prop := fnExactSealRow.holds Try.pinned (OpenSpec.ofChange fnExactSealWrong)

/-- 'laws.FnExactGetText': WHATEVER THE INPUT: true; the input reads as it did. -/
def fnExactGetTextSpec : ChangeSpec := { name := "fnExactGetText", fn := fun _ => fun
  | [d1, d2] => { results := [.lit (.bool true)], args := [d1, d2] }
  | _ => none }
def fnExactGetTextRow : OpenClaim := { program := "ytcableidjknlfaa", sum := "5ac0fcdb76409125ad57e2feb0c776e22b4ba208a82b8d4b8272524ca336cc50", func := "loop.example/g00283/laws.FnExactGetText", spec := "fnExactGetText", apart := false }
def FnExactGetTextSaid : Prop := fnExactGetTextRow.holds Try.pinned (OpenSpec.ofChange fnExactGetTextSpec)

/-- ITS FALSE NEIGHBOUR: 'it returns false'. Refute it at one input. -/
def fnExactGetTextWrong : ChangeSpec := { name := "fnExactGetText", fn := fun _ => fun
  | [d1, d2] => { results := [.lit (.bool false)], args := [d1, d2] }
  | _ => none }
def FnExactGetTextWrongFalsely : Prop := fnExactGetTextRow.holds Try.pinned (OpenSpec.ofChange fnExactGetTextWrong)

/-- 'laws.FnExactPutText': WHATEVER THE INPUT: true; the input reads as it did. -/
def fnExactPutTextSpec : ChangeSpec := { name := "fnExactPutText", fn := fun _ => fun
  | [d] => { results := [.lit (.bool true)], args := [d] }
  | _ => none }
def fnExactPutTextRow : OpenClaim := { program := "ytcableidjknlfaa", sum := "5ac0fcdb76409125ad57e2feb0c776e22b4ba208a82b8d4b8272524ca336cc50", func := "loop.example/g00283/laws.FnExactPutText", spec := "fnExactPutText", apart := false }
def FnExactPutTextSaid : Prop := fnExactPutTextRow.holds Try.pinned (OpenSpec.ofChange fnExactPutTextSpec)

/-- ITS FALSE NEIGHBOUR: 'it returns false'. Refute it at one input. -/
def fnExactPutTextWrong : ChangeSpec := { name := "fnExactPutText", fn := fun _ => fun
  | [d] => { results := [.lit (.bool false)], args := [d] }
  | _ => none }
def FnExactPutTextWrongFalsely : Prop := fnExactPutTextRow.holds Try.pinned (OpenSpec.ofChange fnExactPutTextWrong)

/-- 'laws.FnExactOpen': WHATEVER THE INPUT: true; the input reads as it did. -/
def fnExactOpenSpec : ChangeSpec := { name := "fnExactOpen", fn := fun _ => fun
  | [d] => { results := [.lit (.bool true)], args := [d] }
  | _ => none }
def fnExactOpenRow : OpenClaim := { program := "ytcableidjknlfaa", sum := "5ac0fcdb76409125ad57e2feb0c776e22b4ba208a82b8d4b8272524ca336cc50", func := "loop.example/g00283/laws.FnExactOpen", spec := "fnExactOpen", apart := false }
def FnExactOpenSaid : Prop := fnExactOpenRow.holds Try.pinned (OpenSpec.ofChange fnExactOpenSpec)

/-- ITS FALSE NEIGHBOUR: 'it returns false'. Refute it at one input. -/
def fnExactOpenWrong : ChangeSpec := { name := "fnExactOpen", fn := fun _ => fun
  | [d] => { results := [.lit (.bool false)], args := [d] }
  | _ => none }
def FnExactOpenWrongFalsely : Prop := fnExactOpenRow.holds Try.pinned (OpenSpec.ofChange fnExactOpenWrong)

/-- 'laws.FnWords': WHATEVER THE INPUT: true; the input reads as it did. -/
def fnWordsSpec : ChangeSpec := { name := "fnWords", fn := fun _ => fun
  | [d] => { results := [.lit (.bool true)], args := [d] }
  | _ => none }
def fnWordsRow : OpenClaim := { program := "ytcableidjknlfaa", sum := "5ac0fcdb76409125ad57e2feb0c776e22b4ba208a82b8d4b8272524ca336cc50", func := "loop.example/g00283/laws.FnWords", spec := "fnWords", apart := false }
def FnWordsSaid : Prop := fnWordsRow.holds Try.pinned (OpenSpec.ofChange fnWordsSpec)

/-- ITS FALSE NEIGHBOUR: 'it returns false'. Refute it at one input. -/
def fnWordsWrong : ChangeSpec := { name := "fnWords", fn := fun _ => fun
  | [d] => { results := [.lit (.bool false)], args := [d] }
  | _ => none }
def FnWordsWrongFalsely : Prop := fnWordsRow.holds Try.pinned (OpenSpec.ofChange fnWordsWrong)

/- THE SECOND FORM. 'bulk': how many values and letters a reading holds, each counted each time it is reached (what is shared counts as often as it is met; a slice's spare places count too). A statement '..UptoSaid' is the law's where the arguments, and the package variables that the reading takes, are together of bulk at most 1048576: NARROWER than '..Said'. Prove '..Said' where nothing that the law and all that it calls make is longer than what came in: it says more and counts as full. Else prove '..UptoSaid'. A law counts once. -/
mutual
def uptoBulk {H : Type} : DataW H → Nat
  | .lit (.string bytes) => bytes.length + 1
  | .lit _ => 1
  | .nil => 1
  | .ptr d => uptoBulk d + 1
  | .slice elems spare => uptoBulkAll elems + uptoBulkAll spare + 1
  | .agg parts => uptoBulkAll parts + 1
  | .iface _ d => uptoBulk d + 1
  | .map entries => uptoBulkEntries entries + 1
  | .held _ => 1
def uptoBulkAll {H : Type} : List (DataW H) → Nat
  | [] => 0
  | d :: r => uptoBulk d + uptoBulkAll r
def uptoBulkEntries {H : Type} : List (Lit × DataW H) → Nat
  | [] => 0
  | x :: r => uptoBulkEntry x + uptoBulkEntries r
def uptoBulkEntry {H : Type} : Lit × DataW H → Nat
  | (.string bytes, d) => bytes.length + uptoBulk d + 1
  | (_, d) => uptoBulk d + 1
 end
def uptoSmall : (H : Type) → List (DataW H) → Bool := fun _ ds => decide (uptoBulkAll ds ≤ 1048576)
def OpenSpec.upto (s : _root_.Go.ChangeSpec) : _root_.Go.OpenSpec := { _root_.Go.OpenSpec.ofChange s with cond := some uptoSmall }

/-- 'laws.FnExactPutWord', WHERE WHAT IT READS IS OF BULK AT MOST 1048576: true; the input reads as it did. -/
def fnExactPutWordUptoRow : OpenClaim := { program := "ytcableidjknlfaa", sum := "5ac0fcdb76409125ad57e2feb0c776e22b4ba208a82b8d4b8272524ca336cc50", func := "loop.example/g00283/laws.FnExactPutWord", spec := "fnExactPutWord", apart := false, narrowed := true }
def FnExactPutWordUptoSaid : Prop := fnExactPutWordUptoRow.holds Try.pinned (OpenSpec.upto fnExactPutWordSpec)

/-- 'laws.FnExactPutNum', WHERE WHAT IT READS IS OF BULK AT MOST 1048576: true; the input reads as it did. -/
def fnExactPutNumUptoRow : OpenClaim := { program := "ytcableidjknlfaa", sum := "5ac0fcdb76409125ad57e2feb0c776e22b4ba208a82b8d4b8272524ca336cc50", func := "loop.example/g00283/laws.FnExactPutNum", spec := "fnExactPutNum", apart := false, narrowed := true }
def FnExactPutNumUptoSaid : Prop := fnExactPutNumUptoRow.holds Try.pinned (OpenSpec.upto fnExactPutNumSpec)

/-- 'laws.FnExactGetNum', WHERE WHAT IT READS IS OF BULK AT MOST 1048576: true; the input reads as it did. -/
def fnExactGetNumUptoRow : OpenClaim := { program := "ytcableidjknlfaa", sum := "5ac0fcdb76409125ad57e2feb0c776e22b4ba208a82b8d4b8272524ca336cc50", func := "loop.example/g00283/laws.FnExactGetNum", spec := "fnExactGetNum", apart := false, narrowed := true }
def FnExactGetNumUptoSaid : Prop := fnExactGetNumUptoRow.holds Try.pinned (OpenSpec.upto fnExactGetNumSpec)

/-- 'laws.FnRoundSums', WHERE WHAT IT READS IS OF BULK AT MOST 1048576: true; the input reads as it did. -/
def fnRoundSumsUptoRow : OpenClaim := { program := "ytcableidjknlfaa", sum := "5ac0fcdb76409125ad57e2feb0c776e22b4ba208a82b8d4b8272524ca336cc50", func := "loop.example/g00283/laws.FnRoundSums", spec := "fnRoundSums", apart := false, narrowed := true }
def FnRoundSumsUptoSaid : Prop := fnRoundSumsUptoRow.holds Try.pinned (OpenSpec.upto fnRoundSumsSpec)

/-- 'laws.FnExactTurn', WHERE WHAT IT READS IS OF BULK AT MOST 1048576: true; the input reads as it did. -/
def fnExactTurnUptoRow : OpenClaim := { program := "ytcableidjknlfaa", sum := "5ac0fcdb76409125ad57e2feb0c776e22b4ba208a82b8d4b8272524ca336cc50", func := "loop.example/g00283/laws.FnExactTurn", spec := "fnExactTurn", apart := false, narrowed := true }
def FnExactTurnUptoSaid : Prop := fnExactTurnUptoRow.holds Try.pinned (OpenSpec.upto fnExactTurnSpec)

/-- 'laws.FnExactNotesOk', WHERE WHAT IT READS IS OF BULK AT MOST 1048576: true; the input reads as it did. -/
def fnExactNotesOkUptoRow : OpenClaim := { program := "ytcableidjknlfaa", sum := "5ac0fcdb76409125ad57e2feb0c776e22b4ba208a82b8d4b8272524ca336cc50", func := "loop.example/g00283/laws.FnExactNotesOk", spec := "fnExactNotesOk", apart := false, narrowed := true }
def FnExactNotesOkUptoSaid : Prop := fnExactNotesOkUptoRow.holds Try.pinned (OpenSpec.upto fnExactNotesOkSpec)

/-- 'laws.FnExactConstOk', WHERE WHAT IT READS IS OF BULK AT MOST 1048576: true; the input reads as it did. -/
def fnExactConstOkUptoRow : OpenClaim := { program := "ytcableidjknlfaa", sum := "5ac0fcdb76409125ad57e2feb0c776e22b4ba208a82b8d4b8272524ca336cc50", func := "loop.example/g00283/laws.FnExactConstOk", spec := "fnExactConstOk", apart := false, narrowed := true }
def FnExactConstOkUptoSaid : Prop := fnExactConstOkUptoRow.holds Try.pinned (OpenSpec.upto fnExactConstOkSpec)

/-- 'laws.FnExactSeal', WHERE WHAT IT READS IS OF BULK AT MOST 1048576: true; the input reads as it did. -/
def fnExactSealUptoRow : OpenClaim := { program := "ytcableidjknlfaa", sum := "5ac0fcdb76409125ad57e2feb0c776e22b4ba208a82b8d4b8272524ca336cc50", func := "loop.example/g00283/laws.FnExactSeal", spec := "fnExactSeal", apart := false, narrowed := true }
def FnExactSealUptoSaid : Prop := fnExactSealUptoRow.holds Try.pinned (OpenSpec.upto fnExactSealSpec)

/-- 'laws.FnExactGetText', WHERE WHAT IT READS IS OF BULK AT MOST 1048576: true; the input reads as it did. -/
def fnExactGetTextUptoRow : OpenClaim := { program := "ytcableidjknlfaa", sum := "5ac0fcdb76409125ad57e2feb0c776e22b4ba208a82b8d4b8272524ca336cc50", func := "loop.example/g00283/laws.FnExactGetText", spec := "fnExactGetText", apart := false, narrowed := true }
def FnExactGetTextUptoSaid : Prop := fnExactGetTextUptoRow.holds Try.pinned (OpenSpec.upto fnExactGetTextSpec)

/-- 'laws.FnExactPutText', WHERE WHAT IT READS IS OF BULK AT MOST 1048576: true; the input reads as it did. -/
def fnExactPutTextUptoRow : OpenClaim := { program := "ytcableidjknlfaa", sum := "5ac0fcdb76409125ad57e2feb0c776e22b4ba208a82b8d4b8272524ca336cc50", func := "loop.example/g00283/laws.FnExactPutText", spec := "fnExactPutText", apart := false, narrowed := true }
def FnExactPutTextUptoSaid : Prop := fnExactPutTextUptoRow.holds Try.pinned (OpenSpec.upto fnExactPutTextSpec)

/-- 'laws.FnExactOpen', WHERE WHAT IT READS IS OF BULK AT MOST 1048576: true; the input reads as it did. -/
def fnExactOpenUptoRow : OpenClaim := { program := "ytcableidjknlfaa", sum := "5ac0fcdb76409125ad57e2feb0c776e22b4ba208a82b8d4b8272524ca336cc50", func := "loop.example/g00283/laws.FnExactOpen", spec := "fnExactOpen", apart := false, narrowed := true }
def FnExactOpenUptoSaid : Prop := fnExactOpenUptoRow.holds Try.pinned (OpenSpec.upto fnExactOpenSpec)

/-- 'laws.FnWords', WHERE WHAT IT READS IS OF BULK AT MOST 1048576: true; the input reads as it did. -/
def fnWordsUptoRow : OpenClaim := { program := "ytcableidjknlfaa", sum := "5ac0fcdb76409125ad57e2feb0c776e22b4ba208a82b8d4b8272524ca336cc50", func := "loop.example/g00283/laws.FnWords", spec := "fnWords", apart := false, narrowed := true }
def FnWordsUptoSaid : Prop := fnWordsUptoRow.holds Try.pinned (OpenSpec.upto fnWordsSpec)

end Rows
end Go.Proofs.Ytcableidjknlfaa
