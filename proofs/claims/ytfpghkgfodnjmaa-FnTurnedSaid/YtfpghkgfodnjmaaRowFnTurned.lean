/- The statement FnTurnedSaid out of the printed contract of the law and of the pure theorem: the arguments are opened type by type. No condition. -/
import Derived.Test.YtfpghkgfodnjmaaRows
import Derived.Test.YtfpghkgfodnjmaaMFnTurnedx4
import Derived.Test.YtfpghkgfodnjmaaPureFnTurned
import Derived.WalkKit
import Derived.ProofKit
import Derived.OpenShut
import Derived.ShutString
import Derived.ChangeOld
import Derived.Below
import Derived.SizedLaws
import Derived.Test.YtfpghkgfodnjmaaLib3
namespace Go.Proofs.Ytfpghkgfodnjmaa.fnTurned
open Go.ChangeShapes Go.WideShapes Go.ChangeAt Go.RowKit Go.Proofs.YtfpghkgfodnjmaaLib Go.Proofs.YtfpghkgfodnjmaaW.PrintWords Go.Proofs.Ytfpghkgfodnjmaa.MFnTurned
set_option linter.unusedVariables false
set_option linter.unusedSimpArgs false
theorem own : ownKnob Try.prog.godebug = none := by kernel_rfl
theorem laidOut : laidOutB Try.prog = true := by kernel_rfl
set_option maxRecDepth 100000 in
set_option maxHeartbeats 1000000 in
theorem lifted (os : Os) (started : os.Started) (H : Type) (enc : TypeId × Value → H) :
    ReturnsInHanded {} Try.checked os 3 .any (Rows.fnTurnedSpec.pre6 enc Try.prog Try.f3 Rows.fnTurnedRow.domain false) (Rows.fnTurnedSpec.post enc Try.prog Try.f3 false true false false) := by
  refine returnsInHanded_of_change_sized (C := Try.checked) own started (by kernel_rfl) Try.func3
    (ChangeSpec.witness6 (enc := enc) (C := Try.checked) false ⟨#[], #[.slice none 0 0], []⟩ 8 (by kernel_rfl) (by kernel_rfl) (by kernel_rfl) (by kernel_rfl)) ?_
  intro W base args ds gs before hval0 hW hcnd hsz0 _
  have hval : ∀ (j : Nat) t v, Try.f3.params[j]? = some t → args[j]? = some v → Value.okWide Try.prog W .any base t v := hval0
  have hW' := hW
  obtain ⟨p, q, hA0, hV, rfl, hfz, hnd⟩ := hW
  have hA : DataW.TrodAll enc Try.prog W 0 (fun _ => true) true Try.f3.params.toList args.toList ds p := hA0
  rw [Try.params3] at hA hval
  obtain ⟨v0, vs0, d0, ds0, p0, q0, hargs, rfl, rfl, h0, r0⟩ := trodAll_cons hA
  obtain ⟨rfl, rfl, rfl⟩ := trodAll_nil r0
  obtain rfl : args = #[v0] := by cases args; simp_all
  obtain ⟨rfl, rfl⟩ := trodVars_none hV
  have k0 := h0
  have lt0 : ∀ x ∈ p0, x.block < W.heap.size := by obtain ⟨m, hm⟩ := k0; exact DataW.trod_lt m _ _ _ hm
  obtain ⟨fuel0, hf0⟩ := h0
  obtain ⟨a0, ha0, hg0⟩ := (opn_slice Try.underlying22 (by kernel_rfl) (opn_int Try.underlying5)) enc fuel0 _ _ hf0
  obtain ⟨ad0, len0, cap0, rfl⟩ := okWide_slice Try.underlying22 (hval 0 22 v0 rfl rfl)
  obtain ⟨A0, c0, hcs0, hlc0, hC0⟩ := ha0
  obtain ⟨rfl, rfl, rfl⟩ : ad0 = A0 ∧ len0 = a0.length ∧ cap0 = c0 := by simpa [Value.cells] using hcs0
  obtain ⟨k, hk⟩ := Pure.FnTurned a0 hg0
  refine (MFnTurned.laws_FnTurned.calls k _ _ _ true W hC0 hlc0 hk).mono ?_
  rintro e W' ⟨rfl, bel⟩
  exact ⟨_, rfl, _, _, _, [], _, [], hW', trodAll_mk1 (shut_bool Try.underlying4 _), (trodAll_cons_mk (Below.trod laidOut (by kernel_rfl) (of_decide_eq_true (by kernel_rfl)) k0 bel lt0) trodAll_mk0), rfl, bel.frame _, fun h => by cases h⟩
theorem over : Rows.fnTurnedRow.holds Try.pinned (OpenSpec.ofChange Rows.fnTurnedSpec) :=
  OpenClaim.holds_of_wide 3 Try.f3 rfl rfl rfl rfl rfl rfl rfl ⟨rfl, rfl, rfl, rfl, rfl⟩ rfl rfl rfl rfl rfl (by kernel_rfl) Try.func3 (by kernel_rfl)
    (of_decide_eq_true (by kernel_rfl)) (by unfold Func.isWrapper; first | (rw [if_pos (by decide +kernel)]; kernel_rfl) | (rw [if_neg (by decide +kernel)]; exact ⟨rfl, rfl⟩))
    (fun os started H enc _ => lifted os started H enc)
end Go.Proofs.Ytfpghkgfodnjmaa.fnTurned
namespace Go.Proofs.Ytfpghkgfodnjmaa
theorem fnTurned_holds : Rows.FnTurnedSaid := fnTurned.over
#print axioms fnTurned_holds
end Go.Proofs.Ytfpghkgfodnjmaa
