/- The statement FnExactValOkSaid out of the printed contract of the law and of the pure theorem: the arguments are opened type by type. No condition. -/
import Derived.Test.YteconfmfgehoeaaRows
import Derived.Test.YteconfmfgehoeaaPFnExactValOkx1
import Derived.Test.YteconfmfgehoeaaPureFnExactValOk
import Derived.WalkKit
import Derived.ProofKit
import Derived.OpenShut
import Derived.ShutString
import Derived.ChangeOld
import Derived.Below
import Derived.SizedLaws
import Derived.Test.YteconfmfgehoeaaLib3
namespace Go.Proofs.Yteconfmfgehoeaa.fnExactValOk
open Go.ChangeShapes Go.WideShapes Go.ChangeAt Go.RowKit Go.Proofs.YteconfmfgehoeaaLib Go.Proofs.YteconfmfgehoeaaW.PrintWords Go.Proofs.Yteconfmfgehoeaa.PFnExactValOk
set_option linter.unusedVariables false
set_option linter.unusedSimpArgs false
theorem own : ownKnob Try.prog.godebug = none := by kernel_rfl
theorem laidOut : laidOutB Try.prog = true := by kernel_rfl
set_option maxRecDepth 100000 in
set_option maxHeartbeats 1000000 in
theorem lifted (os : Os) (started : os.Started) (H : Type) (enc : TypeId × Value → H) :
    ReturnsInHanded {} Try.checked os 6 .any (Rows.fnExactValOkSpec.pre6 enc Try.prog Try.f6 Rows.fnExactValOkRow.domain false) (Rows.fnExactValOkSpec.post enc Try.prog Try.f6 false true false false) := by
  refine returnsInHanded_of_change_sized (C := Try.checked) own started (by kernel_rfl) Try.func6
    (ChangeSpec.witness6 (enc := enc) (C := Try.checked) false ⟨#[], #[.agg #[.bool false, .int .i64 0]], []⟩ 8 (by kernel_rfl) (by kernel_rfl) (by kernel_rfl) (by kernel_rfl)) ?_
  intro W base args ds gs before hval0 hW hcnd hsz0 _
  have hval : ∀ (j : Nat) t v, Try.f6.params[j]? = some t → args[j]? = some v → Value.okWide Try.prog W .any base t v := hval0
  have hW' := hW
  obtain ⟨p, q, hA0, hV, rfl, hfz, hnd⟩ := hW
  have hA : DataW.TrodAll enc Try.prog W 0 (fun _ => true) true Try.f6.params.toList args.toList ds p := hA0
  rw [Try.params6] at hA hval
  obtain ⟨v0, vs0, d0, ds0, p0, q0, hargs, rfl, rfl, h0, r0⟩ := trodAll_cons hA
  obtain ⟨rfl, rfl, rfl⟩ := trodAll_nil r0
  obtain rfl : args = #[v0] := by cases args; simp_all
  obtain ⟨rfl, rfl⟩ := trodVars_none hV
  have k0 := h0
  have lt0 : ∀ x ∈ p0, x.block < W.heap.size := by obtain ⟨m, hm⟩ := k0; exact DataW.trod_lt m _ _ _ hm
  obtain ⟨fuel0, hf0⟩ := h0
  obtain ⟨a0, ha0, hg0⟩ := (opn_struct Try.underlying26 (by kernel_rfl) (opnF_cons rfl (by kernel_rfl) (opn_bool Try.underlying4) (opnF_one rfl (by kernel_rfl) (opn_int Try.underlying3)))) enc fuel0 _ _ hf0
  obtain ⟨cs0, rfl, hsz0⟩ := okWide_struct Try.underlying26 (hval 0 26 v0 rfl rfl)
  obtain ⟨x0_0, y0_1, q0_2, e0_0, e0_1⟩ := ha0
  have hcs0 : cs0 = #[.bool a0.1, .int .i64 a0.2] := by
    have : cs0.toList = [.bool a0.1, .int .i64 a0.2] := by
      show (Value.agg cs0).cells.toList = _
      rw [q0_2]
      simp only [Kd.int, Kd.bool, Kd.string, Kd.scalar] at e0_0 e0_1
      simp [e0_0, e0_1]
    rw [← Array.toArray_toList (xs := cs0), this]
  subst hcs0
  have hk := Pure.FnExactValOk (a0.1) (a0.2) hg0.1 hg0.2
  refine (PFnExactValOk.laws_FnExactValOk.calls _ _ true W hk).mono ?_
  rintro e W' ⟨rfl, bel⟩
  exact ⟨_, rfl, _, _, _, [], _, [], hW', trodAll_mk1 (shut_bool Try.underlying4 _), (trodAll_cons_mk (Below.trod laidOut (by kernel_rfl) (of_decide_eq_true (by kernel_rfl)) k0 bel lt0) trodAll_mk0), rfl, bel.frame _, fun h => by cases h⟩
theorem over : Rows.fnExactValOkRow.holds Try.pinned (OpenSpec.ofChange Rows.fnExactValOkSpec) :=
  OpenClaim.holds_of_wide 6 Try.f6 rfl rfl rfl rfl rfl rfl rfl ⟨rfl, rfl, rfl, rfl, rfl⟩ rfl rfl rfl rfl rfl (by kernel_rfl) Try.func6 (by kernel_rfl)
    (of_decide_eq_true (by kernel_rfl)) (by unfold Func.isWrapper; first | (rw [if_pos (by decide +kernel)]; kernel_rfl) | (rw [if_neg (by decide +kernel)]; exact ⟨rfl, rfl⟩))
    (fun os started H enc _ => lifted os started H enc)
end Go.Proofs.Yteconfmfgehoeaa.fnExactValOk
namespace Go.Proofs.Yteconfmfgehoeaa
theorem fnExactValOk_holds : Rows.FnExactValOkSaid := fnExactValOk.over
#print axioms fnExactValOk_holds
end Go.Proofs.Yteconfmfgehoeaa
