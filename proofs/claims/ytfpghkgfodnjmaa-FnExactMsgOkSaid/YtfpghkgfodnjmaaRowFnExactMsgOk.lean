/- The statement FnExactMsgOkSaid out of the printed contract of the law and of the pure theorem: the arguments are opened type by type. No condition. -/
import Derived.Test.YtfpghkgfodnjmaaRows
import Derived.Test.YtfpghkgfodnjmaaMFnExactMsgOkx11
import Derived.Test.YtfpghkgfodnjmaaPureFnExactMsgOk
import Derived.WalkKit
import Derived.ProofKit
import Derived.OpenShut
import Derived.ShutString
import Derived.ChangeOld
import Derived.Below
import Derived.SizedLaws
import Derived.Test.YtfpghkgfodnjmaaLib3
namespace Go.Proofs.Ytfpghkgfodnjmaa.fnExactMsgOk
open Go.ChangeShapes Go.WideShapes Go.ChangeAt Go.RowKit Go.Proofs.YtfpghkgfodnjmaaLib Go.Proofs.YtfpghkgfodnjmaaW.PrintWords Go.Proofs.Ytfpghkgfodnjmaa.MFnExactMsgOk
set_option linter.unusedVariables false
set_option linter.unusedSimpArgs false
theorem own : ownKnob Try.prog.godebug = none := by kernel_rfl
theorem laidOut : laidOutB Try.prog = true := by kernel_rfl
set_option maxRecDepth 100000 in
set_option maxHeartbeats 1000000 in
theorem lifted (os : Os) (started : os.Started) (H : Type) (enc : TypeId × Value → H) :
    ReturnsInHanded {} Try.checked os 11 .any (Rows.fnExactMsgOkSpec.pre6 enc Try.prog Try.f11 Rows.fnExactMsgOkRow.domain false) (Rows.fnExactMsgOkSpec.post enc Try.prog Try.f11 false true false false) := by
  refine returnsInHanded_of_change_sized (C := Try.checked) own started (by kernel_rfl) Try.func11
    (ChangeSpec.witness6 (enc := enc) (C := Try.checked) false ⟨#[], #[.agg #[.int .i64 0, .int .i64 0, .int .i64 0, .int .i64 0, .int .i64 0, .slice none 0 0, .slice none 0 0]], []⟩ 8 (by kernel_rfl) (by kernel_rfl) (by kernel_rfl) (by kernel_rfl)) ?_
  intro W base args ds gs before hval0 hW hcnd hsz0 _
  have hval : ∀ (j : Nat) t v, Try.f11.params[j]? = some t → args[j]? = some v → Value.okWide Try.prog W .any base t v := hval0
  have hW' := hW
  obtain ⟨p, q, hA0, hV, rfl, hfz, hnd⟩ := hW
  have hA : DataW.TrodAll enc Try.prog W 0 (fun _ => true) true Try.f11.params.toList args.toList ds p := hA0
  rw [Try.params11] at hA hval
  obtain ⟨v0, vs0, d0, ds0, p0, q0, hargs, rfl, rfl, h0, r0⟩ := trodAll_cons hA
  obtain ⟨rfl, rfl, rfl⟩ := trodAll_nil r0
  obtain rfl : args = #[v0] := by cases args; simp_all
  obtain ⟨rfl, rfl⟩ := trodVars_none hV
  have k0 := h0
  have lt0 : ∀ x ∈ p0, x.block < W.heap.size := by obtain ⟨m, hm⟩ := k0; exact DataW.trod_lt m _ _ _ hm
  obtain ⟨fuel0, hf0⟩ := h0
  obtain ⟨a0, ha0, hg0⟩ := (opn_struct Try.underlying76 (by kernel_rfl) (opnF_cons rfl (by kernel_rfl) (opn_int Try.underlying3) (opnF_cons rfl (by kernel_rfl) (opn_int Try.underlying3) (opnF_cons rfl (by kernel_rfl) (opn_int Try.underlying3) (opnF_cons rfl (by kernel_rfl) (opn_int Try.underlying3) (opnF_cons rfl (by kernel_rfl) (opn_int Try.underlying3) (opnF_cons rfl (by kernel_rfl) (opn_slice Try.underlying73 (by kernel_rfl) (show Opn Try.prog W 165 k165 _ from opn_iso (fun a => (⟨a.1, a.2⟩ : S165)) (fun _ => rfl) (opn_struct Try.underlying165 (by kernel_rfl) (opnF_cons rfl (by kernel_rfl) (opn_int Try.underlying3) (opnF_one rfl (by kernel_rfl) (show Opn Try.prog W 163 k163 _ from opn_iso (fun a => (⟨a.1, a.2⟩ : S163)) (fun _ => rfl) (opn_struct Try.underlying163 (by kernel_rfl) (opnF_cons rfl (by kernel_rfl) (opn_bool Try.underlying4) (opnF_one rfl (by kernel_rfl) (opn_int Try.underlying3)))))))))) (opnF_one rfl (by kernel_rfl) (opn_slice Try.underlying74 (by kernel_rfl) (show Opn Try.prog W 167 k167 _ from opn_iso (fun a => (⟨a.1, a.2⟩ : S167)) (fun _ => rfl) (opn_struct Try.underlying167 (by kernel_rfl) (opnF_cons rfl (by kernel_rfl) (opn_int Try.underlying3) (opnF_one rfl (by kernel_rfl) (opn_int Try.underlying3)))))))))))))) enc fuel0 _ _ hf0
  obtain ⟨cs0, rfl, hsz0⟩ := okWide_struct Try.underlying76 (hval 0 76 v0 rfl rfl)
  obtain ⟨x0_0, y0_1, q0_2, e0_0, ⟨x0_2, y0_3, q0_4, e0_1, ⟨x0_4, y0_5, q0_6, e0_2, ⟨x0_6, y0_7, q0_8, e0_3, ⟨x0_8, y0_9, q0_10, e0_4, ⟨x0_10, y0_11, q0_12, ⟨A0_5, c0_5, e0_5, hlc0_5, hC0_5⟩, ⟨A0_6, c0_6, e0_6, hlc0_6, hC0_6⟩⟩⟩⟩⟩⟩⟩ := ha0
  have hcs0 : cs0 = #[.int .i64 a0.1, .int .i64 a0.2.1, .int .i64 a0.2.2.1, .int .i64 a0.2.2.2.1, .int .i64 a0.2.2.2.2.1, .slice A0_5 a0.2.2.2.2.2.1.length c0_5, .slice A0_6 a0.2.2.2.2.2.2.length c0_6] := by
    have : cs0.toList = [.int .i64 a0.1, .int .i64 a0.2.1, .int .i64 a0.2.2.1, .int .i64 a0.2.2.2.1, .int .i64 a0.2.2.2.2.1, .slice A0_5 a0.2.2.2.2.2.1.length c0_5, .slice A0_6 a0.2.2.2.2.2.2.length c0_6] := by
      show (Value.agg cs0).cells.toList = _
      rw [q0_2, q0_4, q0_6, q0_8, q0_10, q0_12]
      simp only [Kd.int, Kd.bool, Kd.string, Kd.scalar] at e0_0 e0_1 e0_2 e0_3 e0_4
      simp [e0_0, e0_1, e0_2, e0_3, e0_4, e0_5, e0_6]
    rw [← Array.toArray_toList (xs := cs0), this]
  subst hcs0
  obtain ⟨k, hk⟩ := Pure.FnExactMsgOk (a0.1) (a0.2.1) (a0.2.2.1) (a0.2.2.2.1) (a0.2.2.2.2.1) (a0.2.2.2.2.2.1) (a0.2.2.2.2.2.2) hg0.1 hg0.2.1 hg0.2.2.1 hg0.2.2.2.1 hg0.2.2.2.2.1 hg0.2.2.2.2.2.1 hg0.2.2.2.2.2.2
  refine (MFnExactMsgOk.laws_FnExactMsgOk.calls k _ _ _ _ _ _ _ _ _ _ _ true W hC0_5 hlc0_5 hC0_6 hlc0_6 hk).mono ?_
  rintro e W' ⟨rfl, bel⟩
  exact ⟨_, rfl, _, _, _, [], _, [], hW', trodAll_mk1 (shut_bool Try.underlying4 _), (trodAll_cons_mk (Below.trod laidOut (by kernel_rfl) (of_decide_eq_true (by kernel_rfl)) k0 bel lt0) trodAll_mk0), rfl, bel.frame _, fun h => by cases h⟩
theorem over : Rows.fnExactMsgOkRow.holds Try.pinned (OpenSpec.ofChange Rows.fnExactMsgOkSpec) :=
  OpenClaim.holds_of_wide 11 Try.f11 rfl rfl rfl rfl rfl rfl rfl ⟨rfl, rfl, rfl, rfl, rfl⟩ rfl rfl rfl rfl rfl (by kernel_rfl) Try.func11 (by kernel_rfl)
    (of_decide_eq_true (by kernel_rfl)) (by unfold Func.isWrapper; first | (rw [if_pos (by decide +kernel)]; kernel_rfl) | (rw [if_neg (by decide +kernel)]; exact ⟨rfl, rfl⟩))
    (fun os started H enc _ => lifted os started H enc)
end Go.Proofs.Ytfpghkgfodnjmaa.fnExactMsgOk
namespace Go.Proofs.Ytfpghkgfodnjmaa
theorem fnExactMsgOk_holds : Rows.FnExactMsgOkSaid := fnExactMsgOk.over
#print axioms fnExactMsgOk_holds
end Go.Proofs.Ytfpghkgfodnjmaa
