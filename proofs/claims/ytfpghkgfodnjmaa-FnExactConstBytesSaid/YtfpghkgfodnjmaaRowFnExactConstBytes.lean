/- The statement FnExactConstBytesSaid out of the printed contract of the law and of the pure theorem: the arguments are opened type by type. No condition. -/
import Derived.Test.YtfpghkgfodnjmaaRows
import Derived.Test.YtfpghkgfodnjmaaMFnExactConstBytesx5
import Derived.Test.YtfpghkgfodnjmaaPureFnExactConstBytes
import Derived.WalkKit
import Derived.ProofKit
import Derived.OpenShut
import Derived.ShutString
import Derived.ChangeOld
import Derived.Below
import Derived.SizedLaws
import Derived.Test.YtfpghkgfodnjmaaLib3
namespace Go.Proofs.Ytfpghkgfodnjmaa.fnExactConstBytes
open Go.ChangeShapes Go.WideShapes Go.ChangeAt Go.RowKit Go.Proofs.YtfpghkgfodnjmaaLib Go.Proofs.YtfpghkgfodnjmaaW.PrintWords Go.Proofs.Ytfpghkgfodnjmaa.MFnExactConstBytes
set_option linter.unusedVariables false
set_option linter.unusedSimpArgs false
theorem own : ownKnob Try.prog.godebug = none := by kernel_rfl
theorem laidOut : laidOutB Try.prog = true := by kernel_rfl
set_option maxRecDepth 100000 in
set_option maxHeartbeats 1000000 in
theorem lifted (os : Os) (started : os.Started) (H : Type) (enc : TypeId × Value → H) :
    ReturnsInHanded {} Try.checked os 8 .any (Rows.fnExactConstBytesSpec.pre6 enc Try.prog Try.f8 Rows.fnExactConstBytesRow.domain false) (Rows.fnExactConstBytesSpec.post enc Try.prog Try.f8 false true false false) := by
  refine returnsInHanded_of_change_sized (C := Try.checked) own started (by kernel_rfl) Try.func8
    (ChangeSpec.witness6 (enc := enc) (C := Try.checked) false ⟨#[], #[.agg #[.int .i64 0, .int .i64 0, .string ⟨#[]⟩, .string ⟨#[]⟩]], []⟩ 8 (by kernel_rfl) (by kernel_rfl) (by kernel_rfl) (by kernel_rfl)) ?_
  intro W base args ds gs before hval0 hW hcnd hsz0 _
  have hval : ∀ (j : Nat) t v, Try.f8.params[j]? = some t → args[j]? = some v → Value.okWide Try.prog W .any base t v := hval0
  have hW' := hW
  obtain ⟨p, q, hA0, hV, rfl, hfz, hnd⟩ := hW
  have hA : DataW.TrodAll enc Try.prog W 0 (fun _ => true) true Try.f8.params.toList args.toList ds p := hA0
  rw [Try.params8] at hA hval
  obtain ⟨v0, vs0, d0, ds0, p0, q0, hargs, rfl, rfl, h0, r0⟩ := trodAll_cons hA
  obtain ⟨rfl, rfl, rfl⟩ := trodAll_nil r0
  obtain rfl : args = #[v0] := by cases args; simp_all
  obtain ⟨rfl, rfl⟩ := trodVars_none hV
  have k0 := h0
  have lt0 : ∀ x ∈ p0, x.block < W.heap.size := by obtain ⟨m, hm⟩ := k0; exact DataW.trod_lt m _ _ _ hm
  obtain ⟨fuel0, hf0⟩ := h0
  obtain ⟨a0, ha0, hg0⟩ := (opn_struct Try.underlying58 (by kernel_rfl) (opnF_cons rfl (by kernel_rfl) (opn_int Try.underlying3) (opnF_cons rfl (by kernel_rfl) (opn_int Try.underlying3) (opnF_cons rfl (by kernel_rfl) (opn_string Try.underlying9) (opnF_one rfl (by kernel_rfl) (opn_string Try.underlying9)))))) enc fuel0 _ _ hf0
  obtain ⟨cs0, rfl, hsz0⟩ := okWide_struct Try.underlying58 (hval 0 58 v0 rfl rfl)
  obtain ⟨x0_0, y0_1, q0_2, e0_0, ⟨x0_2, y0_3, q0_4, e0_1, ⟨x0_4, y0_5, q0_6, e0_2, e0_3⟩⟩⟩ := ha0
  have hcs0 : cs0 = #[.int .i64 a0.1, .int .i64 a0.2.1, .string a0.2.2.1, .string a0.2.2.2] := by
    have : cs0.toList = [.int .i64 a0.1, .int .i64 a0.2.1, .string a0.2.2.1, .string a0.2.2.2] := by
      show (Value.agg cs0).cells.toList = _
      rw [q0_2, q0_4, q0_6]
      simp only [Kd.int, Kd.bool, Kd.string, Kd.scalar] at e0_0 e0_1 e0_2 e0_3
      simp [e0_0, e0_1, e0_2, e0_3]
    rw [← Array.toArray_toList (xs := cs0), this]
  subst hcs0
  obtain ⟨k, hk⟩ := Pure.FnExactConstBytes (a0.1) (a0.2.1) (a0.2.2.1) (a0.2.2.2) hg0.1 hg0.2.1 hg0.2.2.1 hg0.2.2.2
  refine (MFnExactConstBytes.laws_FnExactConstBytes.calls k _ _ _ _ true W hk).mono ?_
  rintro e W' ⟨rfl, bel⟩
  exact ⟨_, rfl, _, _, _, [], _, [], hW', trodAll_mk1 (shut_bool Try.underlying4 _), (trodAll_cons_mk (Below.trod laidOut (by kernel_rfl) (of_decide_eq_true (by kernel_rfl)) k0 bel lt0) trodAll_mk0), rfl, bel.frame _, fun h => by cases h⟩
theorem over : Rows.fnExactConstBytesRow.holds Try.pinned (OpenSpec.ofChange Rows.fnExactConstBytesSpec) :=
  OpenClaim.holds_of_wide 8 Try.f8 rfl rfl rfl rfl rfl rfl rfl ⟨rfl, rfl, rfl, rfl, rfl⟩ rfl rfl rfl rfl rfl (by kernel_rfl) Try.func8 (by kernel_rfl)
    (of_decide_eq_true (by kernel_rfl)) (by unfold Func.isWrapper; first | (rw [if_pos (by decide +kernel)]; kernel_rfl) | (rw [if_neg (by decide +kernel)]; exact ⟨rfl, rfl⟩))
    (fun os started H enc _ => lifted os started H enc)
end Go.Proofs.Ytfpghkgfodnjmaa.fnExactConstBytes
namespace Go.Proofs.Ytfpghkgfodnjmaa
theorem fnExactConstBytes_holds : Rows.FnExactConstBytesSaid := fnExactConstBytes.over
#print axioms fnExactConstBytes_holds
end Go.Proofs.Ytfpghkgfodnjmaa
