/- The statement FnExactConstOfSaid out of the printed contract of the law and of the pure theorem: the arguments are opened type by type. No condition. -/
import Derived.Test.YtfpghkgfodnjmaaRows
import Derived.Test.YtfpghkgfodnjmaaMFnExactConstOfx7
import Derived.Test.YtfpghkgfodnjmaaPureFnExactConstOf
import Derived.WalkKit
import Derived.ProofKit
import Derived.OpenShut
import Derived.ShutString
import Derived.ChangeOld
import Derived.Below
import Derived.SizedLaws
import Derived.Test.YtfpghkgfodnjmaaLib3
namespace Go.Proofs.Ytfpghkgfodnjmaa.fnExactConstOf
open Go.ChangeShapes Go.WideShapes Go.ChangeAt Go.RowKit Go.Proofs.YtfpghkgfodnjmaaLib Go.Proofs.YtfpghkgfodnjmaaW.PrintWords Go.Proofs.Ytfpghkgfodnjmaa.MFnExactConstOf
set_option linter.unusedVariables false
set_option linter.unusedSimpArgs false
theorem own : ownKnob Try.prog.godebug = none := by kernel_rfl
theorem laidOut : laidOutB Try.prog = true := by kernel_rfl
set_option maxRecDepth 100000 in
set_option maxHeartbeats 1000000 in
theorem lifted (os : Os) (started : os.Started) (H : Type) (enc : TypeId × Value → H) :
    ReturnsInHanded {} Try.checked os 12 .any (Rows.fnExactConstOfSpec.pre6 enc Try.prog Try.f12 Rows.fnExactConstOfRow.domain false) (Rows.fnExactConstOfSpec.post enc Try.prog Try.f12 false true false false) := by
  refine returnsInHanded_of_change_sized (C := Try.checked) own started (by kernel_rfl) Try.func12
    (ChangeSpec.witness6 (enc := enc) (C := Try.checked) false ⟨#[], #[.slice none 0 0, .int .i64 0], []⟩ 8 (by kernel_rfl) (by kernel_rfl) (by kernel_rfl) (by kernel_rfl)) ?_
  intro W base args ds gs before hval0 hW hcnd hsz0 _
  have hval : ∀ (j : Nat) t v, Try.f12.params[j]? = some t → args[j]? = some v → Value.okWide Try.prog W .any base t v := hval0
  have hW' := hW
  obtain ⟨p, q, hA0, hV, rfl, hfz, hnd⟩ := hW
  have hA : DataW.TrodAll enc Try.prog W 0 (fun _ => true) true Try.f12.params.toList args.toList ds p := hA0
  rw [Try.params12] at hA hval
  obtain ⟨v0, vs0, d0, ds0, p0, q0, hargs, rfl, rfl, h0, r0⟩ := trodAll_cons hA
  obtain ⟨v1, vs1, d1, ds1, p1, q1, rfl, rfl, rfl, h1, r1⟩ := trodAll_cons r0
  obtain ⟨rfl, rfl, rfl⟩ := trodAll_nil r1
  obtain rfl : args = #[v0, v1] := by cases args; simp_all
  obtain ⟨rfl, rfl⟩ := trodVars_none hV
  have k0 := h0
  have lt0 : ∀ x ∈ p0, x.block < W.heap.size := by obtain ⟨m, hm⟩ := k0; exact DataW.trod_lt m _ _ _ hm
  obtain ⟨fuel0, hf0⟩ := h0
  obtain ⟨a0, ha0, hg0⟩ := (opn_slice Try.underlying22 (by kernel_rfl) (opn_int Try.underlying5)) enc fuel0 _ _ hf0
  obtain ⟨ad0, len0, cap0, rfl⟩ := okWide_slice Try.underlying22 (hval 0 22 v0 rfl rfl)
  obtain ⟨A0, c0, hcs0, hlc0, hC0⟩ := ha0
  obtain ⟨rfl, rfl, rfl⟩ : ad0 = A0 ∧ len0 = a0.length ∧ cap0 = c0 := by simpa [Value.cells] using hcs0
  have k1 := h1
  have lt1 : ∀ x ∈ p1, x.block < W.heap.size := by obtain ⟨m, hm⟩ := k1; exact DataW.trod_lt m _ _ _ hm
  obtain ⟨fuel1, hf1⟩ := h1
  obtain ⟨a1, ha1, hg1⟩ := (opn_int Try.underlying3) enc fuel1 _ _ hf1
  obtain ⟨n1, rfl⟩ := okWide_int Try.underlying3 (hval 1 3 v1 rfl rfl)
  obtain rfl : a1 = n1 := by simpa [Value.cells, Kd.int, Kd.bool, Kd.string, Kd.scalar, eq_comm] using ha1
  obtain ⟨k, hk⟩ := Pure.FnExactConstOf a0 a1 hg0 hg1
  refine (MFnExactConstOf.laws_FnExactConstOf.calls k _ _ _ _ true W hC0 hlc0 hk).mono ?_
  rintro e W' ⟨rfl, bel⟩
  exact ⟨_, rfl, _, _, _, [], _, [], hW', trodAll_mk1 (shut_bool Try.underlying4 _), (trodAll_cons_mk (Below.trod laidOut (by kernel_rfl) (of_decide_eq_true (by kernel_rfl)) k0 bel lt0) (trodAll_cons_mk (Below.trod laidOut (by kernel_rfl) (of_decide_eq_true (by kernel_rfl)) k1 bel lt1) trodAll_mk0)), rfl, bel.frame _, fun h => by cases h⟩
theorem over : Rows.fnExactConstOfRow.holds Try.pinned (OpenSpec.ofChange Rows.fnExactConstOfSpec) :=
  OpenClaim.holds_of_wide 12 Try.f12 rfl rfl rfl rfl rfl rfl rfl ⟨rfl, rfl, rfl, rfl, rfl⟩ rfl rfl rfl rfl rfl (by kernel_rfl) Try.func12 (by kernel_rfl)
    (of_decide_eq_true (by kernel_rfl)) (by unfold Func.isWrapper; first | (rw [if_pos (by decide +kernel)]; kernel_rfl) | (rw [if_neg (by decide +kernel)]; exact ⟨rfl, rfl⟩))
    (fun os started H enc _ => lifted os started H enc)
end Go.Proofs.Ytfpghkgfodnjmaa.fnExactConstOf
namespace Go.Proofs.Ytfpghkgfodnjmaa
theorem fnExactConstOf_holds : Rows.FnExactConstOfSaid := fnExactConstOf.over
#print axioms fnExactConstOf_holds
end Go.Proofs.Ytfpghkgfodnjmaa
