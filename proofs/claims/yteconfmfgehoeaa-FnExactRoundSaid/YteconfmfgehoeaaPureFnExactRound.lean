/- The pure statement of FnExactRound: at every argument the law answers true. No condition. -/
import Derived.Test.YteconfmfgehoeaaPFnExactRoundx1
import Derived.Test.YteconfmfgehoeaaLib1
import Derived.Test.YteconfmfgehoeaaLib2
set_option linter.unusedVariables false
set_option linter.unusedSimpArgs false
namespace Go.Proofs.Yteconfmfgehoeaa.Pure
open Go.RowKit Go.Proofs.Yteconfmfgehoeaa.PFnExactRound Go.Proofs.YteconfmfgehoeaaW.PrintWords Go.Proofs.YteconfmfgehoeaaW.PrintLast Go.Proofs.YteconfmfgehoeaaW.PrintMore Go.Proofs.YteconfmfgehoeaaLib

/-! spec_Round -/
theorem spec_Round_eq (n : Int) : spec_Round.f n = some (round n) := by
  unfold spec_Round.f round
  have h := bits_and_mask n 32 (by decide)
  simp only [Int.reducePow, Int.reduceSub] at h
  rw [h]
  by_cases hc : n % 4294967296 > 2147483647
  · rw [if_pos hc, w64 (by omega) (by omega)]; congr 1; omega
  · rw [if_neg hc]; congr 1; omega

/-! impl_Round -/
theorem impl_Round_eq (n : Int) : impl_Round.f n = some (round n) := by
  unfold impl_Round.f
  rw [w64 (by rw [w32]; omega) (by rw [w32]; omega), w32]; rfl

theorem FnExactRound : laws_FnExactRound.Pure := by
  intro n _
  simp [laws_FnExactRound.f, spec_Round_eq, impl_Round_eq]

end Go.Proofs.Yteconfmfgehoeaa.Pure
