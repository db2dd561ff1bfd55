/- The pure statement of FnExactHas: at every argument the law answers true. No condition. -/
import Derived.Test.YteconfmfgehoeaaPFnExactHasx1
import Derived.Test.YteconfmfgehoeaaLib1
import Derived.Test.YteconfmfgehoeaaLib2
set_option linter.unusedVariables false
set_option linter.unusedSimpArgs false
namespace Go.Proofs.Yteconfmfgehoeaa.Pure
open Go.RowKit Go.Proofs.Yteconfmfgehoeaa.PFnExactHas Go.Proofs.YteconfmfgehoeaaW.PrintWords Go.Proofs.YteconfmfgehoeaaW.PrintLast Go.Proofs.YteconfmfgehoeaaW.PrintMore Go.Proofs.YteconfmfgehoeaaLib


theorem FnExactHas : laws_FnExactHas.Pure := by
  intro n _
  have h : spec_Has.f n = impl_Has.f n := by
    unfold spec_Has.f impl_Has.f impl_usesPool.f
    repeat' split
    all_goals first | rfl | (simp only [Option.bind_some, Option.some.injEq]; simp; omega) | omega
  obtain ⟨b, hb⟩ : ∃ b, impl_Has.f n = some b := by
    unfold impl_Has.f impl_usesPool.f
    repeat' split
    all_goals exact ⟨_, rfl⟩
  simp [laws_FnExactHas.f, h, hb]

end Go.Proofs.Yteconfmfgehoeaa.Pure
