/- The pure statement of FnExactValOk: at every argument the law answers true. No condition. -/
import Derived.Test.YteconfmfgehoeaaPFnExactValOkx1
import Derived.Test.YteconfmfgehoeaaLib1
import Derived.Test.YteconfmfgehoeaaLib2
set_option linter.unusedVariables false
set_option linter.unusedSimpArgs false
namespace Go.Proofs.Yteconfmfgehoeaa.Pure
open Go.RowKit Go.Proofs.Yteconfmfgehoeaa.PFnExactValOk Go.Proofs.YteconfmfgehoeaaW.PrintWords Go.Proofs.YteconfmfgehoeaaW.PrintLast Go.Proofs.YteconfmfgehoeaaW.PrintMore Go.Proofs.YteconfmfgehoeaaLib


theorem FnExactValOk (b : Bool) (n : Int) (_ : True) (_ : (Lit.int .i64 n).wf = true) : laws_FnExactValOk.f b n = some true := by
  have h : spec_ValOk.f b n = impl_ValOk.f b n := by
    unfold spec_ValOk.f impl_ValOk.f impl_isWord.f spec_l1Word.f impl_within.f spec_l1In.f
    cases b <;> rfl
  obtain ⟨v, hv⟩ : ∃ v, impl_ValOk.f b n = some v := by
    unfold impl_ValOk.f impl_isWord.f impl_within.f
    repeat' split
    all_goals exact ⟨_, rfl⟩
  simp [laws_FnExactValOk.f, laws_toVal.f, h, hv]

end Go.Proofs.Yteconfmfgehoeaa.Pure
