/- StepsOk of the program and of the reference answer alike, for all numbers. -/
import Derived.Test.YtngplifolfnnnaaPFnExactStepsOkx1
namespace Go.Proofs.Ytngplifolfnnnaa.Pure
open Go.RowKit Go.Proofs.Ytngplifolfnnnaa.PFnExactStepsOk Go.Proofs.YtngplifolfnnnaaW.PrintWords Go.Proofs.YtngplifolfnnnaaW.PrintLast Go.Proofs.YtngplifolfnnnaaW.PrintMore
set_option linter.unusedVariables false
set_option linter.unusedSimpArgs false

theorem FnExactStepsOk : laws_FnExactStepsOk.Pure := by
  intro a b c _ _ _
  have e : impl_StepsOk.f a b c = spec_StepsOk.f a b c := rfl
  have t : ∃ r, spec_StepsOk.f a b c = some r := by
    unfold spec_StepsOk.f spec_l01In.f
    repeat' first
      | exact ⟨_, rfl⟩
      | (simp only [Option.bind_some])
      | split
  obtain ⟨r, hr⟩ := t
  unfold laws_FnExactStepsOk.f
  rw [e, hr]
  simp

end Go.Proofs.Ytngplifolfnnnaa.Pure
