/- The program's ExampleTexts returns, for every integer, the three texts that the reference's ExampleTexts returns; no condition. -/
import Derived.Test.YtioopdicoidmcaaPFnExactExampleTextsx1
namespace Go.Proofs.Ytioopdicoidmcaa.Pure
open Go.RowKit Go.Proofs.Ytioopdicoidmcaa.PFnExactExampleTexts Go.Proofs.YtioopdicoidmcaaW.PrintWords Go.Proofs.YtioopdicoidmcaaW.PrintLast

/-- YOURS: ∀ (a0 : Int), (Lit.int .i64 a0).wf = true → laws_FnExactExampleTexts.f a0 = some true
What it reaches (each with k first where it has rounds; `.mono`: more rounds tell the same; `.l0`, ..: its loops, with `.mono_l`): spec_ExampleTexts.f, impl_ExampleTexts.f, laws_FnExactExampleTexts.f -/
theorem FnExactExampleTexts : laws_FnExactExampleTexts.Pure := by
  intro a0 _
  unfold laws_FnExactExampleTexts.f spec_ExampleTexts.f impl_ExampleTexts.f
  by_cases h1 : a0 = 1
  · simp [h1]
  · by_cases h2 : a0 = 2
    · simp [h2]
    · by_cases h3 : a0 = 3
      · simp [h3]
      · by_cases h4 : a0 = 4
        · simp [h4]
        · by_cases h5 : a0 = 5
          · simp [h5]
          · by_cases h6 : a0 = 6
            · simp [h6]
            · simp [h1, h2, h3, h4, h5, h6]

end Go.Proofs.Ytioopdicoidmcaa.Pure
