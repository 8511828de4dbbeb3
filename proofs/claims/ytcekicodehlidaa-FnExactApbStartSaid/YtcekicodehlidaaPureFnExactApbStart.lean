/- The program's ApbStart answers as the reference's at every number; no condition. -/
import Derived.Test.YtcekicodehlidaaPFnExactApbStartx1
namespace Go.Proofs.Ytcekicodehlidaa.Pure
open Go.RowKit Go.Proofs.Ytcekicodehlidaa.PFnExactApbStart Go.Proofs.YtcekicodehlidaaW.PrintWords Go.Proofs.YtcekicodehlidaaW.PrintLast

/-- YOURS: ∀ (a0 : Int), (Lit.int .i64 a0).wf = true → laws_FnExactApbStart.f a0 = some true
What it reaches (each with k first where it has rounds; `.mono`: more rounds tell the same; `.l0`, ..: its loops, with `.mono_l`): spec_l1In.f, spec_ApbStart.f, impl_within.f, impl_ApbStart.f, laws_eqApb.f, laws_FnExactApbStart.f -/
theorem FnExactApbStart : laws_FnExactApbStart.Pure := by
  intro a0 _
  unfold laws_FnExactApbStart.f spec_ApbStart.f impl_ApbStart.f laws_eqApb.f spec_l1In.f impl_within.f
  by_cases h : 0 ≤ a0 <;> by_cases h2 : a0 ≤ 3 <;> simp [h, h2]

end Go.Proofs.Ytcekicodehlidaa.Pure
