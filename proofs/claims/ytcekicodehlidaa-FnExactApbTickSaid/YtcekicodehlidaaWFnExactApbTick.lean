/- The program's ApbTick answers as the reference's at every state; no condition. -/
import Derived.Test.YtcekicodehlidaaPFnExactApbTickx1
namespace Go.Proofs.Ytcekicodehlidaa.WFnExactApbTick
open Go.RowKit Go.Proofs.Ytcekicodehlidaa.PFnExactApbTick Go.Proofs.YtcekicodehlidaaW.PrintWords Go.Proofs.YtcekicodehlidaaW.PrintLast Go.Proofs.YtcekicodehlidaaW.PrintMore
def kA : Kd (Int × Int) := Kd.pair (Kd.int .i64) (Kd.int .i64)
theorem pure (a b : Int) : ∃ k, laws_FnExactApbTick.f k a b = some true := by
  refine ⟨5, ?_⟩
  unfold laws_FnExactApbTick.f laws_toApb.f spec_ApbTick.f impl_ApbTick.f spec_ApbOk.f impl_ApbOk.f spec_l1In.f impl_within.f laws_eqApb.f spec_ApbTick.j0 impl_ApbTick.j0
  by_cases h0 : a = 0 <;> by_cases h1 : a = 1 <;> by_cases h2 : a = 2 <;> by_cases h3 : 0 ≤ b <;> by_cases h4 : b ≤ 3 <;> by_cases h5 : 0 < b <;> first | (exfalso; omega) | simp [h0, h1, h2, h3, h4, h5] | (by_cases h6 : b = 0 <;> simp [h0, h1, h2, h3, h4, h5, h6])

set_option linter.unusedVariables false in
theorem walk (W : World) (x : Int × Int) (cs : List Value) (hK : kA.K W x cs) (hQ : (Lit.int .i64 x.1).wf = true ∧ (Lit.int .i64 x.2).wf = true) :
    Calls Try.prog 5 #[.agg cs.toArray] W fun e w' => e = .returned (.bool true) ∧ Below W.heap.size W w' := by
  obtain ⟨c0, c1, rfl, rfl, rfl⟩ := hK
  obtain ⟨k, h⟩ := pure x.1 x.2
  refine (laws_FnExactApbTick.calls k x.1 x.2 true W h).mono ?_
  rintro e w' ⟨rfl, hb⟩
  exact ⟨rfl, hb⟩
end Go.Proofs.Ytcekicodehlidaa.WFnExactApbTick
