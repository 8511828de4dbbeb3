/- The law FnExactSolo: for every input the call returns true and each argument reads afterwards as it read before; no condition beyond the given row. -/
import Derived.Test.YtagdmghmblplbaaGreatA10
import Derived.Test.YtagdmghmblplbaaGreatRows
import Derived.Test.YtagdmghmblplbaaGreatHead
import Derived.WalkKit
import Derived.ProofKit
import Derived.OpenShut
import Derived.ShutString
import Derived.ChangeOld
import Derived.Below
import Derived.SizedLaws
import Derived.Carry
set_option linter.unusedSimpArgs false
set_option linter.unusedVariables false
set_option linter.unusedSectionVars false
namespace Go.Proofs.YtagdmghmblplbaaGreat.fnExactSolo
open Go.ChangeShapes Go.WideShapes Go.ChangeAt Go.RowKit Go.Proofs.YtagdmghmblplbaaGreat.Ev
open Go.ChangeMaps (open_string shut_string)
theorem own : ownKnob Tryz.prog.godebug = none := by kernel_rfl
theorem laidOut : laidOutB Tryz.prog = true := Head.laidOut
theorem trod_lt {H : Type} {enc : TypeId × Value -> H} {P : Program} {w : World} {t : TypeId} {v : Value} {x : DataW H} {p : List MemPlace} (h : DataW.Trod enc P w 0 (λ_ => true) true t v x p) : ∀ y ∈ p, y.block < w.heap.size := by
  obtain ⟨m, hm⟩ := h;exact DataW.trod_lt m _ _ _ hm
set_option maxRecDepth 100000 in
theorem opv161 {H : Type} {enc : TypeId × Value -> H} {w : World} : OpV enc Tryz.prog w 161 Zc.enc Zc.ok := by
  have h : OpV enc Tryz.prog w 161 (λy : Int × Bool × Int × Int => [.lit (.int .i64 y.1)] ++ ([.lit (.bool y.2.1)] ++ ([.lit (.int .i64 y.2.2.1)] ++ ([.lit (.int .i64 y.2.2.2)])))) _ := Z4z (sz := 4) Tryz.underlying161 (by kernel_rfl) (Zao (sa := 1) (sb := 3) rfl (by kernel_rfl) (Zfe (k := .i64) Tryz.underlying3) (Zao (sa := 1) (sb := 2) rfl (by kernel_rfl) (Ybr Tryz.underlying4) (Zao (sa := 1) (sb := 1) rfl (by kernel_rfl) (Zfe (k := .i64) Tryz.underlying3) (Yb1 (sz := 1) rfl (by kernel_rfl) (Zfe (k := .i64) Tryz.underlying3)))));exact Ygk h (λy => (⟨y.1, y.2.1, y.2.2.1, y.2.2.2⟩ : Zc)) (λ_ _ => rfl) (λ_ h => h)
set_option maxRecDepth 100000 in
theorem opv24 {H : Type} {enc : TypeId × Value -> H} {w : World} : OpV enc Tryz.prog w 24 Zh.enc Zh.ok := by
  have h : OpV enc Tryz.prog w 24 (λy : List Zc × Int × Int × Int × Int × Int => [.tr (y.1.map Zc.enc)] ++ ([.lit (.int .i64 y.2.1)] ++ ([.lit (.int .i64 y.2.2.1)] ++ ([.lit (.int .i64 y.2.2.2.1)] ++ ([.lit (.int .i64 y.2.2.2.2.1)] ++ ([.lit (.int .i64 y.2.2.2.2.2)])))))) _ := Z4z (sz := 6) Tryz.underlying24 (by kernel_rfl) (Zao (sa := 1) (sb := 5) rfl (by kernel_rfl) (Z6x Tryz.underlying22 (λ_ => rfl) (by decide) opv161) (Zao (sa := 1) (sb := 4) rfl (by kernel_rfl) (Zfe (k := .i64) Tryz.underlying3) (Zao (sa := 1) (sb := 3) rfl (by kernel_rfl) (Zfe (k := .i64) Tryz.underlying3) (Zao (sa := 1) (sb := 2) rfl (by kernel_rfl) (Zfe (k := .i64) Tryz.underlying3) (Zao (sa := 1) (sb := 1) rfl (by kernel_rfl) (Zfe (k := .i64) Tryz.underlying3) (Yb1 (sz := 1) rfl (by kernel_rfl) (Zfe (k := .i64) Tryz.underlying3)))))));exact Ygk h (λy => (⟨y.1, y.2.1, y.2.2.1, y.2.2.2.1, y.2.2.2.2.1, y.2.2.2.2.2⟩ : Zh)) (λ_ _ => rfl) (λ_ h => h)
set_option maxRecDepth 100000 in
theorem opv101 {H : Type} {enc : TypeId × Value -> H} {w : World} : OpV enc Tryz.prog w 101 Zb.enc Zb.ok := by
  have h : OpV enc Tryz.prog w 101 (λy : Bool × Int × Int × Int × Bool × List Int => [.lit (.bool y.1)] ++ ([.lit (.int .i64 y.2.1)] ++ ([.lit (.int .i64 y.2.2.1)] ++ ([.lit (.int .i64 y.2.2.2.1)] ++ ([.lit (.bool y.2.2.2.2.1)] ++ ([.tr (y.2.2.2.2.2.map Ze)])))))) _ := Z4z (sz := 6) Tryz.underlying101 (by kernel_rfl) (Zao (sa := 1) (sb := 5) rfl (by kernel_rfl) (Ybr Tryz.underlying4) (Zao (sa := 1) (sb := 4) rfl (by kernel_rfl) (Zfe (k := .i64) Tryz.underlying3) (Zao (sa := 1) (sb := 3) rfl (by kernel_rfl) (Zfe (k := .i64) Tryz.underlying3) (Zao (sa := 1) (sb := 2) rfl (by kernel_rfl) (Zfe (k := .i64) Tryz.underlying3) (Zao (sa := 1) (sb := 1) rfl (by kernel_rfl) (Ybr Tryz.underlying4) (Yb1 (sz := 1) rfl (by kernel_rfl) (Z6x Tryz.underlying45 (λ_ => rfl) (by decide) (Zfe (k := .i64) Tryz.underlying3))))))));exact Ygk h (λy => (⟨y.1, y.2.1, y.2.2.1, y.2.2.2.1, y.2.2.2.2.1, y.2.2.2.2.2⟩ : Zb)) (λ_ _ => rfl) (λ_ h => h)
set_option maxRecDepth 100000 in
theorem lifted (os : Os) (started : os.Started) (H : Type) (enc : TypeId × Value -> H) :
    ReturnsInHanded {} Tryz.checked os 3 .any (Rows.fnExactSoloSpec.pre6 enc Tryz.prog Tryz.f3 Rows.fnExactSoloRow.domain false) (Rows.fnExactSoloSpec.post enc Tryz.prog Tryz.f3 false true false false) := by
  refine returnsInHanded_of_change_sized (C := Tryz.checked) own started (by kernel_rfl) Tryz.func3
    (ChangeSpec.witness6 (enc := enc) (C := Tryz.checked) false ⟨#[], #[.agg #[.slice none 0 0, .int .i64 0, .int .i64 0, .int .i64 0, .int .i64 0, .int .i64 0], .slice none 0 0], []⟩ 8 (by kernel_rfl) (by kernel_rfl) (by kernel_rfl) (by kernel_rfl)) ?_
  intro W base args ds gs before Y1i hW hcnd hsz0 _;have Y04 : ∀ (j : Nat) t v, Tryz.f3.params[j]? = some t -> args[j]? = some v -> Value.okWide Tryz.prog W .any base t v := Y1i;have hW' := hW;obtain ⟨p, q, hA0, hV, rfl, hfz, hnd⟩ := hW;have hA : DataW.TrodAll enc Tryz.prog W 0 (λ_ => true) true Tryz.f3.params.toList args.toList ds p := hA0;rw [Tryz.params3] at hA Y04;obtain ⟨v0, vs0, d0, ds0, p0, q0, Z1b, rfl, rfl, h0, r0⟩ := trodAll_cons hA;obtain ⟨v1, vs1, d1, ds1, p1, q1, rfl, rfl, rfl, h1, r1⟩ := trodAll_cons r0;obtain ⟨rfl, rfl, rfl⟩ := trodAll_nil r1;obtain rfl : args = #[v0, v1] := by cases args; simp_all
  obtain ⟨rfl, rfl⟩ := trodVars_none hV;have k0 := h0;have lt0 := trod_lt k0;obtain ⟨a0, w0, hE0⟩ := Yp7 Tryz.underlying24 opv24 (Y04 0 24 v0 rfl rfl) h0;have k1 := h1;have lt1 := trod_lt k1;obtain ⟨a1, w1, hE1⟩ := Yvc Tryz.underlying25 (Z6x Tryz.underlying25 (λ_ => rfl) (by decide) opv101) (Y04 1 25 v1 rfl rfl) h1;clear hA0 Y1i hsz0
  letI : Anchor := ⟨W⟩
  have hc := (Yfa (Z9h a0 a1 w0 w1)).2;refine (Y0f (us := [v0, v1]) rfl (by kernel_rfl) hc rfl (Y3d (Yl6 hE0 (Yl6 hE1 Y1r)))).mono λe W' ⟨he, bel⟩ => ?_;subst he;exact ⟨_, rfl, _, _, _, [], _, [], hW', trodAll_mk1 (shut_bool Tryz.underlying4 _), (trodAll_cons_mk (Below.trod laidOut (by kernel_rfl) (of_decide_eq_true (by kernel_rfl)) k0 bel lt0) (trodAll_cons_mk (Below.trod laidOut (by kernel_rfl) (of_decide_eq_true (by kernel_rfl)) k1 bel lt1) trodAll_mk0)), rfl, bel.frame _,λh => by cases h⟩
theorem uf : Tryz.prog.unfollowed 3 = true := by kernel_rfl
theorem re : Tryz.prog.recurses 3 = true := by
  unfold Program.recurses;rw [uf];rfl
theorem ip : (Rows.fnExactSoloRow.inPlace == Tryz.prog.inPlace 3) = true := by kernel_rfl
theorem nm : (Rows.fnExactSoloRow.named == Tryz.prog.varsNamed 3) = true := by kernel_rfl
theorem facts : joinedFacts Tryz.prog 3 Tryz.f3 Rows.fnExactSoloSpec Rows.fnExactSoloRow = true := by
  unfold joinedFacts
  rewrite [ip, nm, uf, re, Head.enter, Head.made, Head.lifts, Head.laidOut, Head.maps, Head.heard]
  kernel_rfl
theorem over : Rows.fnExactSoloRow.holds Tryz.pinned (OpenSpec.ofChange Rows.fnExactSoloSpec) :=
  OpenClaim.holds_of_wide 3 Tryz.f3 rfl rfl rfl rfl rfl rfl rfl ⟨rfl, rfl, rfl, rfl, rfl⟩ rfl rfl rfl rfl rfl (by kernel_rfl) Tryz.func3 facts
    (of_decide_eq_true (by kernel_rfl)) (by unfold Func.isWrapper; first | (rw [if_pos (by decide +kernel)]; kernel_rfl) | (rw [if_neg (by decide +kernel)]; exact ⟨rfl, rfl⟩))
    (λos started H enc _ => lifted os started H enc)
theorem proved : Rows.FnExactSoloSaid := over
#print axioms proved
end Go.Proofs.YtagdmghmblplbaaGreat.fnExactSolo
namespace Go.Proofs.YtagdmghmblplbaaGreat
/-- The row, under a short name, for the claim. -/
theorem fnExactSolo_holds : Rows.FnExactSoloSaid := fnExactSolo.proved
end Go.Proofs.YtagdmghmblplbaaGreat
