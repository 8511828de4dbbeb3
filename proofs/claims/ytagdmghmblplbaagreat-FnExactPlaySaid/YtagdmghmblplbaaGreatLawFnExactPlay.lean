/- The law FnExactPlay: for every input the call returns true and each argument reads afterwards as it read before; no condition beyond the given row. -/
import Derived.Test.YtagdmghmblplbaaGreatA10
import Derived.Test.YtagdmghmblplbaaGreatRows
import Derived.Test.YtagdmghmblplbaaGreatHead
import Derived.WalkKit
import Derived.ProofKit
import Derived.OpenShut
import Derived.ShutString
import Derived.ChangeOld
import Derived.Below
import Derived.SizedLaws
import Derived.Carry
set_option linter.unusedSimpArgs false
set_option linter.unusedVariables false
set_option linter.unusedSectionVars false
namespace Go.Proofs.YtagdmghmblplbaaGreat.fnExactPlay
open Go.ChangeShapes Go.WideShapes Go.ChangeAt Go.RowKit Go.Proofs.YtagdmghmblplbaaGreat.Ev
open Go.ChangeMaps (open_string shut_string)
theorem own : ownKnob Tryz.prog.godebug = none := by kernel_rfl
theorem laidOut : laidOutB Tryz.prog = true := Head.laidOut
theorem trod_lt {H : Type} {enc : TypeId × Value -> H} {P : Program} {w : World} {t : TypeId} {v : Value} {x : DataW H} {p : List MemPlace} (h : DataW.Trod enc P w 0 (λ_ => true) true t v x p) : ∀ y ∈ p, y.block < w.heap.size := by
  obtain ⟨m, hm⟩ := h;exact DataW.trod_lt m _ _ _ hm
set_option maxRecDepth 100000 in
theorem opv161 {H : Type} {enc : TypeId × Value -> H} {w : World} : OpV enc Tryz.prog w 161 Zc.enc Zc.ok := by
  have h : OpV enc Tryz.prog w 161 (λy : Int × Bool × Int × Int => [.lit (.int .i64 y.1)] ++ ([.lit (.bool y.2.1)] ++ ([.lit (.int .i64 y.2.2.1)] ++ ([.lit (.int .i64 y.2.2.2)])))) _ := Zr4 (sz := 4) Tryz.underlying161 (by kernel_rfl) (Kc (sa := 1) (sb := 3) rfl (by kernel_rfl) (Zbu (k := .i64) Tryz.underlying3) (Kc (sa := 1) (sb := 2) rfl (by kernel_rfl) (Ydt Tryz.underlying4) (Kc (sa := 1) (sb := 1) rfl (by kernel_rfl) (Zbu (k := .i64) Tryz.underlying3) (Zyz (sz := 1) rfl (by kernel_rfl) (Zbu (k := .i64) Tryz.underlying3)))));exact Z3t h (λy => (⟨y.1, y.2.1, y.2.2.1, y.2.2.2⟩ : Zc)) (λ_ _ => rfl) (λ_ h => h)
set_option maxRecDepth 100000 in
theorem opv24 {H : Type} {enc : TypeId × Value -> H} {w : World} : OpV enc Tryz.prog w 24 Zh.enc Zh.ok := by
  have h : OpV enc Tryz.prog w 24 (λy : List Zc × Int × Int × Int × Int × Int => [.tr (y.1.map Zc.enc)] ++ ([.lit (.int .i64 y.2.1)] ++ ([.lit (.int .i64 y.2.2.1)] ++ ([.lit (.int .i64 y.2.2.2.1)] ++ ([.lit (.int .i64 y.2.2.2.2.1)] ++ ([.lit (.int .i64 y.2.2.2.2.2)])))))) _ := Zr4 (sz := 6) Tryz.underlying24 (by kernel_rfl) (Kc (sa := 1) (sb := 5) rfl (by kernel_rfl) (Zwb Tryz.underlying22 (λ_ => rfl) (by decide) opv161) (Kc (sa := 1) (sb := 4) rfl (by kernel_rfl) (Zbu (k := .i64) Tryz.underlying3) (Kc (sa := 1) (sb := 3) rfl (by kernel_rfl) (Zbu (k := .i64) Tryz.underlying3) (Kc (sa := 1) (sb := 2) rfl (by kernel_rfl) (Zbu (k := .i64) Tryz.underlying3) (Kc (sa := 1) (sb := 1) rfl (by kernel_rfl) (Zbu (k := .i64) Tryz.underlying3) (Zyz (sz := 1) rfl (by kernel_rfl) (Zbu (k := .i64) Tryz.underlying3)))))));exact Z3t h (λy => (⟨y.1, y.2.1, y.2.2.1, y.2.2.2.1, y.2.2.2.2.1, y.2.2.2.2.2⟩ : Zh)) (λ_ _ => rfl) (λ_ h => h)
set_option maxRecDepth 100000 in
theorem opv101 {H : Type} {enc : TypeId × Value -> H} {w : World} : OpV enc Tryz.prog w 101 Zi.enc Zi.ok := by
  have h : OpV enc Tryz.prog w 101 (λy : Bool × Int × Int × Int × Bool × List Int => [.lit (.bool y.1)] ++ ([.lit (.int .i64 y.2.1)] ++ ([.lit (.int .i64 y.2.2.1)] ++ ([.lit (.int .i64 y.2.2.2.1)] ++ ([.lit (.bool y.2.2.2.2.1)] ++ ([.tr (y.2.2.2.2.2.map Zd)])))))) _ := Zr4 (sz := 6) Tryz.underlying101 (by kernel_rfl) (Kc (sa := 1) (sb := 5) rfl (by kernel_rfl) (Ydt Tryz.underlying4) (Kc (sa := 1) (sb := 4) rfl (by kernel_rfl) (Zbu (k := .i64) Tryz.underlying3) (Kc (sa := 1) (sb := 3) rfl (by kernel_rfl) (Zbu (k := .i64) Tryz.underlying3) (Kc (sa := 1) (sb := 2) rfl (by kernel_rfl) (Zbu (k := .i64) Tryz.underlying3) (Kc (sa := 1) (sb := 1) rfl (by kernel_rfl) (Ydt Tryz.underlying4) (Zyz (sz := 1) rfl (by kernel_rfl) (Zwb Tryz.underlying45 (λ_ => rfl) (by decide) (Zbu (k := .i64) Tryz.underlying3))))))));exact Z3t h (λy => (⟨y.1, y.2.1, y.2.2.1, y.2.2.2.1, y.2.2.2.2.1, y.2.2.2.2.2⟩ : Zi)) (λ_ _ => rfl) (λ_ h => h)
set_option maxRecDepth 100000 in
theorem opv169 {H : Type} {enc : TypeId × Value -> H} {w : World} : OpV enc Tryz.prog w 169 Zl.enc Zl.ok := by
  have h : OpV enc Tryz.prog w 169 (λy : Int × Int × Zi => [.lit (.int .i64 y.1)] ++ ([.lit (.int .i64 y.2.1)] ++ (Zi.enc (y.2.2)))) _ := Zr4 (sz := 8) Tryz.underlying169 (by kernel_rfl) (Kc (sa := 1) (sb := 7) rfl (by kernel_rfl) (Zbu (k := .i64) Tryz.underlying3) (Kc (sa := 1) (sb := 6) rfl (by kernel_rfl) (Zbu (k := .i64) Tryz.underlying3) (Zyz (sz := 6) rfl (by kernel_rfl) opv101)));exact Z3t h (λy => (⟨y.1, y.2.1, y.2.2⟩ : Zl)) (λ_ _ => rfl) (λ_ h => h)
set_option maxRecDepth 100000 in
theorem opv47 {H : Type} {enc : TypeId × Value -> H} {w : World} : OpV enc Tryz.prog w 47 Ze.enc Ze.ok := by
  have h : OpV enc Tryz.prog w 47 (λy : List Zl × List Int × List Int => [.tr (y.1.map Zl.enc)] ++ ([.tr (y.2.1.map Zd)] ++ ([.tr (y.2.2.map Zd)]))) _ := Zr4 (sz := 3) Tryz.underlying47 (by kernel_rfl) (Kc (sa := 1) (sb := 2) rfl (by kernel_rfl) (Zwb Tryz.underlying44 (λ_ => rfl) (by decide) opv169) (Kc (sa := 1) (sb := 1) rfl (by kernel_rfl) (Zwb Tryz.underlying45 (λ_ => rfl) (by decide) (Zbu (k := .i64) Tryz.underlying3)) (Zyz (sz := 1) rfl (by kernel_rfl) (Zwb Tryz.underlying45 (λ_ => rfl) (by decide) (Zbu (k := .i64) Tryz.underlying3)))));exact Z3t h (λy => (⟨y.1, y.2.1, y.2.2⟩ : Ze)) (λ_ _ => rfl) (λ_ h => h)
set_option maxRecDepth 100000 in
theorem lifted (os : Os) (started : os.Started) (H : Type) (enc : TypeId × Value -> H) :
    ReturnsInHanded {} Tryz.checked os 4 .any (Rows.fnExactPlaySpec.pre6 enc Tryz.prog Tryz.f4 Rows.fnExactPlayRow.domain false) (Rows.fnExactPlaySpec.post enc Tryz.prog Tryz.f4 false true false false) := by
  refine returnsInHanded_of_change_sized (C := Tryz.checked) own started (by kernel_rfl) Tryz.func4
    (ChangeSpec.witness6 (enc := enc) (C := Tryz.checked) false ⟨#[], #[.agg #[.slice none 0 0, .int .i64 0, .int .i64 0, .int .i64 0, .int .i64 0, .int .i64 0], .agg #[.slice none 0 0, .slice none 0 0, .slice none 0 0], .int .i64 0], []⟩ 8 (by kernel_rfl) (by kernel_rfl) (by kernel_rfl) (by kernel_rfl)) ?_
  intro W base args ds gs before Y4p hW hcnd hsz0 _;have Yzd : ∀ (j : Nat) t v, Tryz.f4.params[j]? = some t -> args[j]? = some v -> Value.okWide Tryz.prog W .any base t v := Y4p;have hW' := hW;obtain ⟨p, q, hA0, hV, rfl, hfz, hnd⟩ := hW;have hA : DataW.TrodAll enc Tryz.prog W 0 (λ_ => true) true Tryz.f4.params.toList args.toList ds p := hA0;rw [Tryz.params4] at hA Yzd;obtain ⟨v0, vs0, d0, ds0, p0, q0, Z2s, rfl, rfl, h0, r0⟩ := trodAll_cons hA;obtain ⟨v1, vs1, d1, ds1, p1, q1, rfl, rfl, rfl, h1, r1⟩ := trodAll_cons r0;obtain ⟨v2, vs2, d2, ds2, p2, q2, rfl, rfl, rfl, h2, r2⟩ := trodAll_cons r1;obtain ⟨rfl, rfl, rfl⟩ := trodAll_nil r2;obtain rfl : args = #[v0, v1, v2] := by cases args; simp_all
  obtain ⟨rfl, rfl⟩ := trodVars_none hV;have k0 := h0;have lt0 := trod_lt k0;obtain ⟨a0, w0, hE0⟩ := Ybn Tryz.underlying24 opv24 (Yzd 0 24 v0 rfl rfl) h0;have k1 := h1;have lt1 := trod_lt k1;obtain ⟨a1, w1, hE1⟩ := Ybn Tryz.underlying47 opv47 (Yzd 1 47 v1 rfl rfl) h1;obtain ⟨a2, rfl, rfl, rfl, w2⟩ := open_int Tryz.underlying3 (Yzd 2 3 v2 rfl rfl) h2;clear hA0 Y4p hsz0
  letI : Anchor := ⟨W⟩
  have hc := (Yhc (Ybg a0 a1 a2 w0 w1 w2)).2;refine (Y18 (us := [v0, v1, .int .i64 a2]) rfl (by kernel_rfl) hc rfl (Y5i (Ydm hE0 (Ydm hE1 (Ydm (λρ => .lit rfl) Y6n))))).mono λe W' ⟨he, bel⟩ => ?_;subst he;exact ⟨_, rfl, _, _, _, [], _, [], hW', trodAll_mk1 (shut_bool Tryz.underlying4 _), (trodAll_cons_mk (Below.trod laidOut (by kernel_rfl) (of_decide_eq_true (by kernel_rfl)) k0 bel lt0) (trodAll_cons_mk (Below.trod laidOut (by kernel_rfl) (of_decide_eq_true (by kernel_rfl)) k1 bel lt1) (trodAll_cons_mk (shut_int Tryz.underlying3 w2) trodAll_mk0))), rfl, bel.frame _,λh => by cases h⟩
theorem uf : Tryz.prog.unfollowed 4 = true := by kernel_rfl
theorem re : Tryz.prog.recurses 4 = true := by
  unfold Program.recurses;rw [uf];rfl
theorem ip : (Rows.fnExactPlayRow.inPlace == Tryz.prog.inPlace 4) = true := by kernel_rfl
theorem nm : (Rows.fnExactPlayRow.named == Tryz.prog.varsNamed 4) = true := by kernel_rfl
theorem facts : joinedFacts Tryz.prog 4 Tryz.f4 Rows.fnExactPlaySpec Rows.fnExactPlayRow = true := by
  unfold joinedFacts
  rewrite [ip, nm, uf, re, Head.enter, Head.made, Head.lifts, Head.laidOut, Head.maps, Head.heard]
  kernel_rfl
theorem over : Rows.fnExactPlayRow.holds Tryz.pinned (OpenSpec.ofChange Rows.fnExactPlaySpec) :=
  OpenClaim.holds_of_wide 4 Tryz.f4 rfl rfl rfl rfl rfl rfl rfl ⟨rfl, rfl, rfl, rfl, rfl⟩ rfl rfl rfl rfl rfl (by kernel_rfl) Tryz.func4 facts
    (of_decide_eq_true (by kernel_rfl)) (by unfold Func.isWrapper; first | (rw [if_pos (by decide +kernel)]; kernel_rfl) | (rw [if_neg (by decide +kernel)]; exact ⟨rfl, rfl⟩))
    (λos started H enc _ => lifted os started H enc)
theorem proved : Rows.FnExactPlaySaid := over
#print axioms proved
end Go.Proofs.YtagdmghmblplbaaGreat.fnExactPlay
namespace Go.Proofs.YtagdmghmblplbaaGreat
/-- The row, under a short name, for the claim. -/
theorem fnExactPlay_holds : Rows.FnExactPlaySaid := fnExactPlay.proved
end Go.Proofs.YtagdmghmblplbaaGreat
