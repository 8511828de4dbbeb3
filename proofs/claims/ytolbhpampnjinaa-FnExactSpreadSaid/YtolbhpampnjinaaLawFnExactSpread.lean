/- The law FnExactSpread: for every input the call returns true and each argument reads afterwards as it read before; no condition beyond the given row. -/
import Derived.Test.YtolbhpampnjinaaRows
import Derived.Test.YtolbhpampnjinaaQFnExactSpread
import Derived.Test.YtolbhpampnjinaaVR
import Derived.WalkKit
import Derived.ProofKit
import Derived.OpenShut
import Derived.ShutString
import Derived.ChangeOld
import Derived.Below
import Derived.SizedLaws
import Derived.Carry
namespace Go.Proofs.Ytolbhpampnjinaa.fnExactSpread
open Go.ChangeShapes Go.WideShapes Go.ChangeAt Go.RowKit Go.Proofs.Ytolbhpampnjinaa.Ev
open Go.ChangeMaps (open_string shut_string)
set_option linter.unusedVariables false
theorem own : ownKnob Try.prog.godebug = none := by kernel_rfl
theorem laidOut : laidOutB Try.prog = true := by kernel_rfl
theorem trod_lt {H : Type} {enc : TypeId × Value → H} {P : Program} {w : World} {t : TypeId} {v : Value} {x : DataW H} {p : List MemPlace} (h : DataW.Trod enc P w 0 (fun _ => true) true t v x p) : ∀ y ∈ p, y.block < w.heap.size := by
  obtain ⟨m, hm⟩ := h
  exact DataW.trod_lt m _ _ _ hm
set_option maxRecDepth 100000 in
theorem opv135 {H : Type} {enc : TypeId × Value → H} {w : World} : OpV enc Try.prog w 135 GMConf.enc GMConf.ok := by
  have h : OpV enc Try.prog w 135 (fun y : Int × Bool × Int × Int => [.lit (.int .i64 y.1)] ++ ([.lit (.bool y.2.1)] ++ ([.lit (.int .i64 y.2.2.1)] ++ ([.lit (.int .i64 y.2.2.2)])))) _ := opv_struct (sz := 4) Try.underlying135 (by kernel_rfl) (opvf_cons (sa := 1) (sb := 3) rfl (by kernel_rfl) (opv_int (k := .i64) Try.underlying3) (opvf_cons (sa := 1) (sb := 2) rfl (by kernel_rfl) (opv_bool Try.underlying4) (opvf_cons (sa := 1) (sb := 1) rfl (by kernel_rfl) (opv_int (k := .i64) Try.underlying3) (opvf_one (sz := 1) rfl (by kernel_rfl) (opv_int (k := .i64) Try.underlying3)))))
  exact opv_imp h (fun y => (⟨y.1, y.2.1, y.2.2.1, y.2.2.2⟩ : GMConf)) (fun _ _ => rfl) (fun _ h => h)
set_option maxRecDepth 100000 in
theorem opv67 {H : Type} {enc : TypeId × Value → H} {w : World} : OpV enc Try.prog w 67 GConf.enc GConf.ok := by
  have h : OpV enc Try.prog w 67 (fun y : List GMConf × Int × Int × Int × Int × Int => [.tr (y.1.map GMConf.enc)] ++ ([.lit (.int .i64 y.2.1)] ++ ([.lit (.int .i64 y.2.2.1)] ++ ([.lit (.int .i64 y.2.2.2.1)] ++ ([.lit (.int .i64 y.2.2.2.2.1)] ++ ([.lit (.int .i64 y.2.2.2.2.2)])))))) _ := opv_struct (sz := 6) Try.underlying67 (by kernel_rfl) (opvf_cons (sa := 1) (sb := 5) rfl (by kernel_rfl) (opv_slice Try.underlying65 (fun _ => rfl) (by decide) opv135) (opvf_cons (sa := 1) (sb := 4) rfl (by kernel_rfl) (opv_int (k := .i64) Try.underlying3) (opvf_cons (sa := 1) (sb := 3) rfl (by kernel_rfl) (opv_int (k := .i64) Try.underlying3) (opvf_cons (sa := 1) (sb := 2) rfl (by kernel_rfl) (opv_int (k := .i64) Try.underlying3) (opvf_cons (sa := 1) (sb := 1) rfl (by kernel_rfl) (opv_int (k := .i64) Try.underlying3) (opvf_one (sz := 1) rfl (by kernel_rfl) (opv_int (k := .i64) Try.underlying3)))))))
  exact opv_imp h (fun y => (⟨y.1, y.2.1, y.2.2.1, y.2.2.2.1, y.2.2.2.2.1, y.2.2.2.2.2⟩ : GConf)) (fun _ _ => rfl) (fun _ h => h)
set_option maxRecDepth 100000 in
theorem opv102 {H : Type} {enc : TypeId × Value → H} {w : World} : OpV enc Try.prog w 102 GDone.enc GDone.ok := by
  have h : OpV enc Try.prog w 102 (fun y : Int × Int × Bool × Int × Int × Int × Int => [.lit (.int .i64 y.1)] ++ ([.lit (.int .i64 y.2.1)] ++ ([.lit (.bool y.2.2.1)] ++ ([.lit (.int .i64 y.2.2.2.1)] ++ ([.lit (.int .i64 y.2.2.2.2.1)] ++ ([.lit (.int .i64 y.2.2.2.2.2.1)] ++ ([.lit (.int .i64 y.2.2.2.2.2.2)]))))))) _ := opv_struct (sz := 7) Try.underlying102 (by kernel_rfl) (opvf_cons (sa := 1) (sb := 6) rfl (by kernel_rfl) (opv_int (k := .i64) Try.underlying3) (opvf_cons (sa := 1) (sb := 5) rfl (by kernel_rfl) (opv_int (k := .i64) Try.underlying3) (opvf_cons (sa := 1) (sb := 4) rfl (by kernel_rfl) (opv_bool Try.underlying4) (opvf_cons (sa := 1) (sb := 3) rfl (by kernel_rfl) (opv_int (k := .i64) Try.underlying3) (opvf_cons (sa := 1) (sb := 2) rfl (by kernel_rfl) (opv_int (k := .i64) Try.underlying3) (opvf_cons (sa := 1) (sb := 1) rfl (by kernel_rfl) (opv_int (k := .i64) Try.underlying3) (opvf_one (sz := 1) rfl (by kernel_rfl) (opv_int (k := .i64) Try.underlying3))))))))
  exact opv_imp h (fun y => (⟨y.1, y.2.1, y.2.2.1, y.2.2.2.1, y.2.2.2.2.1, y.2.2.2.2.2.1, y.2.2.2.2.2.2⟩ : GDone)) (fun _ _ => rfl) (fun _ h => h)
set_option maxRecDepth 100000 in
theorem lifted (os : Os) (started : os.Started) (H : Type) (enc : TypeId × Value → H) :
    ReturnsInHanded {} Try.checked os 14 .any (Rows.fnExactSpreadSpec.pre6 enc Try.prog Try.f14 Rows.fnExactSpreadRow.domain false) (Rows.fnExactSpreadSpec.post enc Try.prog Try.f14 false true false false) := by
  refine returnsInHanded_of_change_sized (C := Try.checked) own started (by kernel_rfl) Try.func14
    (ChangeSpec.witness6 (enc := enc) (C := Try.checked) false ⟨#[], #[.agg #[.slice none 0 0, .int .i64 0, .int .i64 0, .int .i64 0, .int .i64 0, .int .i64 0], .slice none 0 0, .int .i64 0, .int .i64 0], []⟩ 8 (by kernel_rfl) (by kernel_rfl) (by kernel_rfl) (by kernel_rfl)) ?_
  intro W base args ds gs before hval0 hW hcnd hsz0 _
  have hval : ∀ (j : Nat) t v, Try.f14.params[j]? = some t → args[j]? = some v → Value.okWide Try.prog W .any base t v := hval0
  have hW' := hW
  obtain ⟨p, q, hA0, hV, rfl, hfz, hnd⟩ := hW
  have hA : DataW.TrodAll enc Try.prog W 0 (fun _ => true) true Try.f14.params.toList args.toList ds p := hA0
  rw [Try.params14] at hA hval
  obtain ⟨v0, vs0, d0, ds0, p0, q0, hargs, rfl, rfl, h0, r0⟩ := trodAll_cons hA
  obtain ⟨v1, vs1, d1, ds1, p1, q1, rfl, rfl, rfl, h1, r1⟩ := trodAll_cons r0
  obtain ⟨v2, vs2, d2, ds2, p2, q2, rfl, rfl, rfl, h2, r2⟩ := trodAll_cons r1
  obtain ⟨v3, vs3, d3, ds3, p3, q3, rfl, rfl, rfl, h3, r3⟩ := trodAll_cons r2
  obtain ⟨rfl, rfl, rfl⟩ := trodAll_nil r3
  obtain rfl : args = #[v0, v1, v2, v3] := by cases args; simp_all
  obtain ⟨rfl, rfl⟩ := trodVars_none hV
  have k0 := h0
  have lt0 := trod_lt k0
  obtain ⟨a0, w0, hE0⟩ := argv_struct Try.underlying67 opv67 (hval 0 67 v0 rfl rfl) h0
  have k1 := h1
  have lt1 := trod_lt k1
  obtain ⟨a1, w1, hE1⟩ := argv_slice Try.underlying46 (opv_slice Try.underlying46 (fun _ => rfl) (by decide) opv102) (hval 1 46 v1 rfl rfl) h1
  obtain ⟨a2, rfl, rfl, rfl, w2⟩ := open_int Try.underlying3 (hval 2 3 v2 rfl rfl) h2
  obtain ⟨a3, rfl, rfl, rfl, w3⟩ := open_int Try.underlying3 (hval 3 3 v3 rfl rfl) h3
  clear hA0 hval0 hsz0
  have hc := (c_w_FnExactSpread a0 a1 a2 a3 (law_w_FnExactSpread a0 a1 a2 a3 w0 w1 w2 w3)).2
  refine (law_true (us := [v0, v1, .int .i64 a2, .int .i64 a3]) (by kernel_rfl) hc rfl (ens_get (ens_cons hE0 (ens_cons hE1 (ens_cons (fun ρ => .lit rfl) (ens_cons (fun ρ => .lit rfl) ens_nil)))))).mono fun e W' ⟨he, bel⟩ => ?_
  subst he
  exact ⟨_, rfl, _, _, _, [], _, [], hW', trodAll_mk1 (shut_bool Try.underlying4 _), (trodAll_cons_mk (Below.trod laidOut (by kernel_rfl) (of_decide_eq_true (by kernel_rfl)) k0 bel lt0) (trodAll_cons_mk (Below.trod laidOut (by kernel_rfl) (of_decide_eq_true (by kernel_rfl)) k1 bel lt1) (trodAll_cons_mk (shut_int Try.underlying3 w2) (trodAll_cons_mk (shut_int Try.underlying3 w3) trodAll_mk0)))), rfl, bel.frame _, fun h => by cases h⟩
theorem over : Rows.fnExactSpreadRow.holds Try.pinned (OpenSpec.ofChange Rows.fnExactSpreadSpec) :=
  OpenClaim.holds_of_wide 14 Try.f14 rfl rfl rfl rfl rfl rfl rfl ⟨rfl, rfl, rfl, rfl, rfl⟩ rfl rfl rfl rfl rfl (by kernel_rfl) Try.func14 (by kernel_rfl)
    (of_decide_eq_true (by kernel_rfl)) (by unfold Func.isWrapper; first | (rw [if_pos (by decide +kernel)]; kernel_rfl) | (rw [if_neg (by decide +kernel)]; exact ⟨rfl, rfl⟩))
    (fun os started H enc _ => lifted os started H enc)
theorem proved : Rows.FnExactSpreadSaid := over
#print axioms proved
end Go.Proofs.Ytolbhpampnjinaa.fnExactSpread
namespace Go.Proofs.Ytolbhpampnjinaa
/-- The row, under a short name, for the claim. -/
theorem fnExactSpread_holds : Rows.FnExactSpreadSaid := fnExactSpread.proved
end Go.Proofs.Ytolbhpampnjinaa
