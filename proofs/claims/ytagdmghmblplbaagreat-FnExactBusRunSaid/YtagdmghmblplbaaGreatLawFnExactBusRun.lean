/- The law FnExactBusRun: for every input the call returns true and each argument reads afterwards as it read before; no condition beyond the given row. -/
import Derived.Test.YtagdmghmblplbaaGreatA10
import Derived.Test.YtagdmghmblplbaaGreatRows
import Derived.Test.YtagdmghmblplbaaGreatHead
import Derived.WalkKit
import Derived.ProofKit
import Derived.OpenShut
import Derived.ShutString
import Derived.ChangeOld
import Derived.Below
import Derived.SizedLaws
import Derived.Carry
set_option linter.unusedSimpArgs false
set_option linter.unusedVariables false
set_option linter.unusedSectionVars false
namespace Go.Proofs.YtagdmghmblplbaaGreat.fnExactBusRun
open Go.ChangeShapes Go.WideShapes Go.ChangeAt Go.RowKit Go.Proofs.YtagdmghmblplbaaGreat.Ev
open Go.ChangeMaps (open_string shut_string)
theorem own : ownKnob Tryz.prog.godebug = none := by kernel_rfl
theorem laidOut : laidOutB Tryz.prog = true := Head.laidOut
theorem trod_lt {H : Type} {enc : TypeId × Value -> H} {P : Program} {w : World} {t : TypeId} {v : Value} {x : DataW H} {p : List MemPlace} (h : DataW.Trod enc P w 0 (λ_ => true) true t v x p) : ∀ y ∈ p, y.block < w.heap.size := by
  obtain ⟨m, hm⟩ := h;exact DataW.trod_lt m _ _ _ hm
set_option maxRecDepth 100000 in
theorem opv161 {H : Type} {enc : TypeId × Value -> H} {w : World} : OpV enc Tryz.prog w 161 Zd.enc Zd.ok := by
  have h : OpV enc Tryz.prog w 161 (λy : Int × Bool × Int × Int => [.lit (.int .i64 y.1)] ++ ([.lit (.bool y.2.1)] ++ ([.lit (.int .i64 y.2.2.1)] ++ ([.lit (.int .i64 y.2.2.2)])))) _ := Jw (sz := 4) Tryz.underlying161 (by kernel_rfl) (Yd (sa := 1) (sb := 3) rfl (by kernel_rfl) (Y7 (k := .i64) Tryz.underlying3) (Yd (sa := 1) (sb := 2) rfl (by kernel_rfl) (Zja Tryz.underlying4) (Yd (sa := 1) (sb := 1) rfl (by kernel_rfl) (Y7 (k := .i64) Tryz.underlying3) (Zce (sz := 1) rfl (by kernel_rfl) (Y7 (k := .i64) Tryz.underlying3)))));exact Zen h (λy => (⟨y.1, y.2.1, y.2.2.1, y.2.2.2⟩ : Zd)) (λ_ _ => rfl) (λ_ h => h)
set_option maxRecDepth 100000 in
theorem opv24 {H : Type} {enc : TypeId × Value -> H} {w : World} : OpV enc Tryz.prog w 24 Zl.enc Zl.ok := by
  have h : OpV enc Tryz.prog w 24 (λy : List Zd × Int × Int × Int × Int × Int => [.tr (y.1.map Zd.enc)] ++ ([.lit (.int .i64 y.2.1)] ++ ([.lit (.int .i64 y.2.2.1)] ++ ([.lit (.int .i64 y.2.2.2.1)] ++ ([.lit (.int .i64 y.2.2.2.2.1)] ++ ([.lit (.int .i64 y.2.2.2.2.2)])))))) _ := Jw (sz := 6) Tryz.underlying24 (by kernel_rfl) (Yd (sa := 1) (sb := 5) rfl (by kernel_rfl) (Zav Tryz.underlying22 (λ_ => rfl) (by decide) opv161) (Yd (sa := 1) (sb := 4) rfl (by kernel_rfl) (Y7 (k := .i64) Tryz.underlying3) (Yd (sa := 1) (sb := 3) rfl (by kernel_rfl) (Y7 (k := .i64) Tryz.underlying3) (Yd (sa := 1) (sb := 2) rfl (by kernel_rfl) (Y7 (k := .i64) Tryz.underlying3) (Yd (sa := 1) (sb := 1) rfl (by kernel_rfl) (Y7 (k := .i64) Tryz.underlying3) (Zce (sz := 1) rfl (by kernel_rfl) (Y7 (k := .i64) Tryz.underlying3)))))));exact Zen h (λy => (⟨y.1, y.2.1, y.2.2.1, y.2.2.2.1, y.2.2.2.2.1, y.2.2.2.2.2⟩ : Zl)) (λ_ _ => rfl) (λ_ h => h)
set_option maxRecDepth 100000 in
theorem Y05 {H : Type} {enc : TypeId × Value -> H} {w : World} : OpV enc Tryz.prog w 101 Zf.enc Zf.ok := by
  have h : OpV enc Tryz.prog w 101 (λy : Bool × Int × Int × Int × Bool × List Int => [.lit (.bool y.1)] ++ ([.lit (.int .i64 y.2.1)] ++ ([.lit (.int .i64 y.2.2.1)] ++ ([.lit (.int .i64 y.2.2.2.1)] ++ ([.lit (.bool y.2.2.2.2.1)] ++ ([.tr (y.2.2.2.2.2.map Ze)])))))) _ := Jw (sz := 6) Tryz.underlying101 (by kernel_rfl) (Yd (sa := 1) (sb := 5) rfl (by kernel_rfl) (Zja Tryz.underlying4) (Yd (sa := 1) (sb := 4) rfl (by kernel_rfl) (Y7 (k := .i64) Tryz.underlying3) (Yd (sa := 1) (sb := 3) rfl (by kernel_rfl) (Y7 (k := .i64) Tryz.underlying3) (Yd (sa := 1) (sb := 2) rfl (by kernel_rfl) (Y7 (k := .i64) Tryz.underlying3) (Yd (sa := 1) (sb := 1) rfl (by kernel_rfl) (Zja Tryz.underlying4) (Zce (sz := 1) rfl (by kernel_rfl) (Zav Tryz.underlying45 (λ_ => rfl) (by decide) (Y7 (k := .i64) Tryz.underlying3))))))));exact Zen h (λy => (⟨y.1, y.2.1, y.2.2.1, y.2.2.2.1, y.2.2.2.2.1, y.2.2.2.2.2⟩ : Zf)) (λ_ _ => rfl) (λ_ h => h)
set_option maxRecDepth 100000 in
theorem opv179 {H : Type} {enc : TypeId × Value -> H} {w : World} : OpV enc Tryz.prog w 179 Zb.enc Zb.ok := by
  have h : OpV enc Tryz.prog w 179 (λy : List Zf × Int × Int × Int × Bool × Bool => [.tr (y.1.map Zf.enc)] ++ ([.lit (.int .i64 y.2.1)] ++ ([.lit (.int .i64 y.2.2.1)] ++ ([.lit (.int .i64 y.2.2.2.1)] ++ ([.lit (.bool y.2.2.2.2.1)] ++ ([.lit (.bool y.2.2.2.2.2)])))))) _ := Jw (sz := 6) Tryz.underlying179 (by kernel_rfl) (Yd (sa := 1) (sb := 5) rfl (by kernel_rfl) (Zav Tryz.underlying25 (λ_ => rfl) (by decide) Y05) (Yd (sa := 1) (sb := 4) rfl (by kernel_rfl) (Y7 (k := .i64) Tryz.underlying3) (Yd (sa := 1) (sb := 3) rfl (by kernel_rfl) (Y7 (k := .i64) Tryz.underlying3) (Yd (sa := 1) (sb := 2) rfl (by kernel_rfl) (Y7 (k := .i64) Tryz.underlying3) (Yd (sa := 1) (sb := 1) rfl (by kernel_rfl) (Zja Tryz.underlying4) (Zce (sz := 1) rfl (by kernel_rfl) (Zja Tryz.underlying4)))))));exact Zen h (λy => (⟨y.1, y.2.1, y.2.2.1, y.2.2.2.1, y.2.2.2.2.1, y.2.2.2.2.2⟩ : Zb)) (λ_ _ => rfl) (λ_ h => h)
set_option maxRecDepth 100000 in
theorem opv73 {H : Type} {enc : TypeId × Value -> H} {w : World} : OpV enc Tryz.prog w 73 Z2.enc Z2.ok := by
  have h : OpV enc Tryz.prog w 73 (λy : Int × Int => [.lit (.int .i64 y.1)] ++ ([.lit (.int .i64 y.2)])) _ := Jw (sz := 2) Tryz.underlying73 (by kernel_rfl) (Yd (sa := 1) (sb := 1) rfl (by kernel_rfl) (Y7 (k := .i64) Tryz.underlying3) (Zce (sz := 1) rfl (by kernel_rfl) (Y7 (k := .i64) Tryz.underlying3)));exact Zen h (λy => (⟨y.1, y.2⟩ : Z2)) (λ_ _ => rfl) (λ_ h => h)
set_option maxRecDepth 100000 in
theorem opv197 {H : Type} {enc : TypeId × Value -> H} {w : World} : OpV enc Tryz.prog w 197 Zc.enc Zc.ok := by
  have h : OpV enc Tryz.prog w 197 (λy : Int × Int => [.lit (.int .i64 y.1)] ++ ([.lit (.int .i64 y.2)])) _ := Jw (sz := 2) Tryz.underlying197 (by kernel_rfl) (Yd (sa := 1) (sb := 1) rfl (by kernel_rfl) (Y7 (k := .i64) Tryz.underlying3) (Zce (sz := 1) rfl (by kernel_rfl) (Y7 (k := .i64) Tryz.underlying3)));exact Zen h (λy => (⟨y.1, y.2⟩ : Zc)) (λ_ _ => rfl) (λ_ h => h)
set_option maxRecDepth 100000 in
theorem opv75 {H : Type} {enc : TypeId × Value -> H} {w : World} : OpV enc Tryz.prog w 75 Zh.enc Zh.ok := by
  have h : OpV enc Tryz.prog w 75 (λy : Bool × Int × Int × Bool × Int × Int × Int × Bool => [.lit (.bool y.1)] ++ ([.lit (.int .i64 y.2.1)] ++ ([.lit (.int .i64 y.2.2.1)] ++ ([.lit (.bool y.2.2.2.1)] ++ ([.lit (.int .i64 y.2.2.2.2.1)] ++ ([.lit (.int .i64 y.2.2.2.2.2.1)] ++ ([.lit (.int .i64 y.2.2.2.2.2.2.1)] ++ ([.lit (.bool y.2.2.2.2.2.2.2)])))))))) _ := Jw (sz := 8) Tryz.underlying75 (by kernel_rfl) (Yd (sa := 1) (sb := 7) rfl (by kernel_rfl) (Zja Tryz.underlying4) (Yd (sa := 1) (sb := 6) rfl (by kernel_rfl) (Y7 (k := .i64) Tryz.underlying3) (Yd (sa := 1) (sb := 5) rfl (by kernel_rfl) (Y7 (k := .i64) Tryz.underlying3) (Yd (sa := 1) (sb := 4) rfl (by kernel_rfl) (Zja Tryz.underlying4) (Yd (sa := 1) (sb := 3) rfl (by kernel_rfl) (Y7 (k := .i64) Tryz.underlying3) (Yd (sa := 1) (sb := 2) rfl (by kernel_rfl) (Y7 (k := .i64) Tryz.underlying3) (Yd (sa := 1) (sb := 1) rfl (by kernel_rfl) (Y7 (k := .i64) Tryz.underlying3) (Zce (sz := 1) rfl (by kernel_rfl) (Zja Tryz.underlying4)))))))));exact Zen h (λy => (⟨y.1, y.2.1, y.2.2.1, y.2.2.2.1, y.2.2.2.2.1, y.2.2.2.2.2.1, y.2.2.2.2.2.2.1, y.2.2.2.2.2.2.2⟩ : Zh)) (λ_ _ => rfl) (λ_ h => h)
set_option maxRecDepth 100000 in
theorem opv76 {H : Type} {enc : TypeId × Value -> H} {w : World} : OpV enc Tryz.prog w 76 Zo.enc Zo.ok := by
  have h : OpV enc Tryz.prog w 76 (λy : List Int × Int × List Int => [.tr (y.1.map Ze)] ++ ([.lit (.int .i64 y.2.1)] ++ ([.tr (y.2.2.map Ze)]))) _ := Jw (sz := 3) Tryz.underlying76 (by kernel_rfl) (Yd (sa := 1) (sb := 2) rfl (by kernel_rfl) (Zav Tryz.underlying45 (λ_ => rfl) (by decide) (Y7 (k := .i64) Tryz.underlying3)) (Yd (sa := 1) (sb := 1) rfl (by kernel_rfl) (Y7 (k := .i64) Tryz.underlying3) (Zce (sz := 1) rfl (by kernel_rfl) (Zav Tryz.underlying45 (λ_ => rfl) (by decide) (Y7 (k := .i64) Tryz.underlying3)))));exact Zen h (λy => (⟨y.1, y.2.1, y.2.2⟩ : Zo)) (λ_ _ => rfl) (λ_ h => h)
set_option maxRecDepth 100000 in
theorem opv78 {H : Type} {enc : TypeId × Value -> H} {w : World} : OpV enc Tryz.prog w 78 Zj.enc Zj.ok := by
  have h : OpV enc Tryz.prog w 78 (λy : List Int × Zo => [.tr (y.1.map Ze)] ++ (Zo.enc (y.2))) _ := Jw (sz := 4) Tryz.underlying78 (by kernel_rfl) (Yd (sa := 1) (sb := 3) rfl (by kernel_rfl) (Zav Tryz.underlying45 (λ_ => rfl) (by decide) (Y7 (k := .i64) Tryz.underlying3)) (Zce (sz := 3) rfl (by kernel_rfl) opv76));exact Zen h (λy => (⟨y.1, y.2⟩ : Zj)) (λ_ _ => rfl) (λ_ h => h)
set_option maxRecDepth 100000 in
theorem opv200 {H : Type} {enc : TypeId × Value -> H} {w : World} : OpV enc Tryz.prog w 200 Zn.enc Zn.ok := by
  have h : OpV enc Tryz.prog w 200 (λy : Int × Int × Bool × Int × Int × Int × Int => [.lit (.int .i64 y.1)] ++ ([.lit (.int .i64 y.2.1)] ++ ([.lit (.bool y.2.2.1)] ++ ([.lit (.int .i64 y.2.2.2.1)] ++ ([.lit (.int .i64 y.2.2.2.2.1)] ++ ([.lit (.int .i64 y.2.2.2.2.2.1)] ++ ([.lit (.int .i64 y.2.2.2.2.2.2)]))))))) _ := Jw (sz := 7) Tryz.underlying200 (by kernel_rfl) (Yd (sa := 1) (sb := 6) rfl (by kernel_rfl) (Y7 (k := .i64) Tryz.underlying3) (Yd (sa := 1) (sb := 5) rfl (by kernel_rfl) (Y7 (k := .i64) Tryz.underlying3) (Yd (sa := 1) (sb := 4) rfl (by kernel_rfl) (Zja Tryz.underlying4) (Yd (sa := 1) (sb := 3) rfl (by kernel_rfl) (Y7 (k := .i64) Tryz.underlying3) (Yd (sa := 1) (sb := 2) rfl (by kernel_rfl) (Y7 (k := .i64) Tryz.underlying3) (Yd (sa := 1) (sb := 1) rfl (by kernel_rfl) (Y7 (k := .i64) Tryz.underlying3) (Zce (sz := 1) rfl (by kernel_rfl) (Y7 (k := .i64) Tryz.underlying3))))))));exact Zen h (λy => (⟨y.1, y.2.1, y.2.2.1, y.2.2.2.1, y.2.2.2.2.1, y.2.2.2.2.2.1, y.2.2.2.2.2.2⟩ : Zn)) (λ_ _ => rfl) (λ_ h => h)
set_option maxRecDepth 100000 in
theorem opv81 {H : Type} {enc : TypeId × Value -> H} {w : World} : OpV enc Tryz.prog w 81 Za.enc Za.ok := by
  have h : OpV enc Tryz.prog w 81 (λy : Zl × Int × List Zb × Z2 × List Zc × List Int × Int × Int × Int × Zh × Zh × Zj × Int × List Zn => Zl.enc (y.1) ++ ([.lit (.int .i64 y.2.1)] ++ ([.tr (y.2.2.1.map Zb.enc)] ++ (Z2.enc (y.2.2.2.1) ++ ([.tr (y.2.2.2.2.1.map Zc.enc)] ++ ([.tr (y.2.2.2.2.2.1.map Ze)] ++ ([.lit (.int .i64 y.2.2.2.2.2.2.1)] ++ ([.lit (.int .i64 y.2.2.2.2.2.2.2.1)] ++ ([.lit (.int .i64 y.2.2.2.2.2.2.2.2.1)] ++ (Zh.enc (y.2.2.2.2.2.2.2.2.2.1) ++ (Zh.enc (y.2.2.2.2.2.2.2.2.2.2.1) ++ (Zj.enc (y.2.2.2.2.2.2.2.2.2.2.2.1) ++ ([.lit (.int .i64 y.2.2.2.2.2.2.2.2.2.2.2.2.1)] ++ ([.tr (y.2.2.2.2.2.2.2.2.2.2.2.2.2.map Zn.enc)])))))))))))))) _ := Jw (sz := 37) Tryz.underlying81 (by kernel_rfl) (Yd (sa := 6) (sb := 31) rfl (by kernel_rfl) opv24 (Yd (sa := 1) (sb := 30) rfl (by kernel_rfl) (Y7 (k := .i64) Tryz.underlying3) (Yd (sa := 1) (sb := 29) rfl (by kernel_rfl) (Zav Tryz.underlying72 (λ_ => rfl) (by decide) opv179) (Yd (sa := 2) (sb := 27) rfl (by kernel_rfl) opv73 (Yd (sa := 1) (sb := 26) rfl (by kernel_rfl) (Zav Tryz.underlying74 (λ_ => rfl) (by decide) opv197) (Yd (sa := 1) (sb := 25) rfl (by kernel_rfl) (Zav Tryz.underlying45 (λ_ => rfl) (by decide) (Y7 (k := .i64) Tryz.underlying3)) (Yd (sa := 1) (sb := 24) rfl (by kernel_rfl) (Y7 (k := .i64) Tryz.underlying3) (Yd (sa := 1) (sb := 23) rfl (by kernel_rfl) (Y7 (k := .i64) Tryz.underlying3) (Yd (sa := 1) (sb := 22) rfl (by kernel_rfl) (Y7 (k := .i64) Tryz.underlying3) (Yd (sa := 8) (sb := 14) rfl (by kernel_rfl) opv75 (Yd (sa := 8) (sb := 6) rfl (by kernel_rfl) opv75 (Yd (sa := 4) (sb := 2) rfl (by kernel_rfl) opv78 (Yd (sa := 1) (sb := 1) rfl (by kernel_rfl) (Y7 (k := .i64) Tryz.underlying3) (Zce (sz := 1) rfl (by kernel_rfl) (Zav Tryz.underlying79 (λ_ => rfl) (by decide) opv200)))))))))))))));exact Zen h (λy => (⟨y.1, y.2.1, y.2.2.1, y.2.2.2.1, y.2.2.2.2.1, y.2.2.2.2.2.1, y.2.2.2.2.2.2.1, y.2.2.2.2.2.2.2.1, y.2.2.2.2.2.2.2.2.1, y.2.2.2.2.2.2.2.2.2.1, y.2.2.2.2.2.2.2.2.2.2.1, y.2.2.2.2.2.2.2.2.2.2.2.1, y.2.2.2.2.2.2.2.2.2.2.2.2.1, y.2.2.2.2.2.2.2.2.2.2.2.2.2⟩ : Za)) (λ_ _ => rfl) (λ_ h => h)
set_option maxRecDepth 100000 in
theorem opv169 {H : Type} {enc : TypeId × Value -> H} {w : World} : OpV enc Tryz.prog w 169 Zm.enc Zm.ok := by
  have h : OpV enc Tryz.prog w 169 (λy : Int × Int × Zf => [.lit (.int .i64 y.1)] ++ ([.lit (.int .i64 y.2.1)] ++ (Zf.enc (y.2.2)))) _ := Jw (sz := 8) Tryz.underlying169 (by kernel_rfl) (Yd (sa := 1) (sb := 7) rfl (by kernel_rfl) (Y7 (k := .i64) Tryz.underlying3) (Yd (sa := 1) (sb := 6) rfl (by kernel_rfl) (Y7 (k := .i64) Tryz.underlying3) (Zce (sz := 6) rfl (by kernel_rfl) Y05)));exact Zen h (λy => (⟨y.1, y.2.1, y.2.2⟩ : Zm)) (λ_ _ => rfl) (λ_ h => h)
set_option maxRecDepth 100000 in
theorem opv47 {H : Type} {enc : TypeId × Value -> H} {w : World} : OpV enc Tryz.prog w 47 Zi.enc Zi.ok := by
  have h : OpV enc Tryz.prog w 47 (λy : List Zm × List Int × List Int => [.tr (y.1.map Zm.enc)] ++ ([.tr (y.2.1.map Ze)] ++ ([.tr (y.2.2.map Ze)]))) _ := Jw (sz := 3) Tryz.underlying47 (by kernel_rfl) (Yd (sa := 1) (sb := 2) rfl (by kernel_rfl) (Zav Tryz.underlying44 (λ_ => rfl) (by decide) opv169) (Yd (sa := 1) (sb := 1) rfl (by kernel_rfl) (Zav Tryz.underlying45 (λ_ => rfl) (by decide) (Y7 (k := .i64) Tryz.underlying3)) (Zce (sz := 1) rfl (by kernel_rfl) (Zav Tryz.underlying45 (λ_ => rfl) (by decide) (Y7 (k := .i64) Tryz.underlying3)))));exact Zen h (λy => (⟨y.1, y.2.1, y.2.2⟩ : Zi)) (λ_ _ => rfl) (λ_ h => h)
set_option maxRecDepth 100000 in
theorem lifted (os : Os) (started : os.Started) (H : Type) (enc : TypeId × Value -> H) :
    ReturnsInHanded {} Tryz.checked os 7 .any (Rows.fnExactBusRunSpec.pre6 enc Tryz.prog Tryz.f7 Rows.fnExactBusRunRow.domain false) (Rows.fnExactBusRunSpec.post enc Tryz.prog Tryz.f7 false true false false) := by
  refine returnsInHanded_of_change_sized (C := Tryz.checked) own started (by kernel_rfl) Tryz.func7
    (ChangeSpec.witness6 (enc := enc) (C := Tryz.checked) false ⟨#[], #[.agg #[.slice none 0 0, .int .i64 0, .int .i64 0, .int .i64 0, .int .i64 0, .int .i64 0, .int .i64 0, .slice none 0 0, .int .i64 0, .int .i64 0, .slice none 0 0, .slice none 0 0, .int .i64 0, .int .i64 0, .int .i64 0, .bool false, .int .i64 0, .int .i64 0, .bool false, .int .i64 0, .int .i64 0, .int .i64 0, .bool false, .bool false, .int .i64 0, .int .i64 0, .bool false, .int .i64 0, .int .i64 0, .int .i64 0, .bool false, .slice none 0 0, .slice none 0 0, .int .i64 0, .slice none 0 0, .int .i64 0, .slice none 0 0], .agg #[.slice none 0 0, .slice none 0 0, .slice none 0 0], .int .i64 0], []⟩ 8 (by kernel_rfl) (by kernel_rfl) (by kernel_rfl) (by kernel_rfl)) ?_
  intro W base args ds gs before Y5i hW hcnd hsz0 _;have Yz2 : ∀ (j : Nat) t v, Tryz.f7.params[j]? = some t -> args[j]? = some v -> Value.okWide Tryz.prog W .any base t v := Y5i;have hW' := hW;obtain ⟨p, q, hA0, hV, rfl, hfz, hnd⟩ := hW;have hA : DataW.TrodAll enc Tryz.prog W 0 (λ_ => true) true Tryz.f7.params.toList args.toList ds p := hA0;rw [Tryz.params7] at hA Yz2;obtain ⟨v0, vs0, d0, ds0, p0, q0, Z2y, rfl, rfl, h0, r0⟩ := trodAll_cons hA;obtain ⟨v1, vs1, d1, ds1, p1, q1, rfl, rfl, rfl, h1, r1⟩ := trodAll_cons r0;obtain ⟨v2, vs2, d2, ds2, p2, q2, rfl, rfl, rfl, h2, r2⟩ := trodAll_cons r1;obtain ⟨rfl, rfl, rfl⟩ := trodAll_nil r2;obtain rfl : args = #[v0, v1, v2] := by cases args; simp_all
  obtain ⟨rfl, rfl⟩ := trodVars_none hV;have k0 := h0;have lt0 := trod_lt k0;obtain ⟨a0, w0, hE0⟩ := Ycg Tryz.underlying81 opv81 (Yz2 0 81 v0 rfl rfl) h0;have k1 := h1;have lt1 := trod_lt k1;obtain ⟨a1, w1, hE1⟩ := Ycg Tryz.underlying47 opv47 (Yz2 1 47 v1 rfl rfl) h1;obtain ⟨a2, rfl, rfl, rfl, w2⟩ := open_int Tryz.underlying3 (Yz2 2 3 v2 rfl rfl) h2;clear hA0 Y5i hsz0
  letI : Anchor := ⟨W⟩
  have hc := (Ybr (Z7w a0 a1 a2 w0 w1 w2)).2;refine (Y20 (us := [v0, v1, .int .i64 a2]) rfl (by kernel_rfl) hc rfl (Y6v (Yem hE0 (Yem hE1 (Yem (λρ => .lit rfl) Y5o))))).mono λe W' ⟨he, bel⟩ => ?_;subst he;exact ⟨_, rfl, _, _, _, [], _, [], hW', trodAll_mk1 (shut_bool Tryz.underlying4 _), (trodAll_cons_mk (Below.trod laidOut (by kernel_rfl) (of_decide_eq_true (by kernel_rfl)) k0 bel lt0) (trodAll_cons_mk (Below.trod laidOut (by kernel_rfl) (of_decide_eq_true (by kernel_rfl)) k1 bel lt1) (trodAll_cons_mk (shut_int Tryz.underlying3 w2) trodAll_mk0))), rfl, bel.frame _,λh => by cases h⟩
theorem uf : Tryz.prog.unfollowed 7 = true := by kernel_rfl
theorem re : Tryz.prog.recurses 7 = true := by
  unfold Program.recurses;rw [uf];rfl
theorem ip : (Rows.fnExactBusRunRow.inPlace == Tryz.prog.inPlace 7) = true := by kernel_rfl
theorem nm : (Rows.fnExactBusRunRow.named == Tryz.prog.varsNamed 7) = true := by kernel_rfl
theorem facts : joinedFacts Tryz.prog 7 Tryz.f7 Rows.fnExactBusRunSpec Rows.fnExactBusRunRow = true := by
  unfold joinedFacts
  rewrite [ip, nm, uf, re, Head.enter, Head.made, Head.lifts, Head.laidOut, Head.maps, Head.heard]
  kernel_rfl
theorem over : Rows.fnExactBusRunRow.holds Tryz.pinned (OpenSpec.ofChange Rows.fnExactBusRunSpec) :=
  OpenClaim.holds_of_wide 7 Tryz.f7 rfl rfl rfl rfl rfl rfl rfl ⟨rfl, rfl, rfl, rfl, rfl⟩ rfl rfl rfl rfl rfl (by kernel_rfl) Tryz.func7 facts
    (of_decide_eq_true (by kernel_rfl)) (by unfold Func.isWrapper; first | (rw [if_pos (by decide +kernel)]; kernel_rfl) | (rw [if_neg (by decide +kernel)]; exact ⟨rfl, rfl⟩))
    (λos started H enc _ => lifted os started H enc)
theorem proved : Rows.FnExactBusRunSaid := over
#print axioms proved
end Go.Proofs.YtagdmghmblplbaaGreat.fnExactBusRun
namespace Go.Proofs.YtagdmghmblplbaaGreat
/-- The row, under a short name, for the claim. -/
theorem fnExactBusRun_holds : Rows.FnExactBusRunSaid := fnExactBusRun.proved
end Go.Proofs.YtagdmghmblplbaaGreat
