/- The law FnExactRunOut: for every input the call returns true and each argument reads afterwards as it read before; no condition beyond the given row. -/
import Derived.Test.YtagdmghmblplbaaGreatA10
import Derived.Test.YtagdmghmblplbaaGreatRows
import Derived.Test.YtagdmghmblplbaaGreatHead
import Derived.WalkKit
import Derived.ProofKit
import Derived.OpenShut
import Derived.ShutString
import Derived.ChangeOld
import Derived.Below
import Derived.SizedLaws
import Derived.Carry
set_option linter.unusedSimpArgs false
set_option linter.unusedVariables false
set_option linter.unusedSectionVars false
namespace Go.Proofs.YtagdmghmblplbaaGreat.fnExactRunOut
open Go.ChangeShapes Go.WideShapes Go.ChangeAt Go.RowKit Go.Proofs.YtagdmghmblplbaaGreat.Ev
open Go.ChangeMaps (open_string shut_string)
theorem own : ownKnob Tryz.prog.godebug = none := by kernel_rfl
theorem laidOut : laidOutB Tryz.prog = true := Head.laidOut
theorem trod_lt {H : Type} {enc : TypeId × Value -> H} {P : Program} {w : World} {t : TypeId} {v : Value} {x : DataW H} {p : List MemPlace} (h : DataW.Trod enc P w 0 (λ_ => true) true t v x p) : ∀ y ∈ p, y.block < w.heap.size := by
  obtain ⟨m, hm⟩ := h;exact DataW.trod_lt m _ _ _ hm
set_option maxRecDepth 100000 in
theorem opv161 {H : Type} {enc : TypeId × Value -> H} {w : World} : OpV enc Tryz.prog w 161 Zd.enc Zd.ok := by
  have h : OpV enc Tryz.prog w 161 (λy : Int × Bool × Int × Int => [.lit (.int .i64 y.1)] ++ ([.lit (.bool y.2.1)] ++ ([.lit (.int .i64 y.2.2.1)] ++ ([.lit (.int .i64 y.2.2.2)])))) _ := Jy (sz := 4) Tryz.underlying161 (by kernel_rfl) (Yc (sa := 1) (sb := 3) rfl (by kernel_rfl) (Y7 (k := .i64) Tryz.underlying3) (Yc (sa := 1) (sb := 2) rfl (by kernel_rfl) (Zjg Tryz.underlying4) (Yc (sa := 1) (sb := 1) rfl (by kernel_rfl) (Y7 (k := .i64) Tryz.underlying3) (Zcr (sz := 1) rfl (by kernel_rfl) (Y7 (k := .i64) Tryz.underlying3)))));exact Zem h (λy => (⟨y.1, y.2.1, y.2.2.1, y.2.2.2⟩ : Zd)) (λ_ _ => rfl) (λ_ h => h)
set_option maxRecDepth 100000 in
theorem opv24 {H : Type} {enc : TypeId × Value -> H} {w : World} : OpV enc Tryz.prog w 24 Zk.enc Zk.ok := by
  have h : OpV enc Tryz.prog w 24 (λy : List Zd × Int × Int × Int × Int × Int => [.tr (y.1.map Zd.enc)] ++ ([.lit (.int .i64 y.2.1)] ++ ([.lit (.int .i64 y.2.2.1)] ++ ([.lit (.int .i64 y.2.2.2.1)] ++ ([.lit (.int .i64 y.2.2.2.2.1)] ++ ([.lit (.int .i64 y.2.2.2.2.2)])))))) _ := Jy (sz := 6) Tryz.underlying24 (by kernel_rfl) (Yc (sa := 1) (sb := 5) rfl (by kernel_rfl) (Za1 Tryz.underlying22 (λ_ => rfl) (by decide) opv161) (Yc (sa := 1) (sb := 4) rfl (by kernel_rfl) (Y7 (k := .i64) Tryz.underlying3) (Yc (sa := 1) (sb := 3) rfl (by kernel_rfl) (Y7 (k := .i64) Tryz.underlying3) (Yc (sa := 1) (sb := 2) rfl (by kernel_rfl) (Y7 (k := .i64) Tryz.underlying3) (Yc (sa := 1) (sb := 1) rfl (by kernel_rfl) (Y7 (k := .i64) Tryz.underlying3) (Zcr (sz := 1) rfl (by kernel_rfl) (Y7 (k := .i64) Tryz.underlying3)))))));exact Zem h (λy => (⟨y.1, y.2.1, y.2.2.1, y.2.2.2.1, y.2.2.2.2.1, y.2.2.2.2.2⟩ : Zk)) (λ_ _ => rfl) (λ_ h => h)
set_option maxRecDepth 100000 in
theorem Y1h {H : Type} {enc : TypeId × Value -> H} {w : World} : OpV enc Tryz.prog w 101 Zg.enc Zg.ok := by
  have h : OpV enc Tryz.prog w 101 (λy : Bool × Int × Int × Int × Bool × List Int => [.lit (.bool y.1)] ++ ([.lit (.int .i64 y.2.1)] ++ ([.lit (.int .i64 y.2.2.1)] ++ ([.lit (.int .i64 y.2.2.2.1)] ++ ([.lit (.bool y.2.2.2.2.1)] ++ ([.tr (y.2.2.2.2.2.map Ze)])))))) _ := Jy (sz := 6) Tryz.underlying101 (by kernel_rfl) (Yc (sa := 1) (sb := 5) rfl (by kernel_rfl) (Zjg Tryz.underlying4) (Yc (sa := 1) (sb := 4) rfl (by kernel_rfl) (Y7 (k := .i64) Tryz.underlying3) (Yc (sa := 1) (sb := 3) rfl (by kernel_rfl) (Y7 (k := .i64) Tryz.underlying3) (Yc (sa := 1) (sb := 2) rfl (by kernel_rfl) (Y7 (k := .i64) Tryz.underlying3) (Yc (sa := 1) (sb := 1) rfl (by kernel_rfl) (Zjg Tryz.underlying4) (Zcr (sz := 1) rfl (by kernel_rfl) (Za1 Tryz.underlying45 (λ_ => rfl) (by decide) (Y7 (k := .i64) Tryz.underlying3))))))));exact Zem h (λy => (⟨y.1, y.2.1, y.2.2.1, y.2.2.2.1, y.2.2.2.2.1, y.2.2.2.2.2⟩ : Zg)) (λ_ _ => rfl) (λ_ h => h)
set_option maxRecDepth 100000 in
theorem opv179 {H : Type} {enc : TypeId × Value -> H} {w : World} : OpV enc Tryz.prog w 179 Zb.enc Zb.ok := by
  have h : OpV enc Tryz.prog w 179 (λy : List Zg × Int × Int × Int × Bool × Bool => [.tr (y.1.map Zg.enc)] ++ ([.lit (.int .i64 y.2.1)] ++ ([.lit (.int .i64 y.2.2.1)] ++ ([.lit (.int .i64 y.2.2.2.1)] ++ ([.lit (.bool y.2.2.2.2.1)] ++ ([.lit (.bool y.2.2.2.2.2)])))))) _ := Jy (sz := 6) Tryz.underlying179 (by kernel_rfl) (Yc (sa := 1) (sb := 5) rfl (by kernel_rfl) (Za1 Tryz.underlying25 (λ_ => rfl) (by decide) Y1h) (Yc (sa := 1) (sb := 4) rfl (by kernel_rfl) (Y7 (k := .i64) Tryz.underlying3) (Yc (sa := 1) (sb := 3) rfl (by kernel_rfl) (Y7 (k := .i64) Tryz.underlying3) (Yc (sa := 1) (sb := 2) rfl (by kernel_rfl) (Y7 (k := .i64) Tryz.underlying3) (Yc (sa := 1) (sb := 1) rfl (by kernel_rfl) (Zjg Tryz.underlying4) (Zcr (sz := 1) rfl (by kernel_rfl) (Zjg Tryz.underlying4)))))));exact Zem h (λy => (⟨y.1, y.2.1, y.2.2.1, y.2.2.2.1, y.2.2.2.2.1, y.2.2.2.2.2⟩ : Zb)) (λ_ _ => rfl) (λ_ h => h)
set_option maxRecDepth 100000 in
theorem opv73 {H : Type} {enc : TypeId × Value -> H} {w : World} : OpV enc Tryz.prog w 73 Z2.enc Z2.ok := by
  have h : OpV enc Tryz.prog w 73 (λy : Int × Int => [.lit (.int .i64 y.1)] ++ ([.lit (.int .i64 y.2)])) _ := Jy (sz := 2) Tryz.underlying73 (by kernel_rfl) (Yc (sa := 1) (sb := 1) rfl (by kernel_rfl) (Y7 (k := .i64) Tryz.underlying3) (Zcr (sz := 1) rfl (by kernel_rfl) (Y7 (k := .i64) Tryz.underlying3)));exact Zem h (λy => (⟨y.1, y.2⟩ : Z2)) (λ_ _ => rfl) (λ_ h => h)
set_option maxRecDepth 100000 in
theorem opv197 {H : Type} {enc : TypeId × Value -> H} {w : World} : OpV enc Tryz.prog w 197 Zc.enc Zc.ok := by
  have h : OpV enc Tryz.prog w 197 (λy : Int × Int => [.lit (.int .i64 y.1)] ++ ([.lit (.int .i64 y.2)])) _ := Jy (sz := 2) Tryz.underlying197 (by kernel_rfl) (Yc (sa := 1) (sb := 1) rfl (by kernel_rfl) (Y7 (k := .i64) Tryz.underlying3) (Zcr (sz := 1) rfl (by kernel_rfl) (Y7 (k := .i64) Tryz.underlying3)));exact Zem h (λy => (⟨y.1, y.2⟩ : Zc)) (λ_ _ => rfl) (λ_ h => h)
set_option maxRecDepth 100000 in
theorem opv75 {H : Type} {enc : TypeId × Value -> H} {w : World} : OpV enc Tryz.prog w 75 Zh.enc Zh.ok := by
  have h : OpV enc Tryz.prog w 75 (λy : Bool × Int × Int × Bool × Int × Int × Int × Bool => [.lit (.bool y.1)] ++ ([.lit (.int .i64 y.2.1)] ++ ([.lit (.int .i64 y.2.2.1)] ++ ([.lit (.bool y.2.2.2.1)] ++ ([.lit (.int .i64 y.2.2.2.2.1)] ++ ([.lit (.int .i64 y.2.2.2.2.2.1)] ++ ([.lit (.int .i64 y.2.2.2.2.2.2.1)] ++ ([.lit (.bool y.2.2.2.2.2.2.2)])))))))) _ := Jy (sz := 8) Tryz.underlying75 (by kernel_rfl) (Yc (sa := 1) (sb := 7) rfl (by kernel_rfl) (Zjg Tryz.underlying4) (Yc (sa := 1) (sb := 6) rfl (by kernel_rfl) (Y7 (k := .i64) Tryz.underlying3) (Yc (sa := 1) (sb := 5) rfl (by kernel_rfl) (Y7 (k := .i64) Tryz.underlying3) (Yc (sa := 1) (sb := 4) rfl (by kernel_rfl) (Zjg Tryz.underlying4) (Yc (sa := 1) (sb := 3) rfl (by kernel_rfl) (Y7 (k := .i64) Tryz.underlying3) (Yc (sa := 1) (sb := 2) rfl (by kernel_rfl) (Y7 (k := .i64) Tryz.underlying3) (Yc (sa := 1) (sb := 1) rfl (by kernel_rfl) (Y7 (k := .i64) Tryz.underlying3) (Zcr (sz := 1) rfl (by kernel_rfl) (Zjg Tryz.underlying4)))))))));exact Zem h (λy => (⟨y.1, y.2.1, y.2.2.1, y.2.2.2.1, y.2.2.2.2.1, y.2.2.2.2.2.1, y.2.2.2.2.2.2.1, y.2.2.2.2.2.2.2⟩ : Zh)) (λ_ _ => rfl) (λ_ h => h)
set_option maxRecDepth 100000 in
theorem opv76 {H : Type} {enc : TypeId × Value -> H} {w : World} : OpV enc Tryz.prog w 76 Zo.enc Zo.ok := by
  have h : OpV enc Tryz.prog w 76 (λy : List Int × Int × List Int => [.tr (y.1.map Ze)] ++ ([.lit (.int .i64 y.2.1)] ++ ([.tr (y.2.2.map Ze)]))) _ := Jy (sz := 3) Tryz.underlying76 (by kernel_rfl) (Yc (sa := 1) (sb := 2) rfl (by kernel_rfl) (Za1 Tryz.underlying45 (λ_ => rfl) (by decide) (Y7 (k := .i64) Tryz.underlying3)) (Yc (sa := 1) (sb := 1) rfl (by kernel_rfl) (Y7 (k := .i64) Tryz.underlying3) (Zcr (sz := 1) rfl (by kernel_rfl) (Za1 Tryz.underlying45 (λ_ => rfl) (by decide) (Y7 (k := .i64) Tryz.underlying3)))));exact Zem h (λy => (⟨y.1, y.2.1, y.2.2⟩ : Zo)) (λ_ _ => rfl) (λ_ h => h)
set_option maxRecDepth 100000 in
theorem opv78 {H : Type} {enc : TypeId × Value -> H} {w : World} : OpV enc Tryz.prog w 78 Zi.enc Zi.ok := by
  have h : OpV enc Tryz.prog w 78 (λy : List Int × Zo => [.tr (y.1.map Ze)] ++ (Zo.enc (y.2))) _ := Jy (sz := 4) Tryz.underlying78 (by kernel_rfl) (Yc (sa := 1) (sb := 3) rfl (by kernel_rfl) (Za1 Tryz.underlying45 (λ_ => rfl) (by decide) (Y7 (k := .i64) Tryz.underlying3)) (Zcr (sz := 3) rfl (by kernel_rfl) opv76));exact Zem h (λy => (⟨y.1, y.2⟩ : Zi)) (λ_ _ => rfl) (λ_ h => h)
set_option maxRecDepth 100000 in
theorem opv200 {H : Type} {enc : TypeId × Value -> H} {w : World} : OpV enc Tryz.prog w 200 Zm.enc Zm.ok := by
  have h : OpV enc Tryz.prog w 200 (λy : Int × Int × Bool × Int × Int × Int × Int => [.lit (.int .i64 y.1)] ++ ([.lit (.int .i64 y.2.1)] ++ ([.lit (.bool y.2.2.1)] ++ ([.lit (.int .i64 y.2.2.2.1)] ++ ([.lit (.int .i64 y.2.2.2.2.1)] ++ ([.lit (.int .i64 y.2.2.2.2.2.1)] ++ ([.lit (.int .i64 y.2.2.2.2.2.2)]))))))) _ := Jy (sz := 7) Tryz.underlying200 (by kernel_rfl) (Yc (sa := 1) (sb := 6) rfl (by kernel_rfl) (Y7 (k := .i64) Tryz.underlying3) (Yc (sa := 1) (sb := 5) rfl (by kernel_rfl) (Y7 (k := .i64) Tryz.underlying3) (Yc (sa := 1) (sb := 4) rfl (by kernel_rfl) (Zjg Tryz.underlying4) (Yc (sa := 1) (sb := 3) rfl (by kernel_rfl) (Y7 (k := .i64) Tryz.underlying3) (Yc (sa := 1) (sb := 2) rfl (by kernel_rfl) (Y7 (k := .i64) Tryz.underlying3) (Yc (sa := 1) (sb := 1) rfl (by kernel_rfl) (Y7 (k := .i64) Tryz.underlying3) (Zcr (sz := 1) rfl (by kernel_rfl) (Y7 (k := .i64) Tryz.underlying3))))))));exact Zem h (λy => (⟨y.1, y.2.1, y.2.2.1, y.2.2.2.1, y.2.2.2.2.1, y.2.2.2.2.2.1, y.2.2.2.2.2.2⟩ : Zm)) (λ_ _ => rfl) (λ_ h => h)
set_option maxRecDepth 100000 in
theorem opv81 {H : Type} {enc : TypeId × Value -> H} {w : World} : OpV enc Tryz.prog w 81 Za.enc Za.ok := by
  have h : OpV enc Tryz.prog w 81 (λy : Zk × Int × List Zb × Z2 × List Zc × List Int × Int × Int × Int × Zh × Zh × Zi × Int × List Zm => Zk.enc (y.1) ++ ([.lit (.int .i64 y.2.1)] ++ ([.tr (y.2.2.1.map Zb.enc)] ++ (Z2.enc (y.2.2.2.1) ++ ([.tr (y.2.2.2.2.1.map Zc.enc)] ++ ([.tr (y.2.2.2.2.2.1.map Ze)] ++ ([.lit (.int .i64 y.2.2.2.2.2.2.1)] ++ ([.lit (.int .i64 y.2.2.2.2.2.2.2.1)] ++ ([.lit (.int .i64 y.2.2.2.2.2.2.2.2.1)] ++ (Zh.enc (y.2.2.2.2.2.2.2.2.2.1) ++ (Zh.enc (y.2.2.2.2.2.2.2.2.2.2.1) ++ (Zi.enc (y.2.2.2.2.2.2.2.2.2.2.2.1) ++ ([.lit (.int .i64 y.2.2.2.2.2.2.2.2.2.2.2.2.1)] ++ ([.tr (y.2.2.2.2.2.2.2.2.2.2.2.2.2.map Zm.enc)])))))))))))))) _ := Jy (sz := 37) Tryz.underlying81 (by kernel_rfl) (Yc (sa := 6) (sb := 31) rfl (by kernel_rfl) opv24 (Yc (sa := 1) (sb := 30) rfl (by kernel_rfl) (Y7 (k := .i64) Tryz.underlying3) (Yc (sa := 1) (sb := 29) rfl (by kernel_rfl) (Za1 Tryz.underlying72 (λ_ => rfl) (by decide) opv179) (Yc (sa := 2) (sb := 27) rfl (by kernel_rfl) opv73 (Yc (sa := 1) (sb := 26) rfl (by kernel_rfl) (Za1 Tryz.underlying74 (λ_ => rfl) (by decide) opv197) (Yc (sa := 1) (sb := 25) rfl (by kernel_rfl) (Za1 Tryz.underlying45 (λ_ => rfl) (by decide) (Y7 (k := .i64) Tryz.underlying3)) (Yc (sa := 1) (sb := 24) rfl (by kernel_rfl) (Y7 (k := .i64) Tryz.underlying3) (Yc (sa := 1) (sb := 23) rfl (by kernel_rfl) (Y7 (k := .i64) Tryz.underlying3) (Yc (sa := 1) (sb := 22) rfl (by kernel_rfl) (Y7 (k := .i64) Tryz.underlying3) (Yc (sa := 8) (sb := 14) rfl (by kernel_rfl) opv75 (Yc (sa := 8) (sb := 6) rfl (by kernel_rfl) opv75 (Yc (sa := 4) (sb := 2) rfl (by kernel_rfl) opv78 (Yc (sa := 1) (sb := 1) rfl (by kernel_rfl) (Y7 (k := .i64) Tryz.underlying3) (Zcr (sz := 1) rfl (by kernel_rfl) (Za1 Tryz.underlying79 (λ_ => rfl) (by decide) opv200)))))))))))))));exact Zem h (λy => (⟨y.1, y.2.1, y.2.2.1, y.2.2.2.1, y.2.2.2.2.1, y.2.2.2.2.2.1, y.2.2.2.2.2.2.1, y.2.2.2.2.2.2.2.1, y.2.2.2.2.2.2.2.2.1, y.2.2.2.2.2.2.2.2.2.1, y.2.2.2.2.2.2.2.2.2.2.1, y.2.2.2.2.2.2.2.2.2.2.2.1, y.2.2.2.2.2.2.2.2.2.2.2.2.1, y.2.2.2.2.2.2.2.2.2.2.2.2.2⟩ : Za)) (λ_ _ => rfl) (λ_ h => h)
set_option maxRecDepth 100000 in
theorem opv169 {H : Type} {enc : TypeId × Value -> H} {w : World} : OpV enc Tryz.prog w 169 Zl.enc Zl.ok := by
  have h : OpV enc Tryz.prog w 169 (λy : Int × Int × Zg => [.lit (.int .i64 y.1)] ++ ([.lit (.int .i64 y.2.1)] ++ (Zg.enc (y.2.2)))) _ := Jy (sz := 8) Tryz.underlying169 (by kernel_rfl) (Yc (sa := 1) (sb := 7) rfl (by kernel_rfl) (Y7 (k := .i64) Tryz.underlying3) (Yc (sa := 1) (sb := 6) rfl (by kernel_rfl) (Y7 (k := .i64) Tryz.underlying3) (Zcr (sz := 6) rfl (by kernel_rfl) Y1h)));exact Zem h (λy => (⟨y.1, y.2.1, y.2.2⟩ : Zl)) (λ_ _ => rfl) (λ_ h => h)
set_option maxRecDepth 100000 in
theorem opv47 {H : Type} {enc : TypeId × Value -> H} {w : World} : OpV enc Tryz.prog w 47 Zf.enc Zf.ok := by
  have h : OpV enc Tryz.prog w 47 (λy : List Zl × List Int × List Int => [.tr (y.1.map Zl.enc)] ++ ([.tr (y.2.1.map Ze)] ++ ([.tr (y.2.2.map Ze)]))) _ := Jy (sz := 3) Tryz.underlying47 (by kernel_rfl) (Yc (sa := 1) (sb := 2) rfl (by kernel_rfl) (Za1 Tryz.underlying44 (λ_ => rfl) (by decide) opv169) (Yc (sa := 1) (sb := 1) rfl (by kernel_rfl) (Za1 Tryz.underlying45 (λ_ => rfl) (by decide) (Y7 (k := .i64) Tryz.underlying3)) (Zcr (sz := 1) rfl (by kernel_rfl) (Za1 Tryz.underlying45 (λ_ => rfl) (by decide) (Y7 (k := .i64) Tryz.underlying3)))));exact Zem h (λy => (⟨y.1, y.2.1, y.2.2⟩ : Zf)) (λ_ _ => rfl) (λ_ h => h)
set_option maxRecDepth 100000 in
theorem lifted (os : Os) (started : os.Started) (H : Type) (enc : TypeId × Value -> H) :
    ReturnsInHanded {} Tryz.checked os 6 .any (Rows.fnExactRunOutSpec.pre6 enc Tryz.prog Tryz.f6 Rows.fnExactRunOutRow.domain false) (Rows.fnExactRunOutSpec.post enc Tryz.prog Tryz.f6 false true false false) := by
  refine returnsInHanded_of_change_sized (C := Tryz.checked) own started (by kernel_rfl) Tryz.func6
    (ChangeSpec.witness6 (enc := enc) (C := Tryz.checked) false ⟨#[], #[.agg #[.slice none 0 0, .int .i64 0, .int .i64 0, .int .i64 0, .int .i64 0, .int .i64 0, .int .i64 0, .slice none 0 0, .int .i64 0, .int .i64 0, .slice none 0 0, .slice none 0 0, .int .i64 0, .int .i64 0, .int .i64 0, .bool false, .int .i64 0, .int .i64 0, .bool false, .int .i64 0, .int .i64 0, .int .i64 0, .bool false, .bool false, .int .i64 0, .int .i64 0, .bool false, .int .i64 0, .int .i64 0, .int .i64 0, .bool false, .slice none 0 0, .slice none 0 0, .int .i64 0, .slice none 0 0, .int .i64 0, .slice none 0 0], .agg #[.slice none 0 0, .slice none 0 0, .slice none 0 0]], []⟩ 8 (by kernel_rfl) (by kernel_rfl) (by kernel_rfl) (by kernel_rfl)) ?_
  intro W base args ds gs before Y5y hW hcnd hsz0 _;have Y5k : ∀ (j : Nat) t v, Tryz.f6.params[j]? = some t -> args[j]? = some v -> Value.okWide Tryz.prog W .any base t v := Y5y;have hW' := hW;obtain ⟨p, q, hA0, hV, rfl, hfz, hnd⟩ := hW;have hA : DataW.TrodAll enc Tryz.prog W 0 (λ_ => true) true Tryz.f6.params.toList args.toList ds p := hA0;rw [Tryz.params6] at hA Y5k;obtain ⟨v0, vs0, d0, ds0, p0, q0, Z25, rfl, rfl, h0, r0⟩ := trodAll_cons hA;obtain ⟨v1, vs1, d1, ds1, p1, q1, rfl, rfl, rfl, h1, r1⟩ := trodAll_cons r0;obtain ⟨rfl, rfl, rfl⟩ := trodAll_nil r1;obtain rfl : args = #[v0, v1] := by cases args; simp_all
  obtain ⟨rfl, rfl⟩ := trodVars_none hV;have k0 := h0;have lt0 := trod_lt k0;obtain ⟨a0, w0, hE0⟩ := Ydl Tryz.underlying81 opv81 (Y5k 0 81 v0 rfl rfl) h0;have k1 := h1;have lt1 := trod_lt k1;obtain ⟨a1, w1, hE1⟩ := Ydl Tryz.underlying47 opv47 (Y5k 1 47 v1 rfl rfl) h1;clear hA0 Y5y hsz0
  letI : Anchor := ⟨W⟩
  have hc := (Ybr (Z7x a0 a1 w0 w1)).2;refine (Y3y (us := [v0, v1]) rfl (by kernel_rfl) hc rfl (Y6o (Ypf hE0 (Ypf hE1 Y7j)))).mono λe W' ⟨he, bel⟩ => ?_;subst he;exact ⟨_, rfl, _, _, _, [], _, [], hW', trodAll_mk1 (shut_bool Tryz.underlying4 _), (trodAll_cons_mk (Below.trod laidOut (by kernel_rfl) (of_decide_eq_true (by kernel_rfl)) k0 bel lt0) (trodAll_cons_mk (Below.trod laidOut (by kernel_rfl) (of_decide_eq_true (by kernel_rfl)) k1 bel lt1) trodAll_mk0)), rfl, bel.frame _,λh => by cases h⟩
theorem uf : Tryz.prog.unfollowed 6 = true := by kernel_rfl
theorem re : Tryz.prog.recurses 6 = true := by
  unfold Program.recurses;rw [uf];rfl
theorem ip : (Rows.fnExactRunOutRow.inPlace == Tryz.prog.inPlace 6) = true := by kernel_rfl
theorem nm : (Rows.fnExactRunOutRow.named == Tryz.prog.varsNamed 6) = true := by kernel_rfl
theorem facts : joinedFacts Tryz.prog 6 Tryz.f6 Rows.fnExactRunOutSpec Rows.fnExactRunOutRow = true := by
  unfold joinedFacts
  rewrite [ip, nm, uf, re, Head.enter, Head.made, Head.lifts, Head.laidOut, Head.maps, Head.heard]
  kernel_rfl
theorem over : Rows.fnExactRunOutRow.holds Tryz.pinned (OpenSpec.ofChange Rows.fnExactRunOutSpec) :=
  OpenClaim.holds_of_wide 6 Tryz.f6 rfl rfl rfl rfl rfl rfl rfl ⟨rfl, rfl, rfl, rfl, rfl⟩ rfl rfl rfl rfl rfl (by kernel_rfl) Tryz.func6 facts
    (of_decide_eq_true (by kernel_rfl)) (by unfold Func.isWrapper; first | (rw [if_pos (by decide +kernel)]; kernel_rfl) | (rw [if_neg (by decide +kernel)]; exact ⟨rfl, rfl⟩))
    (λos started H enc _ => lifted os started H enc)
theorem proved : Rows.FnExactRunOutSaid := over
#print axioms proved
end Go.Proofs.YtagdmghmblplbaaGreat.fnExactRunOut
namespace Go.Proofs.YtagdmghmblplbaaGreat
/-- The row, under a short name, for the claim. -/
theorem fnExactRunOut_holds : Rows.FnExactRunOutSaid := fnExactRunOut.proved
end Go.Proofs.YtagdmghmblplbaaGreat
