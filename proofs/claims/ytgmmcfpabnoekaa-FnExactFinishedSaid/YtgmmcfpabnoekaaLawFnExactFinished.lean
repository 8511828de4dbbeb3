/- The law FnExactFinished: for every input the call returns true and each argument reads afterwards as it read before; no condition beyond the given row. -/
import Derived.Test.YtgmmcfpabnoekaaA5
import Derived.Test.YtgmmcfpabnoekaaRows
import Derived.Test.YtgmmcfpabnoekaaHead
import Derived.WalkKit
import Derived.ProofKit
import Derived.OpenShut
import Derived.ShutString
import Derived.ChangeOld
import Derived.Below
import Derived.SizedLaws
import Derived.Carry
namespace Go.Proofs.Ytgmmcfpabnoekaa.fnExactFinished
open Go.ChangeShapes Go.WideShapes Go.ChangeAt Go.RowKit Go.Proofs.Ytgmmcfpabnoekaa.Ev
open Go.ChangeMaps (open_string shut_string)
set_option linter.unusedVariables false
theorem own : ownKnob Try.prog.godebug = none := by kernel_rfl
theorem laidOut : laidOutB Try.prog = true := Head.laidOut
theorem trod_lt {H : Type} {enc : TypeId × Value → H} {P : Program} {w : World} {t : TypeId} {v : Value} {x : DataW H} {p : List MemPlace} (h : DataW.Trod enc P w 0 (fun _ => true) true t v x p) : ∀ y ∈ p, y.block < w.heap.size := by
  obtain ⟨m, hm⟩ := h
  exact DataW.trod_lt m _ _ _ hm
set_option maxRecDepth 100000 in
theorem opv112 {H : Type} {enc : TypeId × Value → H} {w : World} : OpV enc Try.prog w 112 GMConf.enc GMConf.ok := by
  have h : OpV enc Try.prog w 112 (fun y : Int × Bool × Int × Int => [.lit (.int .i64 y.1)] ++ ([.lit (.bool y.2.1)] ++ ([.lit (.int .i64 y.2.2.1)] ++ ([.lit (.int .i64 y.2.2.2)])))) _ := Yc (sz := 4) Try.underlying112 (by kernel_rfl) (Zf (sa := 1) (sb := 3) rfl (by kernel_rfl) (Zh (k := .i64) Try.underlying3) (Zf (sa := 1) (sb := 2) rfl (by kernel_rfl) (Xh Try.underlying4) (Zf (sa := 1) (sb := 1) rfl (by kernel_rfl) (Zh (k := .i64) Try.underlying3) (Yu (sz := 1) rfl (by kernel_rfl) (Zh (k := .i64) Try.underlying3)))))
  exact Xc h (fun y => (⟨y.1, y.2.1, y.2.2.1, y.2.2.2⟩ : GMConf)) (fun _ _ => rfl) (fun _ h => h)
set_option maxRecDepth 100000 in
theorem opv24 {H : Type} {enc : TypeId × Value → H} {w : World} : OpV enc Try.prog w 24 GConf.enc GConf.ok := by
  have h : OpV enc Try.prog w 24 (fun y : List GMConf × Int × Int × Int × Int × Int => [.tr (y.1.map GMConf.enc)] ++ ([.lit (.int .i64 y.2.1)] ++ ([.lit (.int .i64 y.2.2.1)] ++ ([.lit (.int .i64 y.2.2.2.1)] ++ ([.lit (.int .i64 y.2.2.2.2.1)] ++ ([.lit (.int .i64 y.2.2.2.2.2)])))))) _ := Yc (sz := 6) Try.underlying24 (by kernel_rfl) (Zf (sa := 1) (sb := 5) rfl (by kernel_rfl) (Ys Try.underlying22 (fun _ => rfl) (by decide) opv112) (Zf (sa := 1) (sb := 4) rfl (by kernel_rfl) (Zh (k := .i64) Try.underlying3) (Zf (sa := 1) (sb := 3) rfl (by kernel_rfl) (Zh (k := .i64) Try.underlying3) (Zf (sa := 1) (sb := 2) rfl (by kernel_rfl) (Zh (k := .i64) Try.underlying3) (Zf (sa := 1) (sb := 1) rfl (by kernel_rfl) (Zh (k := .i64) Try.underlying3) (Yu (sz := 1) rfl (by kernel_rfl) (Zh (k := .i64) Try.underlying3)))))))
  exact Xc h (fun y => (⟨y.1, y.2.1, y.2.2.1, y.2.2.2.1, y.2.2.2.2.1, y.2.2.2.2.2⟩ : GConf)) (fun _ _ => rfl) (fun _ h => h)
set_option maxRecDepth 100000 in
theorem opv119 {H : Type} {enc : TypeId × Value → H} {w : World} : OpV enc Try.prog w 119 GReq.enc GReq.ok := by
  have h : OpV enc Try.prog w 119 (fun y : Bool × Int × Int × Int × Bool × List Int => [.lit (.bool y.1)] ++ ([.lit (.int .i64 y.2.1)] ++ ([.lit (.int .i64 y.2.2.1)] ++ ([.lit (.int .i64 y.2.2.2.1)] ++ ([.lit (.bool y.2.2.2.2.1)] ++ ([.tr (y.2.2.2.2.2.map encI)])))))) _ := Yc (sz := 6) Try.underlying119 (by kernel_rfl) (Zf (sa := 1) (sb := 5) rfl (by kernel_rfl) (Xh Try.underlying4) (Zf (sa := 1) (sb := 4) rfl (by kernel_rfl) (Zh (k := .i64) Try.underlying3) (Zf (sa := 1) (sb := 3) rfl (by kernel_rfl) (Zh (k := .i64) Try.underlying3) (Zf (sa := 1) (sb := 2) rfl (by kernel_rfl) (Zh (k := .i64) Try.underlying3) (Zf (sa := 1) (sb := 1) rfl (by kernel_rfl) (Xh Try.underlying4) (Yu (sz := 1) rfl (by kernel_rfl) (Ys Try.underlying29 (fun _ => rfl) (by decide) (Zh (k := .i64) Try.underlying3))))))))
  exact Xc h (fun y => (⟨y.1, y.2.1, y.2.2.1, y.2.2.2.1, y.2.2.2.2.1, y.2.2.2.2.2⟩ : GReq)) (fun _ _ => rfl) (fun _ h => h)
set_option maxRecDepth 100000 in
theorem opv84 {H : Type} {enc : TypeId × Value → H} {w : World} : OpV enc Try.prog w 84 GMst.enc GMst.ok := by
  have h : OpV enc Try.prog w 84 (fun y : List GReq × Int × Int × Int × Bool × Bool => [.tr (y.1.map GReq.enc)] ++ ([.lit (.int .i64 y.2.1)] ++ ([.lit (.int .i64 y.2.2.1)] ++ ([.lit (.int .i64 y.2.2.2.1)] ++ ([.lit (.bool y.2.2.2.2.1)] ++ ([.lit (.bool y.2.2.2.2.2)])))))) _ := Yc (sz := 6) Try.underlying84 (by kernel_rfl) (Zf (sa := 1) (sb := 5) rfl (by kernel_rfl) (Ys Try.underlying82 (fun _ => rfl) (by decide) opv119) (Zf (sa := 1) (sb := 4) rfl (by kernel_rfl) (Zh (k := .i64) Try.underlying3) (Zf (sa := 1) (sb := 3) rfl (by kernel_rfl) (Zh (k := .i64) Try.underlying3) (Zf (sa := 1) (sb := 2) rfl (by kernel_rfl) (Zh (k := .i64) Try.underlying3) (Zf (sa := 1) (sb := 1) rfl (by kernel_rfl) (Xh Try.underlying4) (Yu (sz := 1) rfl (by kernel_rfl) (Xh Try.underlying4)))))))
  exact Xc h (fun y => (⟨y.1, y.2.1, y.2.2.1, y.2.2.2.1, y.2.2.2.2.1, y.2.2.2.2.2⟩ : GMst)) (fun _ _ => rfl) (fun _ h => h)
set_option maxRecDepth 100000 in
theorem opv27 {H : Type} {enc : TypeId × Value → H} {w : World} : OpV enc Try.prog w 27 GWrr.enc GWrr.ok := by
  have h : OpV enc Try.prog w 27 (fun y : Int × Int => [.lit (.int .i64 y.1)] ++ ([.lit (.int .i64 y.2)])) _ := Yc (sz := 2) Try.underlying27 (by kernel_rfl) (Zf (sa := 1) (sb := 1) rfl (by kernel_rfl) (Zh (k := .i64) Try.underlying3) (Yu (sz := 1) rfl (by kernel_rfl) (Zh (k := .i64) Try.underlying3)))
  exact Xc h (fun y => (⟨y.1, y.2⟩ : GWrr)) (fun _ _ => rfl) (fun _ h => h)
set_option maxRecDepth 100000 in
theorem opv96 {H : Type} {enc : TypeId × Value → H} {w : World} : OpV enc Try.prog w 96 GBucket.enc GBucket.ok := by
  have h : OpV enc Try.prog w 96 (fun y : Int × Int => [.lit (.int .i64 y.1)] ++ ([.lit (.int .i64 y.2)])) _ := Yc (sz := 2) Try.underlying96 (by kernel_rfl) (Zf (sa := 1) (sb := 1) rfl (by kernel_rfl) (Zh (k := .i64) Try.underlying3) (Yu (sz := 1) rfl (by kernel_rfl) (Zh (k := .i64) Try.underlying3)))
  exact Xc h (fun y => (⟨y.1, y.2⟩ : GBucket)) (fun _ _ => rfl) (fun _ h => h)
set_option maxRecDepth 100000 in
theorem opv31 {H : Type} {enc : TypeId × Value → H} {w : World} : OpV enc Try.prog w 31 GBeat.enc GBeat.ok := by
  have h : OpV enc Try.prog w 31 (fun y : Bool × Int × Int × Bool × Int × Int × Int × Bool => [.lit (.bool y.1)] ++ ([.lit (.int .i64 y.2.1)] ++ ([.lit (.int .i64 y.2.2.1)] ++ ([.lit (.bool y.2.2.2.1)] ++ ([.lit (.int .i64 y.2.2.2.2.1)] ++ ([.lit (.int .i64 y.2.2.2.2.2.1)] ++ ([.lit (.int .i64 y.2.2.2.2.2.2.1)] ++ ([.lit (.bool y.2.2.2.2.2.2.2)])))))))) _ := Yc (sz := 8) Try.underlying31 (by kernel_rfl) (Zf (sa := 1) (sb := 7) rfl (by kernel_rfl) (Xh Try.underlying4) (Zf (sa := 1) (sb := 6) rfl (by kernel_rfl) (Zh (k := .i64) Try.underlying3) (Zf (sa := 1) (sb := 5) rfl (by kernel_rfl) (Zh (k := .i64) Try.underlying3) (Zf (sa := 1) (sb := 4) rfl (by kernel_rfl) (Xh Try.underlying4) (Zf (sa := 1) (sb := 3) rfl (by kernel_rfl) (Zh (k := .i64) Try.underlying3) (Zf (sa := 1) (sb := 2) rfl (by kernel_rfl) (Zh (k := .i64) Try.underlying3) (Zf (sa := 1) (sb := 1) rfl (by kernel_rfl) (Zh (k := .i64) Try.underlying3) (Yu (sz := 1) rfl (by kernel_rfl) (Xh Try.underlying4)))))))))
  exact Xc h (fun y => (⟨y.1, y.2.1, y.2.2.1, y.2.2.2.1, y.2.2.2.2.1, y.2.2.2.2.2.1, y.2.2.2.2.2.2.1, y.2.2.2.2.2.2.2⟩ : GBeat)) (fun _ _ => rfl) (fun _ h => h)
set_option maxRecDepth 100000 in
theorem opv33 {H : Type} {enc : TypeId × Value → H} {w : World} : OpV enc Try.prog w 33 GDev.enc GDev.ok := by
  have h : OpV enc Try.prog w 33 (fun y : List Int × Int × List Int => [.tr (y.1.map encI)] ++ ([.lit (.int .i64 y.2.1)] ++ ([.tr (y.2.2.map encI)]))) _ := Yc (sz := 3) Try.underlying33 (by kernel_rfl) (Zf (sa := 1) (sb := 2) rfl (by kernel_rfl) (Ys Try.underlying29 (fun _ => rfl) (by decide) (Zh (k := .i64) Try.underlying3)) (Zf (sa := 1) (sb := 1) rfl (by kernel_rfl) (Zh (k := .i64) Try.underlying3) (Yu (sz := 1) rfl (by kernel_rfl) (Ys Try.underlying29 (fun _ => rfl) (by decide) (Zh (k := .i64) Try.underlying3)))))
  exact Xc h (fun y => (⟨y.1, y.2.1, y.2.2⟩ : GDev)) (fun _ _ => rfl) (fun _ h => h)
set_option maxRecDepth 100000 in
theorem opv35 {H : Type} {enc : TypeId × Value → H} {w : World} : OpV enc Try.prog w 35 GModel.enc GModel.ok := by
  have h : OpV enc Try.prog w 35 (fun y : List Int × GDev => [.tr (y.1.map encI)] ++ (GDev.enc (y.2))) _ := Yc (sz := 4) Try.underlying35 (by kernel_rfl) (Zf (sa := 1) (sb := 3) rfl (by kernel_rfl) (Ys Try.underlying29 (fun _ => rfl) (by decide) (Zh (k := .i64) Try.underlying3)) (Yu (sz := 3) rfl (by kernel_rfl) opv33))
  exact Xc h (fun y => (⟨y.1, y.2⟩ : GModel)) (fun _ _ => rfl) (fun _ h => h)
set_option maxRecDepth 100000 in
theorem opv99 {H : Type} {enc : TypeId × Value → H} {w : World} : OpV enc Try.prog w 99 GDone.enc GDone.ok := by
  have h : OpV enc Try.prog w 99 (fun y : Int × Int × Bool × Int × Int × Int × Int => [.lit (.int .i64 y.1)] ++ ([.lit (.int .i64 y.2.1)] ++ ([.lit (.bool y.2.2.1)] ++ ([.lit (.int .i64 y.2.2.2.1)] ++ ([.lit (.int .i64 y.2.2.2.2.1)] ++ ([.lit (.int .i64 y.2.2.2.2.2.1)] ++ ([.lit (.int .i64 y.2.2.2.2.2.2)]))))))) _ := Yc (sz := 7) Try.underlying99 (by kernel_rfl) (Zf (sa := 1) (sb := 6) rfl (by kernel_rfl) (Zh (k := .i64) Try.underlying3) (Zf (sa := 1) (sb := 5) rfl (by kernel_rfl) (Zh (k := .i64) Try.underlying3) (Zf (sa := 1) (sb := 4) rfl (by kernel_rfl) (Xh Try.underlying4) (Zf (sa := 1) (sb := 3) rfl (by kernel_rfl) (Zh (k := .i64) Try.underlying3) (Zf (sa := 1) (sb := 2) rfl (by kernel_rfl) (Zh (k := .i64) Try.underlying3) (Zf (sa := 1) (sb := 1) rfl (by kernel_rfl) (Zh (k := .i64) Try.underlying3) (Yu (sz := 1) rfl (by kernel_rfl) (Zh (k := .i64) Try.underlying3))))))))
  exact Xc h (fun y => (⟨y.1, y.2.1, y.2.2.1, y.2.2.2.1, y.2.2.2.2.1, y.2.2.2.2.2.1, y.2.2.2.2.2.2⟩ : GDone)) (fun _ _ => rfl) (fun _ h => h)
set_option maxRecDepth 100000 in
theorem opv38 {H : Type} {enc : TypeId × Value → H} {w : World} : OpV enc Try.prog w 38 GBus.enc GBus.ok := by
  have h : OpV enc Try.prog w 38 (fun y : GConf × Int × List GMst × GWrr × List GBucket × List Int × Int × Int × Int × GBeat × GBeat × GModel × Int × List GDone => GConf.enc (y.1) ++ ([.lit (.int .i64 y.2.1)] ++ ([.tr (y.2.2.1.map GMst.enc)] ++ (GWrr.enc (y.2.2.2.1) ++ ([.tr (y.2.2.2.2.1.map GBucket.enc)] ++ ([.tr (y.2.2.2.2.2.1.map encI)] ++ ([.lit (.int .i64 y.2.2.2.2.2.2.1)] ++ ([.lit (.int .i64 y.2.2.2.2.2.2.2.1)] ++ ([.lit (.int .i64 y.2.2.2.2.2.2.2.2.1)] ++ (GBeat.enc (y.2.2.2.2.2.2.2.2.2.1) ++ (GBeat.enc (y.2.2.2.2.2.2.2.2.2.2.1) ++ (GModel.enc (y.2.2.2.2.2.2.2.2.2.2.2.1) ++ ([.lit (.int .i64 y.2.2.2.2.2.2.2.2.2.2.2.2.1)] ++ ([.tr (y.2.2.2.2.2.2.2.2.2.2.2.2.2.map GDone.enc)])))))))))))))) _ := Yc (sz := 37) Try.underlying38 (by kernel_rfl) (Zf (sa := 6) (sb := 31) rfl (by kernel_rfl) opv24 (Zf (sa := 1) (sb := 30) rfl (by kernel_rfl) (Zh (k := .i64) Try.underlying3) (Zf (sa := 1) (sb := 29) rfl (by kernel_rfl) (Ys Try.underlying25 (fun _ => rfl) (by decide) opv84) (Zf (sa := 2) (sb := 27) rfl (by kernel_rfl) opv27 (Zf (sa := 1) (sb := 26) rfl (by kernel_rfl) (Ys Try.underlying28 (fun _ => rfl) (by decide) opv96) (Zf (sa := 1) (sb := 25) rfl (by kernel_rfl) (Ys Try.underlying29 (fun _ => rfl) (by decide) (Zh (k := .i64) Try.underlying3)) (Zf (sa := 1) (sb := 24) rfl (by kernel_rfl) (Zh (k := .i64) Try.underlying3) (Zf (sa := 1) (sb := 23) rfl (by kernel_rfl) (Zh (k := .i64) Try.underlying3) (Zf (sa := 1) (sb := 22) rfl (by kernel_rfl) (Zh (k := .i64) Try.underlying3) (Zf (sa := 8) (sb := 14) rfl (by kernel_rfl) opv31 (Zf (sa := 8) (sb := 6) rfl (by kernel_rfl) opv31 (Zf (sa := 4) (sb := 2) rfl (by kernel_rfl) opv35 (Zf (sa := 1) (sb := 1) rfl (by kernel_rfl) (Zh (k := .i64) Try.underlying3) (Yu (sz := 1) rfl (by kernel_rfl) (Ys Try.underlying36 (fun _ => rfl) (by decide) opv99)))))))))))))))
  exact Xc h (fun y => (⟨y.1, y.2.1, y.2.2.1, y.2.2.2.1, y.2.2.2.2.1, y.2.2.2.2.2.1, y.2.2.2.2.2.2.1, y.2.2.2.2.2.2.2.1, y.2.2.2.2.2.2.2.2.1, y.2.2.2.2.2.2.2.2.2.1, y.2.2.2.2.2.2.2.2.2.2.1, y.2.2.2.2.2.2.2.2.2.2.2.1, y.2.2.2.2.2.2.2.2.2.2.2.2.1, y.2.2.2.2.2.2.2.2.2.2.2.2.2⟩ : GBus)) (fun _ _ => rfl) (fun _ h => h)
set_option maxRecDepth 100000 in
theorem lifted (os : Os) (started : os.Started) (H : Type) (enc : TypeId × Value → H) :
    ReturnsInHanded {} Try.checked os 3 .any (Rows.fnExactFinishedSpec.pre6 enc Try.prog Try.f3 Rows.fnExactFinishedRow.domain false) (Rows.fnExactFinishedSpec.post enc Try.prog Try.f3 false true false false) := by
  refine returnsInHanded_of_change_sized (C := Try.checked) own started (by kernel_rfl) Try.func3
    (ChangeSpec.witness6 (enc := enc) (C := Try.checked) false ⟨#[], #[.agg #[.slice none 0 0, .int .i64 0, .int .i64 0, .int .i64 0, .int .i64 0, .int .i64 0, .int .i64 0, .slice none 0 0, .int .i64 0, .int .i64 0, .slice none 0 0, .slice none 0 0, .int .i64 0, .int .i64 0, .int .i64 0, .bool false, .int .i64 0, .int .i64 0, .bool false, .int .i64 0, .int .i64 0, .int .i64 0, .bool false, .bool false, .int .i64 0, .int .i64 0, .bool false, .int .i64 0, .int .i64 0, .int .i64 0, .bool false, .slice none 0 0, .slice none 0 0, .int .i64 0, .slice none 0 0, .int .i64 0, .slice none 0 0], .int .i64 0], []⟩ 8 (by kernel_rfl) (by kernel_rfl) (by kernel_rfl) (by kernel_rfl)) ?_
  intro W base args ds gs before hval0 hW hcnd hsz0 _
  have hval : ∀ (j : Nat) t v, Try.f3.params[j]? = some t → args[j]? = some v → Value.okWide Try.prog W .any base t v := hval0
  have hW' := hW
  obtain ⟨p, q, hA0, hV, rfl, hfz, hnd⟩ := hW
  have hA : DataW.TrodAll enc Try.prog W 0 (fun _ => true) true Try.f3.params.toList args.toList ds p := hA0
  rw [Try.params3] at hA hval
  obtain ⟨v0, vs0, d0, ds0, p0, q0, hargs, rfl, rfl, h0, r0⟩ := trodAll_cons hA
  obtain ⟨v1, vs1, d1, ds1, p1, q1, rfl, rfl, rfl, h1, r1⟩ := trodAll_cons r0
  obtain ⟨rfl, rfl, rfl⟩ := trodAll_nil r1
  obtain rfl : args = #[v0, v1] := by cases args; simp_all
  obtain ⟨rfl, rfl⟩ := trodVars_none hV
  have k0 := h0
  have lt0 := trod_lt k0
  obtain ⟨a0, w0, hE0⟩ := Zge Try.underlying38 opv38 (hval 0 38 v0 rfl rfl) h0
  obtain ⟨a1, rfl, rfl, rfl, w1⟩ := open_int Try.underlying3 (hval 1 3 v1 rfl rfl) h1
  clear hA0 hval0 hsz0
  letI : Anchor := ⟨W⟩
  have hc := (Zaf (Jf a0 a1 w0 w1)).2
  refine (Zl6 (us := [v0, .int .i64 a1]) rfl (by kernel_rfl) hc rfl (Zna (Ze1 hE0 (Ze1 (fun ρ => .lit rfl) Zmo)))).mono fun e W' ⟨he, bel⟩ => ?_
  subst he
  exact ⟨_, rfl, _, _, _, [], _, [], hW', trodAll_mk1 (shut_bool Try.underlying4 _), (trodAll_cons_mk (Below.trod laidOut (by kernel_rfl) (of_decide_eq_true (by kernel_rfl)) k0 bel lt0) (trodAll_cons_mk (shut_int Try.underlying3 w1) trodAll_mk0)), rfl, bel.frame _, fun h => by cases h⟩
theorem uf : Try.prog.unfollowed 3 = true := by kernel_rfl
theorem re : Try.prog.recurses 3 = true := by
  unfold Program.recurses
  rw [uf]
  rfl
theorem ip : (Rows.fnExactFinishedRow.inPlace == Try.prog.inPlace 3) = true := by kernel_rfl
theorem nm : (Rows.fnExactFinishedRow.named == Try.prog.varsNamed 3) = true := by kernel_rfl
theorem facts : joinedFacts Try.prog 3 Try.f3 Rows.fnExactFinishedSpec Rows.fnExactFinishedRow = true := by
  unfold joinedFacts
  rewrite [ip, nm, uf, re, Head.enter, Head.made, Head.lifts, Head.laidOut, Head.maps, Head.heard]
  kernel_rfl
theorem over : Rows.fnExactFinishedRow.holds Try.pinned (OpenSpec.ofChange Rows.fnExactFinishedSpec) :=
  OpenClaim.holds_of_wide 3 Try.f3 rfl rfl rfl rfl rfl rfl rfl ⟨rfl, rfl, rfl, rfl, rfl⟩ rfl rfl rfl rfl rfl (by kernel_rfl) Try.func3 facts
    (of_decide_eq_true (by kernel_rfl)) (by unfold Func.isWrapper; first | (rw [if_pos (by decide +kernel)]; kernel_rfl) | (rw [if_neg (by decide +kernel)]; exact ⟨rfl, rfl⟩))
    (fun os started H enc _ => lifted os started H enc)
theorem proved : Rows.FnExactFinishedSaid := over
#print axioms proved
end Go.Proofs.Ytgmmcfpabnoekaa.fnExactFinished
namespace Go.Proofs.Ytgmmcfpabnoekaa
/-- The row, under a short name, for the claim. -/
theorem fnExactFinished_holds : Rows.FnExactFinishedSaid := fnExactFinished.proved
end Go.Proofs.Ytgmmcfpabnoekaa
