/- The law FnExactLogText: for every input the call returns true and each argument reads afterwards as it read before; its card: the listed tables of the library tied to the program's text. No condition beyond the given card. -/
import Derived.Test.YtgmmcfpabnoekaaDoorA5
import Derived.Test.YtgmmcfpabnoekaaDoorRows
import Derived.Test.YtgmmcfpabnoekaaDoorHead
import Derived.WalkKit
import Derived.ProofKit
import Derived.OpenShut
import Derived.ShutString
import Derived.ChangeOld
import Derived.Below
import Derived.SizedLaws
import Derived.Carry
import Derived.Test.YtgmmcfpabnoekaaDoorCards
import Derived.Test.YtgmmcfpabnoekaaDoorTie
import Derived.SevenTiedAt
import Derived.Handed
import Derived.HandedShaped
import Derived.LaidLaws
import Derived.LaidHandle
import Derived.Lib.LaidTab
import Derived.Lib.LaidIn
import Derived.Stop.Joined
import Derived.Stop.LaidErr
namespace Go.Proofs.YtgmmcfpabnoekaaDoor.fnExactLogText
open Go.ChangeShapes Go.WideShapes Go.ChangeAt Go.RowKit Go.Proofs.YtgmmcfpabnoekaaDoor.Ev
open Go.ChangeMaps (open_string shut_string)
set_option linter.unusedVariables false
theorem own : ownKnob Tryd.prog.godebug = none := by kernel_rfl
theorem laidOut : laidOutB Tryd.prog = true := Head.laidOut
theorem trod_lt {H : Type} {enc : TypeId × Value → H} {P : Program} {w : World} {t : TypeId} {v : Value} {x : DataW H} {p : List MemPlace} (h : DataW.Trod enc P w 0 (fun _ => true) true t v x p) : ∀ y ∈ p, y.block < w.heap.size := by
  obtain ⟨m, hm⟩ := h
  exact DataW.trod_lt m _ _ _ hm
set_option maxRecDepth 100000 in
theorem opv23 {H : Type} {enc : TypeId × Value → H} {w : World} : OpV enc Tryd.prog w 23 GDone.enc GDone.ok := by
  have h : OpV enc Tryd.prog w 23 (fun y : Int × Int × Bool × Int × Int × Int × Int => [.lit (.int .i64 y.1)] ++ ([.lit (.int .i64 y.2.1)] ++ ([.lit (.bool y.2.2.1)] ++ ([.lit (.int .i64 y.2.2.2.1)] ++ ([.lit (.int .i64 y.2.2.2.2.1)] ++ ([.lit (.int .i64 y.2.2.2.2.2.1)] ++ ([.lit (.int .i64 y.2.2.2.2.2.2)]))))))) _ := Ze7 (sz := 7) Tryd.underlying23 (by kernel_rfl) (Xr (sa := 1) (sb := 6) rfl (by kernel_rfl) (W0 (k := .i64) Tryd.underlying3) (Xr (sa := 1) (sb := 5) rfl (by kernel_rfl) (W0 (k := .i64) Tryd.underlying3) (Xr (sa := 1) (sb := 4) rfl (by kernel_rfl) (Zhn Tryd.underlying4) (Xr (sa := 1) (sb := 3) rfl (by kernel_rfl) (W0 (k := .i64) Tryd.underlying3) (Xr (sa := 1) (sb := 2) rfl (by kernel_rfl) (W0 (k := .i64) Tryd.underlying3) (Xr (sa := 1) (sb := 1) rfl (by kernel_rfl) (W0 (k := .i64) Tryd.underlying3) (Zhy (sz := 1) rfl (by kernel_rfl) (W0 (k := .i64) Tryd.underlying3))))))))
  exact Zih h (fun y => (⟨y.1, y.2.1, y.2.2.1, y.2.2.2.1, y.2.2.2.2.1, y.2.2.2.2.2.1, y.2.2.2.2.2.2⟩ : GDone)) (fun _ _ => rfl) (fun _ h => h)
def Zgl : DataW Unit → List Value
  | .lit (.int k n) => [Value.int k n]
  | _ => []
def Zgu : DataW Unit → List Value
  | .agg l => l.flatMap Zgl
  | x => Zgl x
def J7 : DataW Unit → List Value
  | .agg l => l.flatMap Zgu
  | x => Zgu x
def Zff (h : Array Obj) (g : Nat) (cs : List Value) : Array Obj := h.modify g fun
  | .cells _ t frozen => .cells cs.toArray t frozen
  | o => o
/-- A world in which the listed variables hold what is listed. -/
noncomputable def laidWorld (os : Os) : World :=
  let w0 := World.holding Tryd.prog os ⟨#[], #[], []⟩
  { w0 with heap := (Zff (Zff (Zff w0.heap 6 (J7 Rows.laid_math_bits_deBruijn32tab)) 7 (J7 Rows.laid_math_bits_deBruijn64tab)) 1 (J7 Rows.laid_internal_strconv_uint64pow10)) }
theorem Zbw (os : Os) (args : Array Value) : laidMetH Tryd.prog Rows.fnExactLogTextRow.laid ((laidWorld os).forCall (fun _ _ => 0) ⟨#[], args, []⟩).memory :=
  laidMetH_of_parts ((LaidIn.of_run [6, 7, 1] 8 (by kernel_rfl) (by kernel_rfl) (by kernel_rfl) (by kernel_rfl)).met) (by kernel_rfl)
theorem met_of {P : Program} {l : List (String × DataW Unit)} {w : World} (h : laidMetH P l w) (hn : (l.filter fun x => x.2.handleName?.isSome) = []) : laidMet P l w := by
  unfold laidMetH at h; rw [hn] at h; exact h
/-- Both what the row lists and the world's shape are handed on. -/
theorem Zcw {H : Type} {enc : TypeId × Value → H} {a : Assume} {C : Checked} {os : Os} {f : FuncId} {fn : Func} {s : ChangeSpec} {conds : List PathCond} {apart fresh handsOn again : Bool} {X : World → Array Value → Prop}
    (hX : ∀ (w w' : World) (args : Array Value), w.heap = w'.heap → X w args → X w' args)
    (own : ownKnob C.prog.godebug = none) (started : os.Started) (noInit : C.prog.inits.idxOf? f = none) (hfn : C.prog.funcs[f]? = some fn)
    (witness : ∃ (w : World) (tape : Tape) (i : Input), w.os = os ∧ (w.forCall tape i).Shaped C.prog ∧ i.vars = [] ∧ Input.okWide C.prog (w.forCall tape i) .any w.heap.size f i ∧
      ((s.pre enc C.prog fn conds apart (w.forCall tape i).memory i.args ∧ X (w.forCall tape i).memory i.args) ∧ sizedMet enc C.prog fn (OpenSpec.ofChange s) apart (w.forCall tape i).memory i.args) ∧ a.holds C.prog (lone (Frame.enter C.prog f i.args .normal) [] (w.forCall tape i)))
    (contract : ∀ (W : World) (base : Nat) (args : Array Value) (ds gs : List (DataW H)) (before : List MemPlace),
      (∀ (j : Nat) t v, fn.params[j]? = some t → args[j]? = some v → Value.okWide C.prog W .any base t v) →
      DataW.Whole enc C.prog fn.params.toList s.vars apart W args.toList ds gs before →
      conds.all (PathCond.test C.prog ⟨fn.params.toList, ds, s.plain.varTypes C.prog, gs⟩) = true →
      (DataW.weightsEach C.prog (fn.params.toList ++ s.plain.varTypes C.prog) (ds ++ gs)).all (· ≤ reachBytes) = true → X W args → W.ShapedOpen C.prog →
      a.holds C.prog (lone (Frame.enter C.prog f args .normal) [] W) →
      Calls C.prog f args W fun e W' => ∃ v, e = .returned v ∧ s.post enc C.prog fn apart fresh handsOn again W args v W') :
    ReturnsInHanded a C os f .any (fun w args => (s.pre enc C.prog fn conds apart w args ∧ X w args) ∧ sizedMet enc C.prog fn (OpenSpec.ofChange s) apart w args) (s.post enc C.prog fn apart fresh handsOn again) := by
  refine returnsInHanded_of_calls own started noInit witness ?_
  intro w tape i _ hsh _ hok hpre hholds
  obtain ⟨_, _, _, fn', hfn', _, _, _, _, hval⟩ := hok
  have e : fn' = fn := Option.some.inj (hfn'.symm.trans hfn)
  subst e
  obtain ⟨⟨⟨ds, gs, before, hw, hc⟩, hx⟩, hz⟩ := hpre
  have hw' := DataW.Whole.of_heap (w' := w.forCall tape i) (by rfl) hw
  refine (contract (w.forCall tape i) w.heap.size i.args ds gs before hval hw' hc (hz.weights hw) (hX _ _ _ (by rfl) hx) hsh hholds).mono fun e W' ⟨v, he, hp⟩ => ?_
  subst he
  exact ChangeSpec.post_blind hp
theorem tabOf {W : World} (hL : laidMetH Tryd.prog Rows.fnExactLogTextRow.laid W) : Lib.TabIs Tryd.prog W "internal/strconv.uint64pow10" .u64 Lib.pow10Tab :=
  Lib.tabIs_of_head (g := 1) (t := 171) (by kernel_rfl) (by kernel_rfl) Tryd.underlying171 Tryd.underlying157 (by kernel_rfl) (by kernel_rfl) (laidMet.tail (laidMet.tail (met_of hL (by kernel_rfl))))
set_option maxRecDepth 100000 in
theorem lifted (os : Os) (started : os.Started) (H : Type) (enc : TypeId × Value → H) :
    ReturnsInHanded {} Tryd.checked os 5 .any (fun w args => (Rows.fnExactLogTextSpec.pre enc Tryd.prog Tryd.f5 Rows.fnExactLogTextRow.domain false w args ∧ laidMetH Tryd.prog Rows.fnExactLogTextRow.laid w) ∧ sizedMet enc Tryd.prog Tryd.f5 (OpenSpec.ofChange Rows.fnExactLogTextSpec) false w args) (Rows.fnExactLogTextSpec.post enc Tryd.prog Tryd.f5 false true false false) := by
  refine Zcw (C := Tryd.checked) (X := fun w _ => laidMetH Tryd.prog Rows.fnExactLogTextRow.laid w) (fun _ _ _ hh h => h.of_heap hh) own started (by kernel_rfl) Tryd.func5
    (ChangeSpec.witness_at (enc := enc) (C := Tryd.checked) (os := os) (X := fun w _ => laidMetH Tryd.prog Rows.fnExactLogTextRow.laid w) false (laidWorld os) #[.slice none 0 0] 8 rfl (by kernel_rfl) (by kernel_rfl) (by kernel_rfl) (by kernel_rfl) (by kernel_rfl) (Zbw os _)) ?_
  intro W base args ds gs before hval0 hW hcnd hsz0 hL hsh _
  have hval : ∀ (j : Nat) t v, Tryd.f5.params[j]? = some t → args[j]? = some v → Value.okWide Tryd.prog W .any base t v := hval0
  have hW' := hW
  obtain ⟨p, q, hA0, hV, rfl, hfz, hnd⟩ := hW
  have hA : DataW.TrodAll enc Tryd.prog W 0 (fun _ => true) true Tryd.f5.params.toList args.toList ds p := hA0
  rw [Tryd.params5] at hA hval
  obtain ⟨v0, vs0, d0, ds0, p0, q0, hargs, rfl, rfl, h0, r0⟩ := trodAll_cons hA
  obtain ⟨rfl, rfl, rfl⟩ := trodAll_nil r0
  obtain rfl : args = #[v0] := by cases args; simp_all
  obtain ⟨rfl, rfl⟩ := trodVars_none hV
  have k0 := h0
  have lt0 := trod_lt k0
  obtain ⟨a0, w0, hE0⟩ := Ze9 Tryd.underlying34 (Zf1 Tryd.underlying34 (fun _ => rfl) (by decide) opv23) (hval 0 34 v0 rfl rfl) h0
  clear hA0 hval0 hsz0
  letI : Anchor := ⟨W⟩
  haveI : ExtOk := ⟨tabOf hL⟩
  have hc := (Jf (Q9 a0 w0)).2
  refine (Zg2 (us := [v0]) rfl (by kernel_rfl) hc rfl (Zit (Zg0 hE0 Zik))).mono fun e W' ⟨he, bel⟩ => ?_
  subst he
  exact ⟨_, rfl, _, _, _, [], _, [], hW', trodAll_mk1 (shut_bool Tryd.underlying4 _), (trodAll_cons_mk (Below.trod laidOut (by kernel_rfl) (of_decide_eq_true (by kernel_rfl)) k0 bel lt0) trodAll_mk0), rfl, bel.frame _, fun h => by cases h⟩
theorem uf : Tryd.prog.unfollowed 5 = false := by kernel_rfl
theorem re : Tryd.prog.recurses 5 = false := by kernel_rfl
theorem ip : (Rows.fnExactLogTextRow.inPlace == Tryd.prog.inPlace 5) = true := by kernel_rfl
theorem nm : (Rows.fnExactLogTextRow.named == Tryd.prog.varsNamed 5) = true := by kernel_rfl
theorem facts : joinedFacts Tryd.prog 5 Tryd.f5 Rows.fnExactLogTextSpec Rows.fnExactLogTextRow = true := by
  unfold joinedFacts
  rewrite [ip, nm, uf, re, Head.enter, Head.made, Head.lifts, Head.laidOut, Head.maps, Head.heard]
  kernel_rfl
theorem over : Rows.fnExactLogTextRow.holds Tryd.pinned (OpenSpec.ofChange Rows.fnExactLogTextSpec) :=
  OpenClaim.holds_of_wide 5 Tryd.f5 rfl rfl rfl rfl rfl rfl rfl ⟨rfl, rfl, rfl, rfl, rfl⟩ rfl rfl rfl rfl rfl (by kernel_rfl) Tryd.func5 facts
    (of_decide_eq_true (by kernel_rfl)) (by unfold Func.isWrapper; first | (rw [if_pos (by decide +kernel)]; kernel_rfl) | (rw [if_neg (by decide +kernel)]; exact ⟨rfl, rfl⟩))
    (fun os started H enc _ => lifted os started H enc)
theorem proved : Rows.FnExactLogTextCardSaid :=
  Claim7.holds_tied_plain_at .later [] [.data, .data, .data] true (true, "7ae7508f2dd2af1442406e6ff8e503902e8b2e704a84177496fc52562e5ea4cc") true over (fun _ h => by cases h) (by kernel_rfl) (fun _ h => by cases h) fnExactLogText_row_tie rfl ⟨rfl, rfl⟩ (by kernel_rfl) rfl
    (fun f fn hf hfn => by
      obtain rfl : f = 5 := Option.some.inj ((show Tryd.prog.funcNamed Rows.fnExactLogTextRow.func = some 5 by kernel_rfl).symm.trans hf) |>.symm
      obtain rfl : fn = Tryd.f5 := (Option.some.inj (Tryd.func5.symm.trans hfn)).symm
      exact ⟨by kernel_rfl, fun j t ht => by
        rw [Tryd.params5] at ht
        have hm : t ∈ [34] := List.mem_of_getElem? (i := j) (by simpa using ht)
        simp only [List.mem_cons, List.mem_nil_iff, or_false] at hm
        rcases hm with rfl
        · exact (show Tryd.prog.wantsStandIn 34 = false by kernel_rfl)⟩)
    (by kernel_rfl)
#print axioms proved
end Go.Proofs.YtgmmcfpabnoekaaDoor.fnExactLogText
namespace Go.Proofs.YtgmmcfpabnoekaaDoor
/-- The row, under a short name, for the claim. -/
theorem fnExactLogText_holds : Rows.FnExactLogTextCardSaid := fnExactLogText.proved
end Go.Proofs.YtgmmcfpabnoekaaDoor
