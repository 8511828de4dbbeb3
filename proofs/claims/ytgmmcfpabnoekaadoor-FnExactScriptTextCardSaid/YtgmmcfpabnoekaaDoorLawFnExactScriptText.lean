/- The law FnExactScriptText: for every input the call returns true and each argument reads afterwards as it read before; its card: the listed tables of the library tied to the program's text. No condition beyond the given card. -/
import Derived.Test.YtgmmcfpabnoekaaDoorA5
import Derived.Test.YtgmmcfpabnoekaaDoorRows
import Derived.Test.YtgmmcfpabnoekaaDoorHead
import Derived.WalkKit
import Derived.ProofKit
import Derived.OpenShut
import Derived.ShutString
import Derived.ChangeOld
import Derived.Below
import Derived.SizedLaws
import Derived.Carry
import Derived.Test.YtgmmcfpabnoekaaDoorCards
import Derived.Test.YtgmmcfpabnoekaaDoorTie
import Derived.SevenTiedAt
import Derived.Handed
import Derived.HandedShaped
import Derived.LaidLaws
import Derived.LaidHandle
import Derived.Lib.LaidTab
import Derived.Lib.LaidIn
import Derived.Stop.Joined
import Derived.Stop.LaidErr
namespace Go.Proofs.YtgmmcfpabnoekaaDoor.fnExactScriptText
open Go.ChangeShapes Go.WideShapes Go.ChangeAt Go.RowKit Go.Proofs.YtgmmcfpabnoekaaDoor.Ev
open Go.ChangeMaps (open_string shut_string)
set_option linter.unusedVariables false
theorem own : ownKnob Tryd.prog.godebug = none := by kernel_rfl
theorem laidOut : laidOutB Tryd.prog = true := Head.laidOut
theorem trod_lt {H : Type} {enc : TypeId × Value → H} {P : Program} {w : World} {t : TypeId} {v : Value} {x : DataW H} {p : List MemPlace} (h : DataW.Trod enc P w 0 (fun _ => true) true t v x p) : ∀ y ∈ p, y.block < w.heap.size := by
  obtain ⟨m, hm⟩ := h
  exact DataW.trod_lt m _ _ _ hm
set_option maxRecDepth 100000 in
theorem opv116 {H : Type} {enc : TypeId × Value → H} {w : World} : OpV enc Tryd.prog w 116 GReq.enc GReq.ok := by
  have h : OpV enc Tryd.prog w 116 (fun y : Bool × Int × Int × Int × Bool × List Int => [.lit (.bool y.1)] ++ ([.lit (.int .i64 y.2.1)] ++ ([.lit (.int .i64 y.2.2.1)] ++ ([.lit (.int .i64 y.2.2.2.1)] ++ ([.lit (.bool y.2.2.2.2.1)] ++ ([.tr (y.2.2.2.2.2.map encI)])))))) _ := Zb5 (sz := 6) Tryd.underlying116 (by kernel_rfl) (Xp (sa := 1) (sb := 5) rfl (by kernel_rfl) (Zir Tryd.underlying4) (Xp (sa := 1) (sb := 4) rfl (by kernel_rfl) (Q7 (k := .i64) Tryd.underlying3) (Xp (sa := 1) (sb := 3) rfl (by kernel_rfl) (Q7 (k := .i64) Tryd.underlying3) (Xp (sa := 1) (sb := 2) rfl (by kernel_rfl) (Q7 (k := .i64) Tryd.underlying3) (Xp (sa := 1) (sb := 1) rfl (by kernel_rfl) (Zir Tryd.underlying4) (Zen (sz := 1) rfl (by kernel_rfl) (Zax Tryd.underlying42 (fun _ => rfl) (by decide) (Q7 (k := .i64) Tryd.underlying3))))))))
  exact Zf4 h (fun y => (⟨y.1, y.2.1, y.2.2.1, y.2.2.2.1, y.2.2.2.2.1, y.2.2.2.2.2⟩ : GReq)) (fun _ _ => rfl) (fun _ h => h)
set_option maxRecDepth 100000 in
theorem opv118 {H : Type} {enc : TypeId × Value → H} {w : World} : OpV enc Tryd.prog w 118 GPost.enc GPost.ok := by
  have h : OpV enc Tryd.prog w 118 (fun y : Int × Int × GReq => [.lit (.int .i64 y.1)] ++ ([.lit (.int .i64 y.2.1)] ++ (GReq.enc (y.2.2)))) _ := Zb5 (sz := 8) Tryd.underlying118 (by kernel_rfl) (Xp (sa := 1) (sb := 7) rfl (by kernel_rfl) (Q7 (k := .i64) Tryd.underlying3) (Xp (sa := 1) (sb := 6) rfl (by kernel_rfl) (Q7 (k := .i64) Tryd.underlying3) (Zen (sz := 6) rfl (by kernel_rfl) opv116)))
  exact Zf4 h (fun y => (⟨y.1, y.2.1, y.2.2⟩ : GPost)) (fun _ _ => rfl) (fun _ h => h)
set_option maxRecDepth 100000 in
theorem opv44 {H : Type} {enc : TypeId × Value → H} {w : World} : OpV enc Tryd.prog w 44 GScript.enc GScript.ok := by
  have h : OpV enc Tryd.prog w 44 (fun y : List GPost × List Int × List Int => [.tr (y.1.map GPost.enc)] ++ ([.tr (y.2.1.map encI)] ++ ([.tr (y.2.2.map encI)]))) _ := Zb5 (sz := 3) Tryd.underlying44 (by kernel_rfl) (Xp (sa := 1) (sb := 2) rfl (by kernel_rfl) (Zax Tryd.underlying41 (fun _ => rfl) (by decide) opv118) (Xp (sa := 1) (sb := 1) rfl (by kernel_rfl) (Zax Tryd.underlying42 (fun _ => rfl) (by decide) (Q7 (k := .i64) Tryd.underlying3)) (Zen (sz := 1) rfl (by kernel_rfl) (Zax Tryd.underlying42 (fun _ => rfl) (by decide) (Q7 (k := .i64) Tryd.underlying3)))))
  exact Zf4 h (fun y => (⟨y.1, y.2.1, y.2.2⟩ : GScript)) (fun _ _ => rfl) (fun _ h => h)
def Znn : DataW Unit → List Value
  | .lit (.int k n) => [Value.int k n]
  | _ => []
def Zml : DataW Unit → List Value
  | .agg l => l.flatMap Znn
  | x => Znn x
def Zel : DataW Unit → List Value
  | .agg l => l.flatMap Zml
  | x => Zml x
def Zmj (h : Array Obj) (g : Nat) (cs : List Value) : Array Obj := h.modify g fun
  | .cells _ t frozen => .cells cs.toArray t frozen
  | o => o
/-- A world in which the listed variables hold what is listed. -/
noncomputable def laidWorld (os : Os) : World :=
  let w0 := World.holding Tryd.prog os ⟨#[], #[], []⟩
  { w0 with heap := (Zmj (Zmj (Zmj w0.heap 6 (Zel Rows.laid_math_bits_deBruijn32tab)) 7 (Zel Rows.laid_math_bits_deBruijn64tab)) 1 (Zel Rows.laid_internal_strconv_uint64pow10)) }
theorem Zhe (os : Os) (args : Array Value) : laidMetH Tryd.prog Rows.fnExactScriptTextRow.laid ((laidWorld os).forCall (fun _ _ => 0) ⟨#[], args, []⟩).memory :=
  laidMetH_of_parts ((LaidIn.of_run [6, 7, 1] 8 (by kernel_rfl) (by kernel_rfl) (by kernel_rfl) (by kernel_rfl)).met) (by kernel_rfl)
theorem met_of {P : Program} {l : List (String × DataW Unit)} {w : World} (h : laidMetH P l w) (hn : (l.filter fun x => x.2.handleName?.isSome) = []) : laidMet P l w := by
  unfold laidMetH at h; rw [hn] at h; exact h
/-- Both what the row lists and the world's shape are handed on. -/
theorem Zjf {H : Type} {enc : TypeId × Value → H} {a : Assume} {C : Checked} {os : Os} {f : FuncId} {fn : Func} {s : ChangeSpec} {conds : List PathCond} {apart fresh handsOn again : Bool} {X : World → Array Value → Prop}
    (hX : ∀ (w w' : World) (args : Array Value), w.heap = w'.heap → X w args → X w' args)
    (own : ownKnob C.prog.godebug = none) (started : os.Started) (noInit : C.prog.inits.idxOf? f = none) (hfn : C.prog.funcs[f]? = some fn)
    (witness : ∃ (w : World) (tape : Tape) (i : Input), w.os = os ∧ (w.forCall tape i).Shaped C.prog ∧ i.vars = [] ∧ Input.okWide C.prog (w.forCall tape i) .any w.heap.size f i ∧
      ((s.pre enc C.prog fn conds apart (w.forCall tape i).memory i.args ∧ X (w.forCall tape i).memory i.args) ∧ sizedMet enc C.prog fn (OpenSpec.ofChange s) apart (w.forCall tape i).memory i.args) ∧ a.holds C.prog (lone (Frame.enter C.prog f i.args .normal) [] (w.forCall tape i)))
    (contract : ∀ (W : World) (base : Nat) (args : Array Value) (ds gs : List (DataW H)) (before : List MemPlace),
      (∀ (j : Nat) t v, fn.params[j]? = some t → args[j]? = some v → Value.okWide C.prog W .any base t v) →
      DataW.Whole enc C.prog fn.params.toList s.vars apart W args.toList ds gs before →
      conds.all (PathCond.test C.prog ⟨fn.params.toList, ds, s.plain.varTypes C.prog, gs⟩) = true →
      (DataW.weightsEach C.prog (fn.params.toList ++ s.plain.varTypes C.prog) (ds ++ gs)).all (· ≤ reachBytes) = true → X W args → W.ShapedOpen C.prog →
      a.holds C.prog (lone (Frame.enter C.prog f args .normal) [] W) →
      Calls C.prog f args W fun e W' => ∃ v, e = .returned v ∧ s.post enc C.prog fn apart fresh handsOn again W args v W') :
    ReturnsInHanded a C os f .any (fun w args => (s.pre enc C.prog fn conds apart w args ∧ X w args) ∧ sizedMet enc C.prog fn (OpenSpec.ofChange s) apart w args) (s.post enc C.prog fn apart fresh handsOn again) := by
  refine returnsInHanded_of_calls own started noInit witness ?_
  intro w tape i _ hsh _ hok hpre hholds
  obtain ⟨_, _, _, fn', hfn', _, _, _, _, hval⟩ := hok
  have e : fn' = fn := Option.some.inj (hfn'.symm.trans hfn)
  subst e
  obtain ⟨⟨⟨ds, gs, before, hw, hc⟩, hx⟩, hz⟩ := hpre
  have hw' := DataW.Whole.of_heap (w' := w.forCall tape i) (by rfl) hw
  refine (contract (w.forCall tape i) w.heap.size i.args ds gs before hval hw' hc (hz.weights hw) (hX _ _ _ (by rfl) hx) hsh hholds).mono fun e W' ⟨v, he, hp⟩ => ?_
  subst he
  exact ChangeSpec.post_blind hp
theorem tabOf {W : World} (hL : laidMetH Tryd.prog Rows.fnExactScriptTextRow.laid W) : Lib.TabIs Tryd.prog W "internal/strconv.uint64pow10" .u64 Lib.pow10Tab :=
  Lib.tabIs_of_head (g := 1) (t := 171) (by kernel_rfl) (by kernel_rfl) Tryd.underlying171 Tryd.underlying157 (by kernel_rfl) (by kernel_rfl) (laidMet.tail (laidMet.tail (met_of hL (by kernel_rfl))))
set_option maxRecDepth 100000 in
theorem lifted (os : Os) (started : os.Started) (H : Type) (enc : TypeId × Value → H) :
    ReturnsInHanded {} Tryd.checked os 6 .any (fun w args => (Rows.fnExactScriptTextSpec.pre enc Tryd.prog Tryd.f6 Rows.fnExactScriptTextRow.domain false w args ∧ laidMetH Tryd.prog Rows.fnExactScriptTextRow.laid w) ∧ sizedMet enc Tryd.prog Tryd.f6 (OpenSpec.ofChange Rows.fnExactScriptTextSpec) false w args) (Rows.fnExactScriptTextSpec.post enc Tryd.prog Tryd.f6 false true false false) := by
  refine Zjf (C := Tryd.checked) (X := fun w _ => laidMetH Tryd.prog Rows.fnExactScriptTextRow.laid w) (fun _ _ _ hh h => h.of_heap hh) own started (by kernel_rfl) Tryd.func6
    (ChangeSpec.witness_at (enc := enc) (C := Tryd.checked) (os := os) (X := fun w _ => laidMetH Tryd.prog Rows.fnExactScriptTextRow.laid w) false (laidWorld os) #[.agg #[.slice none 0 0, .slice none 0 0, .slice none 0 0]] 8 rfl (by kernel_rfl) (by kernel_rfl) (by kernel_rfl) (by kernel_rfl) (by kernel_rfl) (Zhe os _)) ?_
  intro W base args ds gs before hval0 hW hcnd hsz0 hL hsh _
  have hval : ∀ (j : Nat) t v, Tryd.f6.params[j]? = some t → args[j]? = some v → Value.okWide Tryd.prog W .any base t v := hval0
  have hW' := hW
  obtain ⟨p, q, hA0, hV, rfl, hfz, hnd⟩ := hW
  have hA : DataW.TrodAll enc Tryd.prog W 0 (fun _ => true) true Tryd.f6.params.toList args.toList ds p := hA0
  rw [Tryd.params6] at hA hval
  obtain ⟨v0, vs0, d0, ds0, p0, q0, hargs, rfl, rfl, h0, r0⟩ := trodAll_cons hA
  obtain ⟨rfl, rfl, rfl⟩ := trodAll_nil r0
  obtain rfl : args = #[v0] := by cases args; simp_all
  obtain ⟨rfl, rfl⟩ := trodVars_none hV
  have k0 := h0
  have lt0 := trod_lt k0
  obtain ⟨a0, w0, hE0⟩ := Zjr Tryd.underlying44 opv44 (hval 0 44 v0 rfl rfl) h0
  clear hA0 hval0 hsz0
  letI : Anchor := ⟨W⟩
  haveI : ExtOk := ⟨tabOf hL⟩
  have hc := (Zbo (Zap a0 w0)).2
  refine (Zn5 (us := [v0]) rfl (by kernel_rfl) hc rfl (Zqm (Zom hE0 Zp6))).mono fun e W' ⟨he, bel⟩ => ?_
  subst he
  exact ⟨_, rfl, _, _, _, [], _, [], hW', trodAll_mk1 (shut_bool Tryd.underlying4 _), (trodAll_cons_mk (Below.trod laidOut (by kernel_rfl) (of_decide_eq_true (by kernel_rfl)) k0 bel lt0) trodAll_mk0), rfl, bel.frame _, fun h => by cases h⟩
theorem uf : Tryd.prog.unfollowed 6 = true := by kernel_rfl
theorem re : Tryd.prog.recurses 6 = true := by
  unfold Program.recurses
  rw [uf]
  rfl
theorem ip : (Rows.fnExactScriptTextRow.inPlace == Tryd.prog.inPlace 6) = true := by kernel_rfl
theorem nm : (Rows.fnExactScriptTextRow.named == Tryd.prog.varsNamed 6) = true := by kernel_rfl
theorem facts : joinedFacts Tryd.prog 6 Tryd.f6 Rows.fnExactScriptTextSpec Rows.fnExactScriptTextRow = true := by
  unfold joinedFacts
  rewrite [ip, nm, uf, re, Head.enter, Head.made, Head.lifts, Head.laidOut, Head.maps, Head.heard]
  kernel_rfl
theorem over : Rows.fnExactScriptTextRow.holds Tryd.pinned (OpenSpec.ofChange Rows.fnExactScriptTextSpec) :=
  OpenClaim.holds_of_wide 6 Tryd.f6 rfl rfl rfl rfl rfl rfl rfl ⟨rfl, rfl, rfl, rfl, rfl⟩ rfl rfl rfl rfl rfl (by kernel_rfl) Tryd.func6 facts
    (of_decide_eq_true (by kernel_rfl)) (by unfold Func.isWrapper; first | (rw [if_pos (by decide +kernel)]; kernel_rfl) | (rw [if_neg (by decide +kernel)]; exact ⟨rfl, rfl⟩))
    (fun os started H enc _ => lifted os started H enc)
theorem proved : Rows.FnExactScriptTextCardSaid :=
  Claim7.holds_tied_plain_at .later [] [.data, .data, .data] true (true, "7ae7508f2dd2af1442406e6ff8e503902e8b2e704a84177496fc52562e5ea4cc") true over (fun _ h => by cases h) (by kernel_rfl) (fun _ h => by cases h) fnExactScriptText_row_tie rfl ⟨rfl, rfl⟩ (by kernel_rfl) rfl
    (fun f fn hf hfn => by
      obtain rfl : f = 6 := Option.some.inj ((show Tryd.prog.funcNamed Rows.fnExactScriptTextRow.func = some 6 by kernel_rfl).symm.trans hf) |>.symm
      obtain rfl : fn = Tryd.f6 := (Option.some.inj (Tryd.func6.symm.trans hfn)).symm
      exact ⟨by kernel_rfl, fun j t ht => by
        rw [Tryd.params6] at ht
        have hm : t ∈ [44] := List.mem_of_getElem? (i := j) (by simpa using ht)
        simp only [List.mem_cons, List.mem_nil_iff, or_false] at hm
        rcases hm with rfl
        · exact (show Tryd.prog.wantsStandIn 44 = false by kernel_rfl)⟩)
    (by kernel_rfl)
#print axioms proved
end Go.Proofs.YtgmmcfpabnoekaaDoor.fnExactScriptText
namespace Go.Proofs.YtgmmcfpabnoekaaDoor
/-- The row, under a short name, for the claim. -/
theorem fnExactScriptText_holds : Rows.FnExactScriptTextCardSaid := fnExactScriptText.proved
end Go.Proofs.YtgmmcfpabnoekaaDoor
