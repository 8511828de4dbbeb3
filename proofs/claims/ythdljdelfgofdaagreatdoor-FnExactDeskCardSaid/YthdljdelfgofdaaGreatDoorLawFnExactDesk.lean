/- The law FnExactDesk: for every input the call returns true and each argument reads afterwards as it read before; its card: the listed tables of the library tied to the program's text. No condition beyond the given card. -/
import Derived.Test.YthdljdelfgofdaaGreatDoorA10
import Derived.Test.YthdljdelfgofdaaGreatDoorRows
import Derived.Test.YthdljdelfgofdaaGreatDoorHead
import Derived.WalkKit
import Derived.ProofKit
import Derived.OpenShut
import Derived.ShutString
import Derived.ChangeOld
import Derived.Below
import Derived.SizedLaws
import Derived.Carry
import Derived.Test.YthdljdelfgofdaaGreatDoorCards
import Derived.Test.YthdljdelfgofdaaGreatDoorTie
import Derived.SevenTiedAt
import Derived.Handed
import Derived.HandedShaped
import Derived.LaidLaws
import Derived.LaidHandle
import Derived.Lib.LaidTab
import Derived.Lib.LaidIn
import Derived.Stop.Joined
import Derived.Stop.LaidErr
set_option linter.unusedSimpArgs false
set_option linter.unusedVariables false
set_option linter.unusedSectionVars false
namespace Go.Proofs.YthdljdelfgofdaaGreatDoor.fnExactDesk
open Go.ChangeShapes Go.WideShapes Go.ChangeAt Go.RowKit Go.Proofs.YthdljdelfgofdaaGreatDoor.Ev
open Go.ChangeMaps (open_string shut_string)
theorem own : ownKnob Tryz.prog.godebug = none := by kernel_rfl
theorem laidOut : laidOutB Tryz.prog = true := Head.laidOut
theorem trod_lt {H : Type} {enc : TypeId × Value -> H} {P : Program} {w : World} {t : TypeId} {v : Value} {x : DataW H} {p : List MemPlace} (h : DataW.Trod enc P w 0 (λ_ => true) true t v x p) : ∀ y ∈ p, y.block < w.heap.size := by
  obtain ⟨m, hm⟩ := h;exact DataW.trod_lt m _ _ _ hm
def Y6x : DataW Unit -> List Value
  | .lit (.int k n) => [Value.int k n]
  | _ => []
def Y7h : DataW Unit -> List Value
  | .agg l => l.flatMap Y6x
  | x => Y6x x
def eK : DataW Unit -> List Value
  | .agg l => l.flatMap Y7h
  | x => Y7h x
def S7 (h : Array Obj) (g : Nat) (cs : List Value) : Array Obj := h.modify g λ
  | .cells _ t frozen => .cells cs.toArray t frozen
  | o => o
noncomputable def low : Nat := (World.holding Tryz.prog default ⟨#[], #[], []⟩).heap.size
/-- A world in which the listed UE N2 what is listed. -/
noncomputable def Eo (os : Os) : World :=
  let w0 := World.holding Tryz.prog os ⟨#[.cells #[.string ⟨#[118, 97, 108, 117, 101, 32, 111, 117, 116, 32, 111, 102, 32, 114, 97, 110, 103, 101]⟩] 262, .cells #[.string ⟨#[105, 110, 118, 97, 108, 105, 100, 32, 115, 121, 110, 116, 97, 120]⟩] 262], #[], []⟩
  { w0 with heap := (S7 (S7 (S7 (S7 (S7 (S7 (S7 w0.heap 6 (eK Rows.laid_math_bits_deBruijn32tab)) 7 (eK Rows.laid_math_bits_deBruijn64tab)) 5 (eK Rows.laid_internal_strconv_uint64pow10)) 2 (eK Rows.laid_unicode_utf8_acceptRanges)) 4 [.iface 260 (.pointer (some ⟨low + 0, 0, none⟩))]) 3 [.iface 260 (.pointer (some ⟨low + 1, 0, none⟩))]) 1 (eK Rows.laid_unicode_utf8_first)) }
theorem Yrc (os : Os) (args : Array Value) : laidMetH Tryz.prog Rows.fnExactDeskRow.laid ((Eo os).forCall (λ_ _ => 0) ⟨#[], args, []⟩).memory :=
  laidMetH_of_parts ((LaidIn.of_run [6, 7, 5, 2, 4, 3, 1, low + 0, low + 1] 8 (by kernel_rfl) (by kernel_rfl) (by kernel_rfl) (by kernel_rfl)).met) (by kernel_rfl)
theorem Ys9 {P : Program} {l : List (String × DataW Unit)} {w : World} (h : laidMetH P l w) (hn : (l.filter λx => x.2.handleName?.isSome) = []) : laidMet P l w := by
  unfold laidMetH at h; rw [hn] at h; exact h
/-- Both what the row lists and the sW shape are handed on. -/
theorem Yue {H : Type} {enc : TypeId × Value -> H} {a : Assume} {C : Checked} {os : Os} {f : FuncId} {fn : Func} {s : ChangeSpec} {conds : List PathCond} {apart fresh Y1o again : Bool} {X : World -> Array Value -> Prop}
    (hX : ∀ (w w' : World) (args : Array Value), w.heap = w'.heap -> X w args -> X w' args)
    (own : ownKnob C.prog.godebug = none) (started : os.Started) (S8 : C.prog.inits.idxOf? f = none) (CL : C.prog.funcs[f]? = some fn)
    (witness : ∃ (w : World) (tape : Tape) (i : Input), w.os = os /\ (w.forCall tape i).Shaped C.prog /\ i.vars = [] /\ Input.okWide C.prog (w.forCall tape i) .any w.heap.size f i /\
      ((s.pre enc C.prog fn conds apart (w.forCall tape i).memory i.args /\ X (w.forCall tape i).memory i.args) /\ sizedMet enc C.prog fn (OpenSpec.ofChange s) apart (w.forCall tape i).memory i.args) /\ a.holds C.prog (lone (Frame.enter C.prog f i.args .normal) [] (w.forCall tape i)))
    (JK : ∀ (W : World) (base : Nat) (args : Array Value) (ds gs : List (DataW H)) (before : List MemPlace),
      (∀ (j : Nat) t v, fn.params[j]? = some t -> args[j]? = some v -> Value.okWide C.prog W .any base t v) ->
      DataW.Whole enc C.prog fn.params.toList s.vars apart W args.toList ds gs before ->
      conds.all (PathCond.test C.prog ⟨fn.params.toList, ds, s.plain.varTypes C.prog, gs⟩) = true ->
      (DataW.weightsEach C.prog (fn.params.toList ++ s.plain.varTypes C.prog) (ds ++ gs)).all (· <= reachBytes) = true -> X W args -> W.ShapedOpen C.prog ->
      a.holds C.prog (lone (Frame.enter C.prog f args .normal) [] W) ->
      Calls C.prog f args W λe W' => ∃ v, e = .returned v /\ s.post enc C.prog fn apart fresh Y1o again W args v W') :
    ReturnsInHanded a C os f .any (λw args => (s.pre enc C.prog fn conds apart w args /\ X w args) /\ sizedMet enc C.prog fn (OpenSpec.ofChange s) apart w args) (s.post enc C.prog fn apart fresh Y1o again) := by
  refine returnsInHanded_of_calls own started S8 witness ?_;intro w tape i _ P6 _ Yg KE Xcl;obtain ⟨_, _, _, fn', hfn', _, _, _, _, sX⟩ := Yg;have e : fn' = fn := Option.some.inj (hfn'.symm.trans CL);subst e;obtain ⟨⟨⟨ds, gs, before, hw, hc⟩, hx⟩, hz⟩ := KE;have Gd := DataW.Whole.of_heap (w' := w.forCall tape i) (by rfl) hw;refine (JK (w.forCall tape i) w.heap.size i.args ds gs before sX Gd hc (hz.weights hw) (hX _ _ _ (by rfl) hx) P6 Xcl).mono λe W' ⟨v, he, hp⟩ => ?_;subst he;exact ChangeSpec.post_blind hp
theorem eL {W : World} (hL : laidMetH Tryz.prog Rows.fnExactDeskRow.laid W) : Lib.TabIs Tryz.prog W "internal/strconv.uint64pow10" .u64 Lib.pow10Tab :=
  Lib.tabIs_of_head (g := 5) (t := 264) (by kernel_rfl) (by kernel_rfl) Tryz.underlying264 Tryz.underlying244 (by kernel_rfl) (by kernel_rfl) (laidMet.tail (laidMet.tail (Ys9 hL (by kernel_rfl))))
theorem Y09 {P : Program} {n nm : String} {d : DataW Unit} {r : List (String × DataW Unit)} {W : World} {g : Nat} {ti : TypeId} {ms : Array (String × TypeId)} (h : laidMet P ((n, .iface nm d) :: r) W)
    (hg : P.globalNamed n = some g) (ht : (P.globals[g]?).map (·.type) = some ti) (hi : P.underlying ti = some (.interface ms)) : ∃ ev, W.cell? ⟨g, 0, none⟩ = some ev /\ (ev = .nilIface \/ ∃ te pe, ev = .iface te pe) := by
  obtain ⟨ps, ⟨g0, t0, cs0, f0, p0, q0, hg0, ht0, hv0, hd0, _, e0⟩, _, _⟩ := h;obtain rfl := Option.some.inj (hg.symm.trans hg0);obtain rfl := Option.some.inj (ht.symm.trans ht0);obtain ⟨l0⟩ := cs0;obtain ⟨_, u, v, hl, _, _⟩ := iface_of_trod hi hd0;have hl : l0 = [.iface u v] := hl;subst hl;exact ⟨.iface u v, by simpa using World.var?_cell hg0 hv0 0, .inr ⟨u, v, rfl⟩⟩
theorem MD {W : World} (hL : laidMetH Tryz.prog Rows.fnExactDeskRow.laid W) : ∃ ev, W.cell? ⟨4, 0, none⟩ = some ev /\ (ev = .nilIface \/ ∃ te pe, ev = .iface te pe) :=
  Y09 (laidMet.tail (laidMet.tail (laidMet.tail (laidMet.tail (Ys9 hL (by kernel_rfl)))))) (by kernel_rfl) (by kernel_rfl) Tryz.underlying131
theorem MC {W : World} (hL : laidMetH Tryz.prog Rows.fnExactDeskRow.laid W) : ∃ ev, W.cell? ⟨3, 0, none⟩ = some ev /\ (ev = .nilIface \/ ∃ te pe, ev = .iface te pe) :=
  Y09 (laidMet.tail (laidMet.tail (laidMet.tail (laidMet.tail (laidMet.tail (Ys9 hL (by kernel_rfl))))))) (by kernel_rfl) (by kernel_rfl) Tryz.underlying131
set_option maxRecDepth 100000 in
theorem lifted (os : Os) (started : os.Started) (H : Type) (enc : TypeId × Value -> H) :
    ReturnsInHanded {} Tryz.checked os 5 .any (λw args => (Rows.fnExactDeskSpec.pre enc Tryz.prog Tryz.f5 Rows.fnExactDeskRow.domain false w args /\ laidMetH Tryz.prog Rows.fnExactDeskRow.laid w) /\ sizedMet enc Tryz.prog Tryz.f5 (OpenSpec.ofChange Rows.fnExactDeskSpec) false w args) (Rows.fnExactDeskSpec.post enc Tryz.prog Tryz.f5 false true false false) := by
  refine Yue (C := Tryz.checked) (X :=λw _ => laidMetH Tryz.prog Rows.fnExactDeskRow.laid w) (λ_ _ _ hh h => h.of_heap hh) own started (by kernel_rfl) Tryz.func5
    (ChangeSpec.witness_at (enc := enc) (C := Tryz.checked) (os := os) (X :=λw _ => laidMetH Tryz.prog Rows.fnExactDeskRow.laid w) false (Eo os) #[.string ByteArray.empty] 8 rfl (by kernel_rfl) (by kernel_rfl) (by kernel_rfl) (by kernel_rfl) (by kernel_rfl) (Yrc os _)) ?_
  intro W base args ds gs before Xao hW hcnd hsz0 hL P6 _;have sX : ∀ (j : Nat) t v, Tryz.f5.params[j]? = some t -> args[j]? = some v -> Value.okWide Tryz.prog W .any base t v := Xao;have hW' := hW;obtain ⟨p, q, WU, hV, rfl, hfz, CU⟩ := hW;have hA : DataW.TrodAll enc Tryz.prog W 0 (λ_ => true) true Tryz.f5.params.toList args.toList ds p := WU;rw [Tryz.params5] at hA sX;obtain ⟨v0, vs0, d0, ds0, p0, q0, Mh, rfl, rfl, h0, r0⟩ := trodAll_cons hA;obtain ⟨rfl, rfl, rfl⟩ := trodAll_nil r0;obtain rfl : args = #[v0] := by cases args; simp_all
  obtain ⟨rfl, rfl⟩ := trodVars_none hV;obtain ⟨a0, rfl, rfl, rfl, w0⟩ := open_string Tryz.underlying9 (sX 0 9 v0 rfl rfl) h0;clear WU Xao hsz0
  letI : Anchor := ⟨W⟩
  haveI : BG := { maxLen := Tryz.DG.s1_3 W P6, MC := MC hL, MD := MD hL, zJ := eL hL }
  have hc := (Ykz (Yfw a0 w0)).2;refine (Y8s (us := [.string a0]) rfl (by kernel_rfl) hc rfl (Xbr (Y85 (λU => .lit rfl) Xbd))).mono λe W' ⟨he, bel⟩ => ?_;subst he;exact ⟨_, rfl, _, _, _, [], _, [], hW', trodAll_mk1 (shut_bool Tryz.underlying4 _), (trodAll_cons_mk (shut_string Tryz.underlying9 w0) trodAll_mk0), rfl, bel.frame _,λh => by cases h⟩
theorem uf : Tryz.prog.unfollowed 5 = true := by kernel_rfl
theorem re : Tryz.prog.recurses 5 = true := by
  unfold Program.recurses;rw [uf];rfl
theorem ip : (Rows.fnExactDeskRow.inPlace == Tryz.prog.inPlace 5) = true := by kernel_rfl
theorem nm : (Rows.fnExactDeskRow.named == Tryz.prog.varsNamed 5) = true := by kernel_rfl
theorem facts : joinedFacts Tryz.prog 5 Tryz.f5 Rows.fnExactDeskSpec Rows.fnExactDeskRow = true := by
  unfold joinedFacts
  rewrite [ip, nm, uf, re, Head.enter, Head.made, Head.lifts, Head.laidOut, Head.maps, Head.heard]
  kernel_rfl
theorem over : Rows.fnExactDeskRow.holds Tryz.pinned (OpenSpec.ofChange Rows.fnExactDeskSpec) :=
  OpenClaim.holds_of_wide 5 Tryz.f5 rfl rfl rfl rfl rfl rfl rfl ⟨rfl, rfl, rfl, rfl, rfl⟩ rfl rfl rfl rfl rfl (by kernel_rfl) Tryz.func5 facts
    (of_decide_eq_true (by kernel_rfl)) (by unfold Func.isWrapper; first | (rw [if_pos (by decide +kernel)]; kernel_rfl) | (rw [if_neg (by decide +kernel)]; exact ⟨rfl, rfl⟩))
    (λos started H enc _ => lifted os started H enc)
theorem proved : Rows.FnExactDeskCardSaid :=
  Claim7.holds_tied_plain_at .later [] [.data, .data, .data, .data, .sentinel, .sentinel, .pinned] true (true, "33a2eb935ffc4a73f5aa0d4cb09ebfdab8b47c6c4db74fafad7cbe37a3c88d36") true over (λ_ h => by cases h) (by kernel_rfl) (λ_ h => by cases h) fnExactDesk_row_tie rfl ⟨rfl, rfl⟩ (by kernel_rfl) rfl
    (λf fn hf CL => by
      obtain rfl : f = 5 := Option.some.inj ((show Tryz.prog.funcNamed Rows.fnExactDeskRow.func = some 5 by kernel_rfl).symm.trans hf) |>.symm;obtain rfl : fn = Tryz.f5 := (Option.some.inj (Tryz.func5.symm.trans CL)).symm;exact ⟨by kernel_rfl,λj t ht => by
        rw [Tryz.params5] at ht;have hm : t ∈ [9] := List.mem_of_getElem? (i := j) (by simpa using ht);simp only [List.mem_cons, List.mem_nil_iff, or_false] at hm;rcases hm with rfl
        · exact (show Tryz.prog.wantsStandIn 9 = false by kernel_rfl)⟩)
    (by kernel_rfl)
#print axioms proved
end Go.Proofs.YthdljdelfgofdaaGreatDoor.fnExactDesk
namespace Go.Proofs.YthdljdelfgofdaaGreatDoor
/-- The row, under a short name, for the claim. -/
theorem fnExactDesk_holds : Rows.FnExactDeskCardSaid := fnExactDesk.proved
end Go.Proofs.YthdljdelfgofdaaGreatDoor
