/- The law FnDeskWorks: for every input the call returns true and each argument reads afterwards as it read before; its card: the listed tables of the library tied to the program's text. No condition beyond the given card. -/
import Derived.Test.YthdljdelfgofdaaGreatDoorA10
import Derived.Test.YthdljdelfgofdaaGreatDoorRows
import Derived.Test.YthdljdelfgofdaaGreatDoorHead
import Derived.WalkKit
import Derived.ProofKit
import Derived.OpenShut
import Derived.ShutString
import Derived.ChangeOld
import Derived.Below
import Derived.SizedLaws
import Derived.Carry
import Derived.Test.YthdljdelfgofdaaGreatDoorCards
import Derived.Test.YthdljdelfgofdaaGreatDoorTie
import Derived.SevenTiedAt
import Derived.Handed
import Derived.HandedShaped
import Derived.LaidLaws
import Derived.LaidHandle
import Derived.Lib.LaidTab
import Derived.Lib.LaidIn
import Derived.Stop.Joined
import Derived.Stop.LaidErr
set_option linter.unusedSimpArgs false
set_option linter.unusedVariables false
set_option linter.unusedSectionVars false
namespace Go.Proofs.YthdljdelfgofdaaGreatDoor.fnDeskWorks
open Go.ChangeShapes Go.WideShapes Go.ChangeAt Go.RowKit Go.Proofs.YthdljdelfgofdaaGreatDoor.Ev
open Go.ChangeMaps (open_string shut_string)
theorem own : ownKnob Tryz.prog.godebug = none := by kernel_rfl
theorem laidOut : laidOutB Tryz.prog = true := Head.laidOut
theorem trod_lt {H : Type} {enc : TypeId × Value -> H} {P : Program} {w : World} {t : TypeId} {v : Value} {x : DataW H} {p : List MemPlace} (h : DataW.Trod enc P w 0 (λ_ => true) true t v x p) : ∀ y ∈ p, y.block < w.heap.size := by
  obtain ⟨m, hm⟩ := h;exact DataW.trod_lt m _ _ _ hm
def Y5c : DataW Unit -> List Value
  | .lit (.int k n) => [Value.int k n]
  | _ => []
def Y5o : DataW Unit -> List Value
  | .agg l => l.flatMap Y5c
  | x => Y5c x
def gA : DataW Unit -> List Value
  | .agg l => l.flatMap Y5o
  | x => Y5o x
def SW (h : Array Obj) (g : Nat) (cs : List Value) : Array Obj := h.modify g λ
  | .cells _ t frozen => .cells cs.toArray t frozen
  | o => o
noncomputable def low : Nat := (World.holding Tryz.prog default ⟨#[], #[], []⟩).heap.size
/-- A world in which the listed Vi NP what is listed. -/
noncomputable def Ew (os : Os) : World :=
  let w0 := World.holding Tryz.prog os ⟨#[.cells #[.string ⟨#[118, 97, 108, 117, 101, 32, 111, 117, 116, 32, 111, 102, 32, 114, 97, 110, 103, 101]⟩] 262, .cells #[.string ⟨#[105, 110, 118, 97, 108, 105, 100, 32, 115, 121, 110, 116, 97, 120]⟩] 262], #[], []⟩
  { w0 with heap := (SW (SW (SW (SW (SW (SW (SW w0.heap 6 (gA Rows.laid_math_bits_deBruijn32tab)) 7 (gA Rows.laid_math_bits_deBruijn64tab)) 5 (gA Rows.laid_internal_strconv_uint64pow10)) 2 (gA Rows.laid_unicode_utf8_acceptRanges)) 4 [.iface 260 (.pointer (some ⟨low + 0, 0, none⟩))]) 3 [.iface 260 (.pointer (some ⟨low + 1, 0, none⟩))]) 1 (gA Rows.laid_unicode_utf8_first)) }
theorem Yqs (os : Os) (args : Array Value) : laidMetH Tryz.prog Rows.fnDeskWorksRow.laid ((Ew os).forCall (λ_ _ => 0) ⟨#[], args, []⟩).memory :=
  laidMetH_of_parts ((LaidIn.of_run [6, 7, 5, 2, 4, 3, 1, low + 0, low + 1] 8 (by kernel_rfl) (by kernel_rfl) (by kernel_rfl) (by kernel_rfl)).met) (by kernel_rfl)
theorem Yt6 {P : Program} {l : List (String × DataW Unit)} {w : World} (h : laidMetH P l w) (hn : (l.filter λx => x.2.handleName?.isSome) = []) : laidMet P l w := by
  unfold laidMetH at h; rw [hn] at h; exact h
/-- Both what the row lists and the tW shape are handed on. -/
theorem Yu4 {H : Type} {enc : TypeId × Value -> H} {a : Assume} {C : Checked} {os : Os} {f : FuncId} {fn : Func} {s : ChangeSpec} {conds : List PathCond} {apart fresh Y08 again : Bool} {X : World -> Array Value -> Prop}
    (hX : ∀ (w w' : World) (args : Array Value), w.heap = w'.heap -> X w args -> X w' args)
    (own : ownKnob C.prog.godebug = none) (started : os.Started) (SY : C.prog.inits.idxOf? f = none) (CK : C.prog.funcs[f]? = some fn)
    (witness : ∃ (w : World) (tape : Tape) (i : Input), w.os = os /\ (w.forCall tape i).Shaped C.prog /\ i.vars = [] /\ Input.okWide C.prog (w.forCall tape i) .any w.heap.size f i /\
      ((s.pre enc C.prog fn conds apart (w.forCall tape i).memory i.args /\ X (w.forCall tape i).memory i.args) /\ sizedMet enc C.prog fn (OpenSpec.ofChange s) apart (w.forCall tape i).memory i.args) /\ a.holds C.prog (lone (Frame.enter C.prog f i.args .normal) [] (w.forCall tape i)))
    (KG : ∀ (W : World) (base : Nat) (args : Array Value) (ds gs : List (DataW H)) (before : List MemPlace),
      (∀ (j : Nat) t v, fn.params[j]? = some t -> args[j]? = some v -> Value.okWide C.prog W .any base t v) ->
      DataW.Whole enc C.prog fn.params.toList s.vars apart W args.toList ds gs before ->
      conds.all (PathCond.test C.prog ⟨fn.params.toList, ds, s.plain.varTypes C.prog, gs⟩) = true ->
      (DataW.weightsEach C.prog (fn.params.toList ++ s.plain.varTypes C.prog) (ds ++ gs)).all (· <= reachBytes) = true -> X W args -> W.ShapedOpen C.prog ->
      a.holds C.prog (lone (Frame.enter C.prog f args .normal) [] W) ->
      Calls C.prog f args W λe W' => ∃ v, e = .returned v /\ s.post enc C.prog fn apart fresh Y08 again W args v W') :
    ReturnsInHanded a C os f .any (λw args => (s.pre enc C.prog fn conds apart w args /\ X w args) /\ sizedMet enc C.prog fn (OpenSpec.ofChange s) apart w args) (s.post enc C.prog fn apart fresh Y08 again) := by
  refine returnsInHanded_of_calls own started SY witness ?_;intro w tape i _ PM _ Yf Lg Xcn;obtain ⟨_, _, _, fn', hfn', _, _, _, _, tX⟩ := Yf;have e : fn' = fn := Option.some.inj (hfn'.symm.trans CK);subst e;obtain ⟨⟨⟨ds, gs, before, hw, hc⟩, hx⟩, hz⟩ := Lg;have Gg := DataW.Whole.of_heap (w' := w.forCall tape i) (by rfl) hw;refine (KG (w.forCall tape i) w.heap.size i.args ds gs before tX Gg hc (hz.weights hw) (hX _ _ _ (by rfl) hx) PM Xcn).mono λe W' ⟨v, he, hp⟩ => ?_;subst he;exact ChangeSpec.post_blind hp
theorem gB {W : World} (hL : laidMetH Tryz.prog Rows.fnDeskWorksRow.laid W) : Lib.TabIs Tryz.prog W "internal/strconv.uint64pow10" .u64 Lib.pow10Tab :=
  Lib.tabIs_of_head (g := 5) (t := 264) (by kernel_rfl) (by kernel_rfl) Tryz.underlying264 Tryz.underlying244 (by kernel_rfl) (by kernel_rfl) (laidMet.tail (laidMet.tail (Yt6 hL (by kernel_rfl))))
theorem Y0d {P : Program} {n nm : String} {d : DataW Unit} {r : List (String × DataW Unit)} {W : World} {g : Nat} {ti : TypeId} {ms : Array (String × TypeId)} (h : laidMet P ((n, .iface nm d) :: r) W)
    (hg : P.globalNamed n = some g) (ht : (P.globals[g]?).map (·.type) = some ti) (hi : P.underlying ti = some (.interface ms)) : ∃ ev, W.cell? ⟨g, 0, none⟩ = some ev /\ (ev = .nilIface \/ ∃ te pe, ev = .iface te pe) := by
  obtain ⟨ps, ⟨g0, t0, cs0, f0, p0, q0, hg0, ht0, hv0, hd0, _, e0⟩, _, _⟩ := h;obtain rfl := Option.some.inj (hg.symm.trans hg0);obtain rfl := Option.some.inj (ht.symm.trans ht0);obtain ⟨l0⟩ := cs0;obtain ⟨_, u, v, hl, _, _⟩ := iface_of_trod hi hd0;have hl : l0 = [.iface u v] := hl;subst hl;exact ⟨.iface u v, by simpa using World.var?_cell hg0 hv0 0, .inr ⟨u, v, rfl⟩⟩
theorem MZ {W : World} (hL : laidMetH Tryz.prog Rows.fnDeskWorksRow.laid W) : ∃ ev, W.cell? ⟨4, 0, none⟩ = some ev /\ (ev = .nilIface \/ ∃ te pe, ev = .iface te pe) :=
  Y0d (laidMet.tail (laidMet.tail (laidMet.tail (laidMet.tail (Yt6 hL (by kernel_rfl)))))) (by kernel_rfl) (by kernel_rfl) Tryz.underlying131
theorem MY {W : World} (hL : laidMetH Tryz.prog Rows.fnDeskWorksRow.laid W) : ∃ ev, W.cell? ⟨3, 0, none⟩ = some ev /\ (ev = .nilIface \/ ∃ te pe, ev = .iface te pe) :=
  Y0d (laidMet.tail (laidMet.tail (laidMet.tail (laidMet.tail (laidMet.tail (Yt6 hL (by kernel_rfl))))))) (by kernel_rfl) (by kernel_rfl) Tryz.underlying131
set_option maxRecDepth 100000 in
theorem lifted (os : Os) (started : os.Started) (H : Type) (enc : TypeId × Value -> H) :
    ReturnsInHanded {} Tryz.checked os 4 .any (λw args => (Rows.fnDeskWorksSpec.pre enc Tryz.prog Tryz.f4 Rows.fnDeskWorksRow.domain false w args /\ laidMetH Tryz.prog Rows.fnDeskWorksRow.laid w) /\ sizedMet enc Tryz.prog Tryz.f4 (OpenSpec.ofChange Rows.fnDeskWorksSpec) false w args) (Rows.fnDeskWorksSpec.post enc Tryz.prog Tryz.f4 false true false false) := by
  refine Yu4 (C := Tryz.checked) (X :=λw _ => laidMetH Tryz.prog Rows.fnDeskWorksRow.laid w) (λ_ _ _ hh h => h.of_heap hh) own started (by kernel_rfl) Tryz.func4
    (ChangeSpec.witness_at (enc := enc) (C := Tryz.checked) (os := os) (X :=λw _ => laidMetH Tryz.prog Rows.fnDeskWorksRow.laid w) false (Ew os) #[.slice none 0 0] 8 rfl (by kernel_rfl) (by kernel_rfl) (by kernel_rfl) (by kernel_rfl) (by kernel_rfl) (Yqs os _)) ?_
  intro W base args ds gs before Xah hW hcnd hsz0 hL PM _;have tX : ∀ (j : Nat) t v, Tryz.f4.params[j]? = some t -> args[j]? = some v -> Value.okWide Tryz.prog W .any base t v := Xah;have hW' := hW;obtain ⟨p, q, XW, hV, rfl, hfz, CU⟩ := hW;have hA : DataW.TrodAll enc Tryz.prog W 0 (λ_ => true) true Tryz.f4.params.toList args.toList ds p := XW;rw [Tryz.params4] at hA tX;obtain ⟨v0, vs0, d0, ds0, p0, q0, M4, rfl, rfl, h0, r0⟩ := trodAll_cons hA;obtain ⟨rfl, rfl, rfl⟩ := trodAll_nil r0;obtain rfl : args = #[v0] := by cases args; simp_all
  obtain ⟨rfl, rfl⟩ := trodVars_none hV;have k0 := h0;have lt0 := trod_lt k0;obtain ⟨a0, w0, hE0⟩ := Y2v Tryz.underlying31 (Y5x Tryz.underlying31 (λ_ => rfl) (by decide) (Xbj (k := .u8) Tryz.underlying5)) (tX 0 31 v0 rfl rfl) h0;clear XW Xah hsz0
  letI : Anchor := ⟨W⟩
  haveI : BF := { maxLen := Tryz.DH.s1_3 W PM, MY := MY hL, MZ := MZ hL, tab := gB hL }
  have hc := (Ymf (Yfs a0 w0)).2;refine (Y9t (us := [v0]) rfl (by kernel_rfl) hc rfl (Xav (Y7o hE0 Xbe))).mono λe W' ⟨he, bel⟩ => ?_;subst he;exact ⟨_, rfl, _, _, _, [], _, [], hW', trodAll_mk1 (shut_bool Tryz.underlying4 _), (trodAll_cons_mk (Below.trod laidOut (by kernel_rfl) (of_decide_eq_true (by kernel_rfl)) k0 bel lt0) trodAll_mk0), rfl, bel.frame _,λh => by cases h⟩
theorem uf : Tryz.prog.unfollowed 4 = true := by kernel_rfl
theorem re : Tryz.prog.recurses 4 = true := by
  unfold Program.recurses;rw [uf];rfl
theorem ip : (Rows.fnDeskWorksRow.inPlace == Tryz.prog.inPlace 4) = true := by kernel_rfl
theorem nm : (Rows.fnDeskWorksRow.named == Tryz.prog.varsNamed 4) = true := by kernel_rfl
theorem facts : joinedFacts Tryz.prog 4 Tryz.f4 Rows.fnDeskWorksSpec Rows.fnDeskWorksRow = true := by
  unfold joinedFacts
  rewrite [ip, nm, uf, re, Head.enter, Head.made, Head.lifts, Head.laidOut, Head.maps, Head.heard]
  kernel_rfl
theorem over : Rows.fnDeskWorksRow.holds Tryz.pinned (OpenSpec.ofChange Rows.fnDeskWorksSpec) :=
  OpenClaim.holds_of_wide 4 Tryz.f4 rfl rfl rfl rfl rfl rfl rfl ⟨rfl, rfl, rfl, rfl, rfl⟩ rfl rfl rfl rfl rfl (by kernel_rfl) Tryz.func4 facts
    (of_decide_eq_true (by kernel_rfl)) (by unfold Func.isWrapper; first | (rw [if_pos (by decide +kernel)]; kernel_rfl) | (rw [if_neg (by decide +kernel)]; exact ⟨rfl, rfl⟩))
    (λos started H enc _ => lifted os started H enc)
theorem proved : Rows.FnDeskWorksCardSaid :=
  Claim7.holds_tied_plain_at .later [] [.data, .data, .data, .data, .sentinel, .sentinel, .pinned] true (true, "33a2eb935ffc4a73f5aa0d4cb09ebfdab8b47c6c4db74fafad7cbe37a3c88d36") true over (λ_ h => by cases h) (by kernel_rfl) (λ_ h => by cases h) fnDeskWorks_row_tie rfl ⟨rfl, rfl⟩ (by kernel_rfl) rfl
    (λf fn hf CK => by
      obtain rfl : f = 4 := Option.some.inj ((show Tryz.prog.funcNamed Rows.fnDeskWorksRow.func = some 4 by kernel_rfl).symm.trans hf) |>.symm;obtain rfl : fn = Tryz.f4 := (Option.some.inj (Tryz.func4.symm.trans CK)).symm;exact ⟨by kernel_rfl,λj t ht => by
        rw [Tryz.params4] at ht;have hm : t ∈ [31] := List.mem_of_getElem? (i := j) (by simpa using ht);simp only [List.mem_cons, List.mem_nil_iff, or_false] at hm;rcases hm with rfl
        · exact (show Tryz.prog.wantsStandIn 31 = false by kernel_rfl)⟩)
    (by kernel_rfl)
#print axioms proved
end Go.Proofs.YthdljdelfgofdaaGreatDoor.fnDeskWorks
namespace Go.Proofs.YthdljdelfgofdaaGreatDoor
/-- The row, under a short name, for the claim. -/
theorem fnDeskWorks_holds : Rows.FnDeskWorksCardSaid := fnDeskWorks.proved
end Go.Proofs.YthdljdelfgofdaaGreatDoor
