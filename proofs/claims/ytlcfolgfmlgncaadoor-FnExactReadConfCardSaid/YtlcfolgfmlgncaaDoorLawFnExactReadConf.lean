/- The law FnExactReadConf: for every input the call returns true and each argument reads afterwards as it read before; its card: the listed tables of the library tied to the program's text. No condition beyond the given card. -/
import Derived.Test.YtlcfolgfmlgncaaDoorA5
import Derived.Test.YtlcfolgfmlgncaaDoorRows
import Derived.Test.YtlcfolgfmlgncaaDoorHead
import Derived.WalkKit
import Derived.ProofKit
import Derived.OpenShut
import Derived.ShutString
import Derived.ChangeOld
import Derived.Below
import Derived.SizedLaws
import Derived.Carry
import Derived.Test.YtlcfolgfmlgncaaDoorCards
import Derived.Test.YtlcfolgfmlgncaaDoorTie
import Derived.SevenTiedAt
import Derived.Handed
import Derived.HandedShaped
import Derived.LaidLaws
import Derived.LaidHandle
import Derived.Lib.LaidTab
import Derived.Lib.LaidIn
import Derived.Stop.Joined
import Derived.Stop.LaidErr
namespace Go.Proofs.YtlcfolgfmlgncaaDoor.fnExactReadConf
open Go.ChangeShapes Go.WideShapes Go.ChangeAt Go.RowKit Go.Proofs.YtlcfolgfmlgncaaDoor.Ev
open Go.ChangeMaps (open_string shut_string)
set_option linter.unusedVariables false
theorem own : ownKnob Tryd.prog.godebug = none := by kernel_rfl
theorem laidOut : laidOutB Tryd.prog = true := Head.laidOut
theorem trod_lt {H : Type} {enc : TypeId × Value → H} {P : Program} {w : World} {t : TypeId} {v : Value} {x : DataW H} {p : List MemPlace} (h : DataW.Trod enc P w 0 (fun _ => true) true t v x p) : ∀ y ∈ p, y.block < w.heap.size := by
  obtain ⟨m, hm⟩ := h
  exact DataW.trod_lt m _ _ _ hm
def Zme : DataW Unit → List Value
  | .lit (.int k n) => [Value.int k n]
  | _ => []
def Zl8 : DataW Unit → List Value
  | .agg l => l.flatMap Zme
  | x => Zme x
def Zae : DataW Unit → List Value
  | .agg l => l.flatMap Zl8
  | x => Zl8 x
def Zcg (h : Array Obj) (g : Nat) (cs : List Value) : Array Obj := h.modify g fun
  | .cells _ t frozen => .cells cs.toArray t frozen
  | o => o
noncomputable def low : Nat := (World.holding Tryd.prog default ⟨#[], #[], []⟩).heap.size
/-- A world in which the listed variables hold what is listed. -/
noncomputable def laidWorld (os : Os) : World :=
  let w0 := World.holding Tryd.prog os ⟨#[.cells #[.string ⟨#[118, 97, 108, 117, 101, 32, 111, 117, 116, 32, 111, 102, 32, 114, 97, 110, 103, 101]⟩] 129, .cells #[.string ⟨#[105, 110, 118, 97, 108, 105, 100, 32, 115, 121, 110, 116, 97, 120]⟩] 129], #[], []⟩
  { w0 with heap := (Zcg (Zcg (Zcg (Zcg (Zcg (Zcg (Zcg w0.heap 6 (Zae Rows.laid_math_bits_deBruijn32tab)) 7 (Zae Rows.laid_math_bits_deBruijn64tab)) 5 (Zae Rows.laid_internal_strconv_uint64pow10)) 2 (Zae Rows.laid_unicode_utf8_acceptRanges)) 4 [.iface 127 (.pointer (some ⟨low + 0, 0, none⟩))]) 3 [.iface 127 (.pointer (some ⟨low + 1, 0, none⟩))]) 1 (Zae Rows.laid_unicode_utf8_first)) }
theorem Zgs (os : Os) (args : Array Value) : laidMetH Tryd.prog Rows.fnExactReadConfRow.laid ((laidWorld os).forCall (fun _ _ => 0) ⟨#[], args, []⟩).memory :=
  laidMetH_of_parts ((LaidIn.of_run [6, 7, 5, 2, 4, 3, 1, low + 0, low + 1] 8 (by kernel_rfl) (by kernel_rfl) (by kernel_rfl) (by kernel_rfl)).met) (by kernel_rfl)
theorem Zhb {P : Program} {l : List (String × DataW Unit)} {w : World} (h : laidMetH P l w) (hn : (l.filter fun x => x.2.handleName?.isSome) = []) : laidMet P l w := by
  unfold laidMetH at h; rw [hn] at h; exact h
/-- Both what the row lists and the world's shape are handed on. -/
theorem Zhk {H : Type} {enc : TypeId × Value → H} {a : Assume} {C : Checked} {os : Os} {f : FuncId} {fn : Func} {s : ChangeSpec} {conds : List PathCond} {apart fresh handsOn again : Bool} {X : World → Array Value → Prop}
    (hX : ∀ (w w' : World) (args : Array Value), w.heap = w'.heap → X w args → X w' args)
    (own : ownKnob C.prog.godebug = none) (started : os.Started) (noInit : C.prog.inits.idxOf? f = none) (hfn : C.prog.funcs[f]? = some fn)
    (witness : ∃ (w : World) (tape : Tape) (i : Input), w.os = os ∧ (w.forCall tape i).Shaped C.prog ∧ i.vars = [] ∧ Input.okWide C.prog (w.forCall tape i) .any w.heap.size f i ∧
      ((s.pre enc C.prog fn conds apart (w.forCall tape i).memory i.args ∧ X (w.forCall tape i).memory i.args) ∧ sizedMet enc C.prog fn (OpenSpec.ofChange s) apart (w.forCall tape i).memory i.args) ∧ a.holds C.prog (lone (Frame.enter C.prog f i.args .normal) [] (w.forCall tape i)))
    (contract : ∀ (W : World) (base : Nat) (args : Array Value) (ds gs : List (DataW H)) (before : List MemPlace),
      (∀ (j : Nat) t v, fn.params[j]? = some t → args[j]? = some v → Value.okWide C.prog W .any base t v) →
      DataW.Whole enc C.prog fn.params.toList s.vars apart W args.toList ds gs before →
      conds.all (PathCond.test C.prog ⟨fn.params.toList, ds, s.plain.varTypes C.prog, gs⟩) = true →
      (DataW.weightsEach C.prog (fn.params.toList ++ s.plain.varTypes C.prog) (ds ++ gs)).all (· ≤ reachBytes) = true → X W args → W.ShapedOpen C.prog →
      a.holds C.prog (lone (Frame.enter C.prog f args .normal) [] W) →
      Calls C.prog f args W fun e W' => ∃ v, e = .returned v ∧ s.post enc C.prog fn apart fresh handsOn again W args v W') :
    ReturnsInHanded a C os f .any (fun w args => (s.pre enc C.prog fn conds apart w args ∧ X w args) ∧ sizedMet enc C.prog fn (OpenSpec.ofChange s) apart w args) (s.post enc C.prog fn apart fresh handsOn again) := by
  refine returnsInHanded_of_calls own started noInit witness ?_
  intro w tape i _ hsh _ hok hpre hholds
  obtain ⟨_, _, _, fn', hfn', _, _, _, _, hval⟩ := hok
  have e : fn' = fn := Option.some.inj (hfn'.symm.trans hfn)
  subst e
  obtain ⟨⟨⟨ds, gs, before, hw, hc⟩, hx⟩, hz⟩ := hpre
  have hw' := DataW.Whole.of_heap (w' := w.forCall tape i) (by rfl) hw
  refine (contract (w.forCall tape i) w.heap.size i.args ds gs before hval hw' hc (hz.weights hw) (hX _ _ _ (by rfl) hx) hsh hholds).mono fun e W' ⟨v, he, hp⟩ => ?_
  subst he
  exact ChangeSpec.post_blind hp
theorem tabOf {W : World} (hL : laidMetH Tryd.prog Rows.fnExactReadConfRow.laid W) : Lib.TabIs Tryd.prog W "internal/strconv.uint64pow10" .u64 Lib.pow10Tab :=
  Lib.tabIs_of_head (g := 5) (t := 122) (by kernel_rfl) (by kernel_rfl) Tryd.underlying122 Tryd.underlying103 (by kernel_rfl) (by kernel_rfl) (laidMet.tail (laidMet.tail (Zhb hL (by kernel_rfl))))
theorem Zjz {P : Program} {n nm : String} {d : DataW Unit} {r : List (String × DataW Unit)} {W : World} {g : Nat} {ti : TypeId} {ms : Array (String × TypeId)} (h : laidMet P ((n, .iface nm d) :: r) W)
    (hg : P.globalNamed n = some g) (ht : (P.globals[g]?).map (·.type) = some ti) (hi : P.underlying ti = some (.interface ms)) : ∃ ev, W.cell? ⟨g, 0, none⟩ = some ev ∧ (ev = .nilIface ∨ ∃ te pe, ev = .iface te pe) := by
  obtain ⟨ps, ⟨g0, t0, cs0, f0, p0, q0, hg0, ht0, hv0, hd0, _, e0⟩, _, _⟩ := h
  obtain rfl := Option.some.inj (hg.symm.trans hg0)
  obtain rfl := Option.some.inj (ht.symm.trans ht0)
  obtain ⟨l0⟩ := cs0
  obtain ⟨_, u, v, hl, _, _⟩ := iface_of_trod hi hd0
  have hl : l0 = [.iface u v] := hl
  subst hl
  exact ⟨.iface u v, by simpa using World.var?_cell hg0 hv0 0, .inr ⟨u, v, rfl⟩⟩
theorem errR {W : World} (hL : laidMetH Tryd.prog Rows.fnExactReadConfRow.laid W) : ∃ ev, W.cell? ⟨4, 0, none⟩ = some ev ∧ (ev = .nilIface ∨ ∃ te pe, ev = .iface te pe) :=
  Zjz (laidMet.tail (laidMet.tail (laidMet.tail (laidMet.tail (Zhb hL (by kernel_rfl)))))) (by kernel_rfl) (by kernel_rfl) Tryd.underlying72
theorem errS {W : World} (hL : laidMetH Tryd.prog Rows.fnExactReadConfRow.laid W) : ∃ ev, W.cell? ⟨3, 0, none⟩ = some ev ∧ (ev = .nilIface ∨ ∃ te pe, ev = .iface te pe) :=
  Zjz (laidMet.tail (laidMet.tail (laidMet.tail (laidMet.tail (laidMet.tail (Zhb hL (by kernel_rfl))))))) (by kernel_rfl) (by kernel_rfl) Tryd.underlying72
set_option maxRecDepth 100000 in
theorem lifted (os : Os) (started : os.Started) (H : Type) (enc : TypeId × Value → H) :
    ReturnsInHanded {} Tryd.checked os 3 .any (fun w args => (Rows.fnExactReadConfSpec.pre enc Tryd.prog Tryd.f3 Rows.fnExactReadConfRow.domain false w args ∧ laidMetH Tryd.prog Rows.fnExactReadConfRow.laid w) ∧ sizedMet enc Tryd.prog Tryd.f3 (OpenSpec.ofChange Rows.fnExactReadConfSpec) false w args) (Rows.fnExactReadConfSpec.post enc Tryd.prog Tryd.f3 false true false false) := by
  refine Zhk (C := Tryd.checked) (X := fun w _ => laidMetH Tryd.prog Rows.fnExactReadConfRow.laid w) (fun _ _ _ hh h => h.of_heap hh) own started (by kernel_rfl) Tryd.func3
    (ChangeSpec.witness_at (enc := enc) (C := Tryd.checked) (os := os) (X := fun w _ => laidMetH Tryd.prog Rows.fnExactReadConfRow.laid w) false (laidWorld os) #[.string ByteArray.empty] 8 rfl (by kernel_rfl) (by kernel_rfl) (by kernel_rfl) (by kernel_rfl) (by kernel_rfl) (Zgs os _)) ?_
  intro W base args ds gs before hval0 hW hcnd hsz0 hL hsh _
  have hval : ∀ (j : Nat) t v, Tryd.f3.params[j]? = some t → args[j]? = some v → Value.okWide Tryd.prog W .any base t v := hval0
  have hW' := hW
  obtain ⟨p, q, hA0, hV, rfl, hfz, hnd⟩ := hW
  have hA : DataW.TrodAll enc Tryd.prog W 0 (fun _ => true) true Tryd.f3.params.toList args.toList ds p := hA0
  rw [Tryd.params3] at hA hval
  obtain ⟨v0, vs0, d0, ds0, p0, q0, hargs, rfl, rfl, h0, r0⟩ := trodAll_cons hA
  obtain ⟨rfl, rfl, rfl⟩ := trodAll_nil r0
  obtain rfl : args = #[v0] := by cases args; simp_all
  obtain ⟨rfl, rfl⟩ := trodVars_none hV
  obtain ⟨a0, rfl, rfl, rfl, w0⟩ := open_string Tryd.underlying9 (hval 0 9 v0 rfl rfl) h0
  clear hA0 hval0 hsz0
  letI : Anchor := ⟨W⟩
  haveI : ExtOk := { maxLen := Tryd.laysM146.s1_3 W hsh, errS := errS hL, errR := errR hL, tab := tabOf hL }
  have hc := (Zco (Zbm a0 w0)).2
  refine (Zni (us := [.string a0]) rfl (by kernel_rfl) hc rfl (Zo6 (Zod (fun ρ => .lit rfl) Zop))).mono fun e W' ⟨he, bel⟩ => ?_
  subst he
  exact ⟨_, rfl, _, _, _, [], _, [], hW', trodAll_mk1 (shut_bool Tryd.underlying4 _), (trodAll_cons_mk (shut_string Tryd.underlying9 w0) trodAll_mk0), rfl, bel.frame _, fun h => by cases h⟩
theorem uf : Tryd.prog.unfollowed 3 = true := by kernel_rfl
theorem re : Tryd.prog.recurses 3 = true := by
  unfold Program.recurses
  rw [uf]
  rfl
theorem ip : (Rows.fnExactReadConfRow.inPlace == Tryd.prog.inPlace 3) = true := by kernel_rfl
theorem nm : (Rows.fnExactReadConfRow.named == Tryd.prog.varsNamed 3) = true := by kernel_rfl
theorem facts : joinedFacts Tryd.prog 3 Tryd.f3 Rows.fnExactReadConfSpec Rows.fnExactReadConfRow = true := by
  unfold joinedFacts
  rewrite [ip, nm, uf, re, Head.enter, Head.made, Head.lifts, Head.laidOut, Head.maps, Head.heard]
  kernel_rfl
theorem over : Rows.fnExactReadConfRow.holds Tryd.pinned (OpenSpec.ofChange Rows.fnExactReadConfSpec) :=
  OpenClaim.holds_of_wide 3 Tryd.f3 rfl rfl rfl rfl rfl rfl rfl ⟨rfl, rfl, rfl, rfl, rfl⟩ rfl rfl rfl rfl rfl (by kernel_rfl) Tryd.func3 facts
    (of_decide_eq_true (by kernel_rfl)) (by unfold Func.isWrapper; first | (rw [if_pos (by decide +kernel)]; kernel_rfl) | (rw [if_neg (by decide +kernel)]; exact ⟨rfl, rfl⟩))
    (fun os started H enc _ => lifted os started H enc)
theorem proved : Rows.FnExactReadConfCardSaid :=
  Claim7.holds_tied_plain_at .later [] [.data, .data, .data, .data, .sentinel, .sentinel, .pinned] true (true, "a3039307c54d30ccee6e0541253cd66d9974d21fae351b4fc995d83156892b68") true over (fun _ h => by cases h) (by kernel_rfl) (fun _ h => by cases h) fnExactReadConf_row_tie rfl ⟨rfl, rfl⟩ (by kernel_rfl) rfl
    (fun f fn hf hfn => by
      obtain rfl : f = 3 := Option.some.inj ((show Tryd.prog.funcNamed Rows.fnExactReadConfRow.func = some 3 by kernel_rfl).symm.trans hf) |>.symm
      obtain rfl : fn = Tryd.f3 := (Option.some.inj (Tryd.func3.symm.trans hfn)).symm
      exact ⟨by kernel_rfl, fun j t ht => by
        rw [Tryd.params3] at ht
        have hm : t ∈ [9] := List.mem_of_getElem? (i := j) (by simpa using ht)
        simp only [List.mem_cons, List.mem_nil_iff, or_false] at hm
        rcases hm with rfl
        · exact (show Tryd.prog.wantsStandIn 9 = false by kernel_rfl)⟩)
    (by kernel_rfl)
#print axioms proved
end Go.Proofs.YtlcfolgfmlgncaaDoor.fnExactReadConf
namespace Go.Proofs.YtlcfolgfmlgncaaDoor
/-- The row, under a short name, for the claim. -/
theorem fnExactReadConf_holds : Rows.FnExactReadConfCardSaid := fnExactReadConf.proved
end Go.Proofs.YtlcfolgfmlgncaaDoor
