/- The program's functions are those over data (part 1). No condition but those in each line. -/
import Derived.Test.YtolbhpampnjinaaPR
namespace Go.Proofs.Ytolbhpampnjinaa.Ev
open Go Go.Proofs
set_option linter.unusedVariables false
set_option linter.unusedSimpArgs false
def Mo : Hints := ⟨fun f => (List.lookup f [(37, [.iov, .rd]), (44, [.iov, .rd]), (102, [.io]), (72, [.io]), (109, [.io]), (111, [.io, .mv]), (108, [.io]), (110, [.io]), (96, [.io])]).getD [], fun _ => false⟩
theorem funcsOk_of {P : Program} (hm : P.follows .mixedOrders = true) (h : P.funcs.toList.all (fun fn => (match fn.body with | some c => codeDst fn.ntmps c | none => true) && !(fn.name == "runtime.NumGoroutine")) = true) : FuncsOk P := by
  rw [List.all_eq_true] at h
  refine ⟨hm, fun f fn c hf hc => ?_, fun f fn hf => ?_⟩
  · have := h fn (Array.mem_toList_iff.2 (Array.mem_of_getElem? hf))
    rw [hc] at this
    simp only [Bool.and_eq_true] at this
    exact this.1
  · have := h fn (Array.mem_toList_iff.2 (Array.mem_of_getElem? hf))
    simp only [Bool.and_eq_true, Bool.not_eq_true'] at this
    exact this.2
theorem fOk : FuncsOk Try.prog := funcsOk_of (by kernel_rfl) (by kernel_rfl)
theorem cutT {R : Ex → St → Prop} {stk k2 : List It} {s : St} {p : Prop} {l : List (Nat × V)} {h : List (Id × Blk)} {ep : Nat} (f : List (Id × Id)) (n : Nat) (q : List O) (hp : p) (hn : SX Try.prog R k2 .normal (mkS l h ep))
    (e : told (cutK Try.prog Mo f l h n stk s q) = some (p, (k2, renL f l h))) (hb : (isC k2 && cutB f l h ep) = true) : SX Try.prog R stk .normal s := cut_run (M := Mo) fOk f n q hp hn e hb
theorem retT {f : FuncId} {fn : Func} {xs : List V} {y : V × List V} {stk : List It} {s : St} {p : Prop} (n : Nat) (q : List O) (hp : p) (e : told (runK Try.prog Mo f fn xs n stk s q) = some (p, y)) : SX Try.prog (RetC Try.prog Mo f fn xs y) stk .normal s := ret_run fOk n q hp e
theorem fineT {f : FuncId} {fn : Func} {c : Code} {xs : List V} {r : V} {os : List V} (hfn : Try.prog.funcs[f]? = some fn) (hc : fn.body = some c) (hs : (St.enters ⟨fun _ => .undef, fun _ => none, 0⟩ 0 (Mo.modes f) xs).isSome = true)
    (h : SX Try.prog (RetC Try.prog Mo f fn xs (r, os)) [.c c] .normal (entS Mo f xs)) : Fine Try.prog Mo (f, xs, r, os) := fine_run fOk hfn hc hs h
abbrev R_w_szWaveS (x0 : List GWave) (x1 : Int) (r : Int) : Ex → St → Prop := RetC Try.prog Mo 15 Try.f15 [.tr (x0.map GWave.enc), il x1] (il r, [.undef, .undef])

theorem c_w_szWaveS (x0 : List GWave) (x1 : Int) {r : Int} (h : p_w_szWaveS x0 x1 = some r) : Fine Try.prog Mo (15, [.tr (x0.map GWave.enc), il x1], il r, [.undef, .undef]) := by
  refine fineT Try.func15 rfl (by kernel_rfl) ?_
  unfold p_w_szWaveS at h
  rcases ite_some h with ⟨g1, h⟩ | ⟨g1, h⟩
  · have e := Option.some.inj h; subst e
    exact retT 100000 [.num x0.length 0 0 [], .t true] (aa (lenr GWave.enc x0) (aa g1 tt)) (by kernel_rfl)
  · have e := Option.some.inj h; subst e
    exact retT 100000 [.num x0.length 0 0 [], .t false] (aa (lenr GWave.enc x0) (aa g1 tt)) (by kernel_rfl)

abbrev R_w_toWave (x0 : GWave) (r : GWave) : Ex → St → Prop := RetC Try.prog Mo 64 Try.f64 [.agg (GWave.enc x0)] (.agg (GWave.enc r), [.undef])

theorem c_w_toWave (x0 : GWave) {r : GWave} (h : p_w_toWave x0 = some r) : Fine Try.prog Mo (64, [.agg (GWave.enc x0)], .agg (GWave.enc r), [.undef]) := by
  refine fineT Try.func64 rfl (by kernel_rfl) ?_
  unfold p_w_toWave at h
  have e := Option.some.inj h; subst e
  exact retT 100000 [] tt (by kernel_rfl)

abbrev R_w_toWaveS (x0 : List GWave) (r : List GWave) : Ex → St → Prop := RetC Try.prog Mo 17 Try.f17 [.tr (x0.map GWave.enc)] (.own 91 (r.map GWave.enc), [.undef])

theorem c_w_toWaveS__L1 (x0 : List GWave) {r : List GWave} : ∀ (m : Nat) (v3 : List GWave) (v4 : Int), p_w_toWaveS__L1 x0  m v3 v4 = some r → SX Try.prog (R_w_toWaveS x0 r) (at_ [1, 1, 0, 1, 0] (bodyOf Try.f17) []) .normal (mkS [(0, .tr (x0.map GWave.enc)), (3, .sl (1, 1) 0 (v3.map GWave.enc).length), (4, il v4)] [((1, 1), ⟨false, true, true, 91, v3.map GWave.enc⟩)] 1) := by
  intro m
  induction m with
  | zero => intro v3 v4 h; cases h
  | succ m ih =>
    intro v3 v4 h
    replace h : p_w_toWaveS__L1b x0  _ v3 v4 = some r := h
    unfold p_w_toWaveS__L1b at h
    rcases ite_some h with ⟨g1, h⟩ | ⟨g1, h⟩
    · obtain ⟨a504, ha504, h⟩ := bnd_some h
      obtain ⟨r506, hr506, h⟩ := bnd_some h
      obtain ⟨a507, ha507, h⟩ := bnd_some h
      obtain ⟨y508, hy508, h⟩ := bnd_some h
      exact cutT [((1, 1), (1, 1))] 11 [.num x0.length 0 0 [], .t true, .row (v4 : Int).toNat (GWave.enc a504), .res (.agg (GWave.enc r506)) [.undef], .row (v4 : Int).toNat (GWave.enc a507), .put (GWave.enc a507) (y508.map GWave.enc), .num (y508.map GWave.enc).length 0 0 []] (aa (lenr GWave.enc x0) (aa g1 (aa (ixn ha504) (aa (ixr GWave.enc ha504) (aa (c_w_toWave a504 hr506) (aa (ixn ha507) (aa (ixl GWave.enc ha507) (aa (ixr GWave.enc ha507) (aa (ixr GWave.enc ha507) (aa (seto GWave.enc hy508) (aa (setl GWave.enc hy508) tt))))))))))) (ih _ _ h) (by kernel_rfl) (by kernel_rfl)
    · have e := Option.some.inj h; subst e
      exact retT 100000 [.num x0.length 0 0 [], .t false, .k] (aa (lenr GWave.enc x0) (aa g1 (aa (lene GWave.enc v3) tt))) (by kernel_rfl)

theorem c_w_toWaveS (x0 : List GWave) {r : List GWave} (h : p_w_toWaveS x0 = some r) : Fine Try.prog Mo (17, [.tr (x0.map GWave.enc)], .own 91 (r.map GWave.enc), [.undef]) := by
  refine fineT Try.func17 rfl (by kernel_rfl) ?_
  unfold p_w_toWaveS at h
  obtain ⟨m102, hm102, h⟩ := bnd_some h
  exact cutT [((1, 1), (2, 2048))] 8 [.num x0.length 0 0 [], .mk ((x0.length : Int) : Int).toNat (m102.map GWave.enc), .num (m102.map GWave.enc).length 0 0 []] (aa (lenr GWave.enc x0) (aa (mkn hm102) (aa (mkn hm102) (aa (mkl hm102) (aa (mkr GWave.enc hm102) (aa (lene GWave.enc m102) tt)))))) (c_w_toWaveS__L1 x0 _ _ _ h) (by kernel_rfl) (by kernel_rfl)

abbrev R_s_BusyOf (x0 : List GWave) (r : Int) : Ex → St → Prop := RetC Try.prog Mo 16 Try.f16 [.tr (x0.map GWave.enc)] (il r, [.undef])

theorem c_s_BusyOf__L1 (x0 : List GWave) {r : Int} : ∀ (m : Nat) (v3 : Int) (v4 : Int), p_s_BusyOf__L1 x0  m v3 v4 = some r → SX Try.prog (R_s_BusyOf x0 r) (at_ [1, 1, 0, 1, 0] (bodyOf Try.f16) []) .normal (mkS [(0, .tr (x0.map GWave.enc)), (3, il v3), (4, il v4)] [] 1) := by
  intro m
  induction m with
  | zero => intro v3 v4 h; cases h
  | succ m ih =>
    intro v3 v4 h
    replace h : p_s_BusyOf__L1b x0  _ v3 v4 = some r := h
    unfold p_s_BusyOf__L1b at h
    rcases ite_some h with ⟨g1, h⟩ | ⟨g1, h⟩
    · obtain ⟨a502, ha502, h⟩ := bnd_some h
      rcases ite_some h with ⟨g2, h⟩ | ⟨g2, h⟩
      · exact cutT [] 14 [.num x0.length 0 0 [], .t true, .row (v4 : Int).toNat (GWave.enc a502), .t true] (aa (lenr GWave.enc x0) (aa g1 (aa (ixn ha502) (aa (ixr GWave.enc ha502) (aa g2 tt))))) (ih _ _ h) (by kernel_rfl) (by kernel_rfl)
      · exact cutT [] 14 [.num x0.length 0 0 [], .t true, .row (v4 : Int).toNat (GWave.enc a502), .t false] (aa (lenr GWave.enc x0) (aa g1 (aa (ixn ha502) (aa (ixr GWave.enc ha502) (aa g2 tt))))) (ih _ _ h) (by kernel_rfl) (by kernel_rfl)
    · have e := Option.some.inj h; subst e
      exact retT 100000 [.num x0.length 0 0 [], .t false] (aa (lenr GWave.enc x0) (aa g1 tt)) (by kernel_rfl)

theorem c_s_BusyOf (x0 : List GWave) {r : Int} (h : p_s_BusyOf x0 = some r) : Fine Try.prog Mo (16, [.tr (x0.map GWave.enc)], il r, [.undef]) := by
  refine fineT Try.func16 rfl (by kernel_rfl) ?_
  unfold p_s_BusyOf at h
  exact cutT [] 8 [] tt (c_s_BusyOf__L1 x0 _ _ _ h) (by kernel_rfl) (by kernel_rfl)

abbrev R_i_BusyOf_1 (x0 : GWave) (r : Bool) : Ex → St → Prop := RetC Try.prog Mo 66 Try.f66 [.agg (GWave.enc x0)] (bl r, [.undef])

theorem c_i_BusyOf_1 (x0 : GWave) {r : Bool} (h : p_i_BusyOf_1 x0 = some r) : Fine Try.prog Mo (66, [.agg (GWave.enc x0)], bl r, [.undef]) := by
  refine fineT Try.func66 rfl (by kernel_rfl) ?_
  unfold p_i_BusyOf_1 at h
  have e := Option.some.inj h; subst e
  exact retT 100000 [] tt (by kernel_rfl)

abbrev R_i_countOf__i_BusyOf_1 (x0 : List GWave) (r : Int) : Ex → St → Prop := RetC Try.prog Mo 65 Try.f65 [.tr (x0.map GWave.enc), .fn 66 []] (il r, [.undef, .undef])

theorem c_i_countOf__i_BusyOf_1__L1 (x0 : List GWave) {r : Int} : ∀ (m : Nat) (v5 : Int) (v10 : Int), p_i_countOf__i_BusyOf_1__L1 x0  m v5 v10 = some r → SX Try.prog (R_i_countOf__i_BusyOf_1 x0 r) (at_ [1, 1, 0, 1, 0] (bodyOf Try.f65) []) .normal (mkS [(1, .fn 66 []), (5, il v5), (8, .tr (x0.map GWave.enc)), (9, il (x0.length : Int)), (10, il v10)] [] 1) := by
  intro m
  induction m with
  | zero => intro v5 v10 h; cases h
  | succ m ih =>
    intro v5 v10 h
    replace h : p_i_countOf__i_BusyOf_1__L1b x0  _ v5 v10 = some r := h
    unfold p_i_countOf__i_BusyOf_1__L1b at h
    rcases ite_some h with ⟨g1, h⟩ | ⟨g1, h⟩
    · obtain ⟨a400, ha400, h⟩ := bnd_some h
      obtain ⟨r502, hr502, h⟩ := bnd_some h
      rcases ite_some h with ⟨g2, h⟩ | ⟨g2, h⟩
      · exact cutT [] 16 [.t true, .row (v10 : Int).toNat (GWave.enc a400), .res (bl r502) [.undef], .t true] (aa g1 (aa (ixn ha400) (aa (ixr GWave.enc ha400) (aa (c_i_BusyOf_1 a400 hr502) (aa g2 tt))))) (ih _ _ h) (by kernel_rfl) (by kernel_rfl)
      · exact cutT [] 16 [.t true, .row (v10 : Int).toNat (GWave.enc a400), .res (bl r502) [.undef], .t false] (aa g1 (aa (ixn ha400) (aa (ixr GWave.enc ha400) (aa (c_i_BusyOf_1 a400 hr502) (aa g2 tt))))) (ih _ _ h) (by kernel_rfl) (by kernel_rfl)
    · have e := Option.some.inj h; subst e
      exact retT 100000 [.t false] (aa g1 tt) (by kernel_rfl)

theorem c_i_countOf__i_BusyOf_1 (x0 : List GWave) {r : Int} (h : p_i_countOf__i_BusyOf_1 x0 = some r) : Fine Try.prog Mo (65, [.tr (x0.map GWave.enc), .fn 66 []], il r, [.undef, .undef]) := by
  refine fineT Try.func65 rfl (by kernel_rfl) ?_
  unfold p_i_countOf__i_BusyOf_1 at h
  exact cutT [] 8 [.num x0.length 0 0 []] (aa (lenr GWave.enc x0) tt) (c_i_countOf__i_BusyOf_1__L1 x0 _ _ _ h) (by kernel_rfl) (by kernel_rfl)

abbrev R_i_BusyOf (x0 : List GWave) (r : Int) : Ex → St → Prop := RetC Try.prog Mo 18 Try.f18 [.tr (x0.map GWave.enc)] (il r, [.undef])

theorem c_i_BusyOf (x0 : List GWave) {r : Int} (h : p_i_BusyOf x0 = some r) : Fine Try.prog Mo (18, [.tr (x0.map GWave.enc)], il r, [.undef]) := by
  refine fineT Try.func18 rfl (by kernel_rfl) ?_
  unfold p_i_BusyOf at h
  obtain ⟨r101, hr101, h⟩ := bnd_some h
  have e := Option.some.inj h; subst e
  exact retT 100000 [.res (il r101) [.undef, .undef]] (aa (c_i_countOf__i_BusyOf_1 x0 hr101) tt) (by kernel_rfl)

abbrev R_w_eqWave (x0 : GWave) (x1 : GWave) (r : Bool) : Ex → St → Prop := RetC Try.prog Mo 67 Try.f67 [.agg (GWave.enc x0), .agg (GWave.enc x1)] (bl r, [.undef, .undef])

theorem c_w_eqWave (x0 : GWave) (x1 : GWave) {r : Bool} (h : p_w_eqWave x0 x1 = some r) : Fine Try.prog Mo (67, [.agg (GWave.enc x0), .agg (GWave.enc x1)], bl r, [.undef, .undef]) := by
  refine fineT Try.func67 rfl (by kernel_rfl) ?_
  unfold p_w_eqWave at h
  rcases ite_some h with ⟨g1, h⟩ | ⟨g1, h⟩
  · have e := Option.some.inj h; subst e
    exact retT 100000 [.t true] (aa g1 tt) (by kernel_rfl)
  · rcases ite_some h with ⟨g2, h⟩ | ⟨g2, h⟩
    · have e := Option.some.inj h; subst e
      exact retT 100000 [.t false, .t true] (aa g1 (aa g2 tt)) (by kernel_rfl)
    · rcases ite_some h with ⟨g3, h⟩ | ⟨g3, h⟩
      · have e := Option.some.inj h; subst e
        exact retT 100000 [.t false, .t false, .t true] (aa g1 (aa g2 (aa g3 tt))) (by kernel_rfl)
      · rcases ite_some h with ⟨g4, h⟩ | ⟨g4, h⟩
        · have e := Option.some.inj h; subst e
          exact retT 100000 [.t false, .t false, .t false, .t true] (aa g1 (aa g2 (aa g3 (aa g4 tt)))) (by kernel_rfl)
        · rcases ite_some h with ⟨g5, h⟩ | ⟨g5, h⟩
          · have e := Option.some.inj h; subst e
            exact retT 100000 [.t false, .t false, .t false, .t false, .t true] (aa g1 (aa g2 (aa g3 (aa g4 (aa g5 tt))))) (by kernel_rfl)
          · rcases ite_some h with ⟨g6, h⟩ | ⟨g6, h⟩
            · have e := Option.some.inj h; subst e
              exact retT 100000 [.t false, .t false, .t false, .t false, .t false, .t true] (aa g1 (aa g2 (aa g3 (aa g4 (aa g5 (aa g6 tt)))))) (by kernel_rfl)
            · rcases ite_some h with ⟨g7, h⟩ | ⟨g7, h⟩
              · have e := Option.some.inj h; subst e
                exact retT 100000 [.t false, .t false, .t false, .t false, .t false, .t false, .t true] (aa g1 (aa g2 (aa g3 (aa g4 (aa g5 (aa g6 (aa g7 tt))))))) (by kernel_rfl)
              · rcases ite_some h with ⟨g8, h⟩ | ⟨g8, h⟩
                · have e := Option.some.inj h; subst e
                  exact retT 100000 [.t false, .t false, .t false, .t false, .t false, .t false, .t false, .t true] (aa g1 (aa g2 (aa g3 (aa g4 (aa g5 (aa g6 (aa g7 (aa g8 tt)))))))) (by kernel_rfl)
                · rcases ite_some h with ⟨g9, h⟩ | ⟨g9, h⟩
                  · have e := Option.some.inj h; subst e
                    exact retT 100000 [.t false, .t false, .t false, .t false, .t false, .t false, .t false, .t false, .t true] (aa g1 (aa g2 (aa g3 (aa g4 (aa g5 (aa g6 (aa g7 (aa g8 (aa g9 tt))))))))) (by kernel_rfl)
                  · have e := Option.some.inj h; subst e
                    exact retT 100000 [.t false, .t false, .t false, .t false, .t false, .t false, .t false, .t false, .t false] (aa g1 (aa g2 (aa g3 (aa g4 (aa g5 (aa g6 (aa g7 (aa g8 (aa g9 tt))))))))) (by kernel_rfl)

abbrev R_w_eqWaveS (x0 : List GWave) (x1 : List GWave) (r : Bool) : Ex → St → Prop := RetC Try.prog Mo 19 Try.f19 [.tr (x0.map GWave.enc), .tr (x1.map GWave.enc)] (bl r, [.undef, .undef])

theorem c_w_eqWaveS__L1 (x0 : List GWave) (x1 : List GWave) {r : Bool} : ∀ (m : Nat) (v5 : Int), p_w_eqWaveS__L1 x0 x1  m v5 = some r → SX Try.prog (R_w_eqWaveS x0 x1 r) (at_ [1, 1, 0, 1, 0] (bodyOf Try.f19) []) .normal (mkS [(0, .tr (x0.map GWave.enc)), (1, .tr (x1.map GWave.enc)), (5, il v5)] [] 1) := by
  intro m
  induction m with
  | zero => intro v5 h; cases h
  | succ m ih =>
    intro v5 h
    replace h : p_w_eqWaveS__L1b x0 x1  _ v5 = some r := h
    unfold p_w_eqWaveS__L1b at h
    rcases ite_some h with ⟨g1, h⟩ | ⟨g1, h⟩
    · obtain ⟨a602, ha602, h⟩ := bnd_some h
      obtain ⟨a606, ha606, h⟩ := bnd_some h
      obtain ⟨r608, hr608, h⟩ := bnd_some h
      rcases ite_some h with ⟨g2, h⟩ | ⟨g2, h⟩
      · have e := Option.some.inj h; subst e
        exact retT 100000 [.num x0.length 0 0 [], .t true, .row (v5 : Int).toNat (GWave.enc a602), .row (v5 : Int).toNat (GWave.enc a606), .res (bl r608) [.undef, .undef], .t true] (aa (lenr GWave.enc x0) (aa g1 (aa (ixn ha602) (aa (ixr GWave.enc ha602) (aa (ixn ha606) (aa (ixr GWave.enc ha606) (aa (c_w_eqWave a602 a606 hr608) (aa g2 tt)))))))) (by kernel_rfl)
      · exact cutT [] 14 [.num x0.length 0 0 [], .t true, .row (v5 : Int).toNat (GWave.enc a602), .row (v5 : Int).toNat (GWave.enc a606), .res (bl r608) [.undef, .undef], .t false] (aa (lenr GWave.enc x0) (aa g1 (aa (ixn ha602) (aa (ixr GWave.enc ha602) (aa (ixn ha606) (aa (ixr GWave.enc ha606) (aa (c_w_eqWave a602 a606 hr608) (aa g2 tt)))))))) (ih _ h) (by kernel_rfl) (by kernel_rfl)
    · have e := Option.some.inj h; subst e
      exact retT 100000 [.num x0.length 0 0 [], .t false] (aa (lenr GWave.enc x0) (aa g1 tt)) (by kernel_rfl)

theorem c_w_eqWaveS (x0 : List GWave) (x1 : List GWave) {r : Bool} (h : p_w_eqWaveS x0 x1 = some r) : Fine Try.prog Mo (19, [.tr (x0.map GWave.enc), .tr (x1.map GWave.enc)], bl r, [.undef, .undef]) := by
  refine fineT Try.func19 rfl (by kernel_rfl) ?_
  unfold p_w_eqWaveS at h
  rcases ite_some h with ⟨g1, h⟩ | ⟨g1, h⟩
  · have e := Option.some.inj h; subst e
    exact retT 100000 [.num x0.length 0 0 [], .num x1.length 0 0 [], .t true] (aa (lenr GWave.enc x0) (aa (lenr GWave.enc x1) (aa g1 tt))) (by kernel_rfl)
  · exact cutT [] 11 [.num x0.length 0 0 [], .num x1.length 0 0 [], .t false] (aa (lenr GWave.enc x0) (aa (lenr GWave.enc x1) (aa g1 tt))) (c_w_eqWaveS__L1 x0 x1 _ _ h) (by kernel_rfl) (by kernel_rfl)

abbrev R_w_FnExactBusyOf (x0 : List GWave) (r : Bool) : Ex → St → Prop := RetC Try.prog Mo 3 Try.f3 [.tr (x0.map GWave.enc)] (bl r, [.undef])

theorem c_w_FnExactBusyOf (x0 : List GWave) {r : Bool} (h : p_w_FnExactBusyOf x0 = some r) : Fine Try.prog Mo (3, [.tr (x0.map GWave.enc)], bl r, [.undef]) := by
  refine fineT Try.func3 rfl (by kernel_rfl) ?_
  unfold p_w_FnExactBusyOf at h
  obtain ⟨r202, hr202, h⟩ := bnd_some h
  rcases ite_some h with ⟨g1, h⟩ | ⟨g1, h⟩
  · have e := Option.some.inj h; subst e
    exact retT 100000 [.res (il r202) [.undef, .undef], .t true] (aa (c_w_szWaveS x0 1048576 hr202) (aa g1 tt)) (by kernel_rfl)
  · obtain ⟨r501, hr501, h⟩ := bnd_some h
    obtain ⟨r502, hr502, h⟩ := bnd_some h
    obtain ⟨r601, hr601, h⟩ := bnd_some h
    obtain ⟨r701, hr701, h⟩ := bnd_some h
    rcases ite_some h with ⟨g2, h⟩ | ⟨g2, h⟩
    · have e := Option.some.inj h; subst e
      exact retT 100000 [.res (il r202) [.undef, .undef], .t false, .res (.own 91 (r501.map GWave.enc)) [.undef], .k, .res (il r502) [.undef], .res (.own 91 (r601.map GWave.enc)) [.undef], .k, .res (il r701) [.undef], .t true] (aa (c_w_szWaveS x0 1048576 hr202) (aa g1 (aa (c_w_toWaveS x0 hr501) (aa (lene GWave.enc r501) (aa (c_s_BusyOf r501 hr502) (aa (c_w_toWaveS x0 hr601) (aa (lene GWave.enc r601) (aa (c_i_BusyOf r601 hr701) (aa g2 tt))))))))) (by kernel_rfl)
    · obtain ⟨r1002, hr1002, h⟩ := bnd_some h
      obtain ⟨r1003, hr1003, h⟩ := bnd_some h
      rcases ite_some h with ⟨g3, h⟩ | ⟨g3, h⟩
      · have e := Option.some.inj h; subst e
        exact retT 100000 [.res (il r202) [.undef, .undef], .t false, .res (.own 91 (r501.map GWave.enc)) [.undef], .k, .res (il r502) [.undef], .res (.own 91 (r601.map GWave.enc)) [.undef], .k, .res (il r701) [.undef], .t false, .res (.own 91 (r1002.map GWave.enc)) [.undef], .k, .k, .res (bl r1003) [.undef, .undef], .t true] (aa (c_w_szWaveS x0 1048576 hr202) (aa g1 (aa (c_w_toWaveS x0 hr501) (aa (lene GWave.enc r501) (aa (c_s_BusyOf r501 hr502) (aa (c_w_toWaveS x0 hr601) (aa (lene GWave.enc r601) (aa (c_i_BusyOf r601 hr701) (aa g2 (aa (c_w_toWaveS x0 hr1002) (aa (lene GWave.enc r601) (aa (lene GWave.enc r1002) (aa (c_w_eqWaveS r601 r1002 hr1003) (aa g3 tt)))))))))))))) (by kernel_rfl)
      · have e := Option.some.inj h; subst e
        exact retT 100000 [.res (il r202) [.undef, .undef], .t false, .res (.own 91 (r501.map GWave.enc)) [.undef], .k, .res (il r502) [.undef], .res (.own 91 (r601.map GWave.enc)) [.undef], .k, .res (il r701) [.undef], .t false, .res (.own 91 (r1002.map GWave.enc)) [.undef], .k, .k, .res (bl r1003) [.undef, .undef], .t false] (aa (c_w_szWaveS x0 1048576 hr202) (aa g1 (aa (c_w_toWaveS x0 hr501) (aa (lene GWave.enc r501) (aa (c_s_BusyOf r501 hr502) (aa (c_w_toWaveS x0 hr601) (aa (lene GWave.enc r601) (aa (c_i_BusyOf r601 hr701) (aa g2 (aa (c_w_toWaveS x0 hr1002) (aa (lene GWave.enc r601) (aa (lene GWave.enc r1002) (aa (c_w_eqWaveS r601 r1002 hr1003) (aa g3 tt)))))))))))))) (by kernel_rfl)

abbrev R_s_Cancelled (x0 : List GWave) (r : Int) : Ex → St → Prop := RetC Try.prog Mo 20 Try.f20 [.tr (x0.map GWave.enc)] (il r, [.undef])

theorem c_s_Cancelled__L1 (x0 : List GWave) {r : Int} : ∀ (m : Nat) (v3 : Int) (v4 : Int), p_s_Cancelled__L1 x0  m v3 v4 = some r → SX Try.prog (R_s_Cancelled x0 r) (at_ [1, 1, 0, 1, 0] (bodyOf Try.f20) []) .normal (mkS [(0, .tr (x0.map GWave.enc)), (3, il v3), (4, il v4)] [] 1) := by
  intro m
  induction m with
  | zero => intro v3 v4 h; cases h
  | succ m ih =>
    intro v3 v4 h
    replace h : p_s_Cancelled__L1b x0  _ v3 v4 = some r := h
    unfold p_s_Cancelled__L1b at h
    rcases ite_some h with ⟨g1, h⟩ | ⟨g1, h⟩
    · obtain ⟨a502, ha502, h⟩ := bnd_some h
      rcases ite_some h with ⟨g2, h⟩ | ⟨g2, h⟩
      · rcases ite_some h with ⟨g3, h⟩ | ⟨g3, h⟩
        · rcases ite_some h with ⟨g4, h⟩ | ⟨g4, h⟩
          · exact cutT [] 14 [.num x0.length 0 0 [], .t true, .row (v4 : Int).toNat (GWave.enc a502), .t true, .k, .k, .row (v4 : Int).toNat (GWave.enc a502), .k, .k, .k, .k, .t true, .k, .k, .row (v4 : Int).toNat (GWave.enc a502), .k, .k, .k, .k, .t true] (aa (lenr GWave.enc x0) (aa g1 (aa (ixn ha502) (aa (ixr GWave.enc ha502) (aa g2 (aa (ixn ha502) (aa (ixr GWave.enc ha502) (aa g3 (aa (ixn ha502) (aa (ixr GWave.enc ha502) (aa g4 tt))))))))))) (ih _ _ h) (by kernel_rfl) (by kernel_rfl)
          · exact cutT [] 14 [.num x0.length 0 0 [], .t true, .row (v4 : Int).toNat (GWave.enc a502), .t true, .k, .k, .row (v4 : Int).toNat (GWave.enc a502), .k, .k, .k, .k, .t true, .k, .k, .row (v4 : Int).toNat (GWave.enc a502), .k, .k, .k, .k, .t false] (aa (lenr GWave.enc x0) (aa g1 (aa (ixn ha502) (aa (ixr GWave.enc ha502) (aa g2 (aa (ixn ha502) (aa (ixr GWave.enc ha502) (aa g3 (aa (ixn ha502) (aa (ixr GWave.enc ha502) (aa g4 tt))))))))))) (ih _ _ h) (by kernel_rfl) (by kernel_rfl)
        · exact cutT [] 14 [.num x0.length 0 0 [], .t true, .row (v4 : Int).toNat (GWave.enc a502), .t true, .k, .k, .row (v4 : Int).toNat (GWave.enc a502), .k, .k, .k, .k, .t false, .k, .k, .k, .k, .k, .k, .k] (aa (lenr GWave.enc x0) (aa g1 (aa (ixn ha502) (aa (ixr GWave.enc ha502) (aa g2 (aa (ixn ha502) (aa (ixr GWave.enc ha502) (aa g3 tt)))))))) (ih _ _ h) (by kernel_rfl) (by kernel_rfl)
      · exact cutT [] 14 [.num x0.length 0 0 [], .t true, .row (v4 : Int).toNat (GWave.enc a502), .t false, .k, .k, .k, .k, .k, .k, .k, .k, .k, .k, .k, .k, .k, .k] (aa (lenr GWave.enc x0) (aa g1 (aa (ixn ha502) (aa (ixr GWave.enc ha502) (aa g2 tt))))) (ih _ _ h) (by kernel_rfl) (by kernel_rfl)
    · have e := Option.some.inj h; subst e
      exact retT 100000 [.num x0.length 0 0 [], .t false] (aa (lenr GWave.enc x0) (aa g1 tt)) (by kernel_rfl)

theorem c_s_Cancelled (x0 : List GWave) {r : Int} (h : p_s_Cancelled x0 = some r) : Fine Try.prog Mo (20, [.tr (x0.map GWave.enc)], il r, [.undef]) := by
  refine fineT Try.func20 rfl (by kernel_rfl) ?_
  unfold p_s_Cancelled at h
  exact cutT [] 8 [] tt (c_s_Cancelled__L1 x0 _ _ _ h) (by kernel_rfl) (by kernel_rfl)

abbrev R_i_Cancelled_1 (x0 : GWave) (r : Bool) : Ex → St → Prop := RetC Try.prog Mo 68 Try.f68 [.agg (GWave.enc x0)] (bl r, [.undef])

theorem c_i_Cancelled_1 (x0 : GWave) {r : Bool} (h : p_i_Cancelled_1 x0 = some r) : Fine Try.prog Mo (68, [.agg (GWave.enc x0)], bl r, [.undef]) := by
  refine fineT Try.func68 rfl (by kernel_rfl) ?_
  unfold p_i_Cancelled_1 at h
  rcases ite_some h with ⟨g1, h⟩ | ⟨g1, h⟩
  · rcases ite_some h with ⟨g2, h⟩ | ⟨g2, h⟩
    · have e := Option.some.inj h; subst e
      exact retT 100000 [.t true, .k, .k, .k, .t true, .k, .k, .k] (aa g1 (aa g2 tt)) (by kernel_rfl)
    · have e := Option.some.inj h; subst e
      exact retT 100000 [.t true, .k, .k, .k, .t false, .k, .k, .k] (aa g1 (aa g2 tt)) (by kernel_rfl)
  · have e := Option.some.inj h; subst e
    exact retT 100000 [.t false, .k, .k, .k, .k, .k, .k, .k] (aa g1 tt) (by kernel_rfl)

abbrev R_i_countOf__i_Cancelled_1 (x0 : List GWave) (r : Int) : Ex → St → Prop := RetC Try.prog Mo 65 Try.f65 [.tr (x0.map GWave.enc), .fn 68 []] (il r, [.undef, .undef])

theorem c_i_countOf__i_Cancelled_1__L1 (x0 : List GWave) {r : Int} : ∀ (m : Nat) (v5 : Int) (v10 : Int), p_i_countOf__i_Cancelled_1__L1 x0  m v5 v10 = some r → SX Try.prog (R_i_countOf__i_Cancelled_1 x0 r) (at_ [1, 1, 0, 1, 0] (bodyOf Try.f65) []) .normal (mkS [(1, .fn 68 []), (5, il v5), (8, .tr (x0.map GWave.enc)), (9, il (x0.length : Int)), (10, il v10)] [] 1) := by
  intro m
  induction m with
  | zero => intro v5 v10 h; cases h
  | succ m ih =>
    intro v5 v10 h
    replace h : p_i_countOf__i_Cancelled_1__L1b x0  _ v5 v10 = some r := h
    unfold p_i_countOf__i_Cancelled_1__L1b at h
    rcases ite_some h with ⟨g1, h⟩ | ⟨g1, h⟩
    · obtain ⟨a400, ha400, h⟩ := bnd_some h
      obtain ⟨r502, hr502, h⟩ := bnd_some h
      rcases ite_some h with ⟨g2, h⟩ | ⟨g2, h⟩
      · exact cutT [] 16 [.t true, .row (v10 : Int).toNat (GWave.enc a400), .res (bl r502) [.undef], .t true] (aa g1 (aa (ixn ha400) (aa (ixr GWave.enc ha400) (aa (c_i_Cancelled_1 a400 hr502) (aa g2 tt))))) (ih _ _ h) (by kernel_rfl) (by kernel_rfl)
      · exact cutT [] 16 [.t true, .row (v10 : Int).toNat (GWave.enc a400), .res (bl r502) [.undef], .t false] (aa g1 (aa (ixn ha400) (aa (ixr GWave.enc ha400) (aa (c_i_Cancelled_1 a400 hr502) (aa g2 tt))))) (ih _ _ h) (by kernel_rfl) (by kernel_rfl)
    · have e := Option.some.inj h; subst e
      exact retT 100000 [.t false] (aa g1 tt) (by kernel_rfl)

theorem c_i_countOf__i_Cancelled_1 (x0 : List GWave) {r : Int} (h : p_i_countOf__i_Cancelled_1 x0 = some r) : Fine Try.prog Mo (65, [.tr (x0.map GWave.enc), .fn 68 []], il r, [.undef, .undef]) := by
  refine fineT Try.func65 rfl (by kernel_rfl) ?_
  unfold p_i_countOf__i_Cancelled_1 at h
  exact cutT [] 8 [.num x0.length 0 0 []] (aa (lenr GWave.enc x0) tt) (c_i_countOf__i_Cancelled_1__L1 x0 _ _ _ h) (by kernel_rfl) (by kernel_rfl)

abbrev R_i_Cancelled (x0 : List GWave) (r : Int) : Ex → St → Prop := RetC Try.prog Mo 21 Try.f21 [.tr (x0.map GWave.enc)] (il r, [.undef])

theorem c_i_Cancelled (x0 : List GWave) {r : Int} (h : p_i_Cancelled x0 = some r) : Fine Try.prog Mo (21, [.tr (x0.map GWave.enc)], il r, [.undef]) := by
  refine fineT Try.func21 rfl (by kernel_rfl) ?_
  unfold p_i_Cancelled at h
  obtain ⟨r101, hr101, h⟩ := bnd_some h
  have e := Option.some.inj h; subst e
  exact retT 100000 [.res (il r101) [.undef, .undef]] (aa (c_i_countOf__i_Cancelled_1 x0 hr101) tt) (by kernel_rfl)

abbrev R_w_FnExactCancelled (x0 : List GWave) (r : Bool) : Ex → St → Prop := RetC Try.prog Mo 4 Try.f4 [.tr (x0.map GWave.enc)] (bl r, [.undef])

theorem c_w_FnExactCancelled (x0 : List GWave) {r : Bool} (h : p_w_FnExactCancelled x0 = some r) : Fine Try.prog Mo (4, [.tr (x0.map GWave.enc)], bl r, [.undef]) := by
  refine fineT Try.func4 rfl (by kernel_rfl) ?_
  unfold p_w_FnExactCancelled at h
  obtain ⟨r202, hr202, h⟩ := bnd_some h
  rcases ite_some h with ⟨g1, h⟩ | ⟨g1, h⟩
  · have e := Option.some.inj h; subst e
    exact retT 100000 [.res (il r202) [.undef, .undef], .t true] (aa (c_w_szWaveS x0 1048576 hr202) (aa g1 tt)) (by kernel_rfl)
  · obtain ⟨r501, hr501, h⟩ := bnd_some h
    obtain ⟨r502, hr502, h⟩ := bnd_some h
    obtain ⟨r601, hr601, h⟩ := bnd_some h
    obtain ⟨r701, hr701, h⟩ := bnd_some h
    rcases ite_some h with ⟨g2, h⟩ | ⟨g2, h⟩
    · have e := Option.some.inj h; subst e
      exact retT 100000 [.res (il r202) [.undef, .undef], .t false, .res (.own 91 (r501.map GWave.enc)) [.undef], .k, .res (il r502) [.undef], .res (.own 91 (r601.map GWave.enc)) [.undef], .k, .res (il r701) [.undef], .t true] (aa (c_w_szWaveS x0 1048576 hr202) (aa g1 (aa (c_w_toWaveS x0 hr501) (aa (lene GWave.enc r501) (aa (c_s_Cancelled r501 hr502) (aa (c_w_toWaveS x0 hr601) (aa (lene GWave.enc r601) (aa (c_i_Cancelled r601 hr701) (aa g2 tt))))))))) (by kernel_rfl)
    · obtain ⟨r1002, hr1002, h⟩ := bnd_some h
      obtain ⟨r1003, hr1003, h⟩ := bnd_some h
      rcases ite_some h with ⟨g3, h⟩ | ⟨g3, h⟩
      · have e := Option.some.inj h; subst e
        exact retT 100000 [.res (il r202) [.undef, .undef], .t false, .res (.own 91 (r501.map GWave.enc)) [.undef], .k, .res (il r502) [.undef], .res (.own 91 (r601.map GWave.enc)) [.undef], .k, .res (il r701) [.undef], .t false, .res (.own 91 (r1002.map GWave.enc)) [.undef], .k, .k, .res (bl r1003) [.undef, .undef], .t true] (aa (c_w_szWaveS x0 1048576 hr202) (aa g1 (aa (c_w_toWaveS x0 hr501) (aa (lene GWave.enc r501) (aa (c_s_Cancelled r501 hr502) (aa (c_w_toWaveS x0 hr601) (aa (lene GWave.enc r601) (aa (c_i_Cancelled r601 hr701) (aa g2 (aa (c_w_toWaveS x0 hr1002) (aa (lene GWave.enc r601) (aa (lene GWave.enc r1002) (aa (c_w_eqWaveS r601 r1002 hr1003) (aa g3 tt)))))))))))))) (by kernel_rfl)
      · have e := Option.some.inj h; subst e
        exact retT 100000 [.res (il r202) [.undef, .undef], .t false, .res (.own 91 (r501.map GWave.enc)) [.undef], .k, .res (il r502) [.undef], .res (.own 91 (r601.map GWave.enc)) [.undef], .k, .res (il r701) [.undef], .t false, .res (.own 91 (r1002.map GWave.enc)) [.undef], .k, .k, .res (bl r1003) [.undef, .undef], .t false] (aa (c_w_szWaveS x0 1048576 hr202) (aa g1 (aa (c_w_toWaveS x0 hr501) (aa (lene GWave.enc r501) (aa (c_s_Cancelled r501 hr502) (aa (c_w_toWaveS x0 hr601) (aa (lene GWave.enc r601) (aa (c_i_Cancelled r601 hr701) (aa g2 (aa (c_w_toWaveS x0 hr1002) (aa (lene GWave.enc r601) (aa (lene GWave.enc r1002) (aa (c_w_eqWaveS r601 r1002 hr1003) (aa g3 tt)))))))))))))) (by kernel_rfl)

abbrev R_s_CountResp (x0 : List GWave) (x1 : Int) (r : Int) : Ex → St → Prop := RetC Try.prog Mo 22 Try.f22 [.tr (x0.map GWave.enc), il x1] (il r, [.undef, .undef])

theorem c_s_CountResp__L1 (x0 : List GWave) (x1 : Int) {r : Int} : ∀ (m : Nat) (v5 : Int) (v6 : Int), p_s_CountResp__L1 x0 x1  m v5 v6 = some r → SX Try.prog (R_s_CountResp x0 x1 r) (at_ [1, 1, 0, 1, 0] (bodyOf Try.f22) []) .normal (mkS [(0, .tr (x0.map GWave.enc)), (1, il x1), (5, il v5), (6, il v6)] [] 1) := by
  intro m
  induction m with
  | zero => intro v5 v6 h; cases h
  | succ m ih =>
    intro v5 v6 h
    replace h : p_s_CountResp__L1b x0 x1  _ v5 v6 = some r := h
    unfold p_s_CountResp__L1b at h
    rcases ite_some h with ⟨g1, h⟩ | ⟨g1, h⟩
    · obtain ⟨a502, ha502, h⟩ := bnd_some h
      rcases ite_some h with ⟨g2, h⟩ | ⟨g2, h⟩
      · rcases ite_some h with ⟨g3, h⟩ | ⟨g3, h⟩
        · rcases ite_some h with ⟨g4, h⟩ | ⟨g4, h⟩
          · exact cutT [] 14 [.num x0.length 0 0 [], .t true, .row (v6 : Int).toNat (GWave.enc a502), .t true, .k, .k, .row (v6 : Int).toNat (GWave.enc a502), .k, .k, .k, .k, .t true, .k, .k, .row (v6 : Int).toNat (GWave.enc a502), .k, .k, .k, .k, .k, .t true] (aa (lenr GWave.enc x0) (aa g1 (aa (ixn ha502) (aa (ixr GWave.enc ha502) (aa g2 (aa (ixn ha502) (aa (ixr GWave.enc ha502) (aa g3 (aa (ixn ha502) (aa (ixr GWave.enc ha502) (aa g4 tt))))))))))) (ih _ _ h) (by kernel_rfl) (by kernel_rfl)
          · exact cutT [] 14 [.num x0.length 0 0 [], .t true, .row (v6 : Int).toNat (GWave.enc a502), .t true, .k, .k, .row (v6 : Int).toNat (GWave.enc a502), .k, .k, .k, .k, .t true, .k, .k, .row (v6 : Int).toNat (GWave.enc a502), .k, .k, .k, .k, .k, .t false] (aa (lenr GWave.enc x0) (aa g1 (aa (ixn ha502) (aa (ixr GWave.enc ha502) (aa g2 (aa (ixn ha502) (aa (ixr GWave.enc ha502) (aa g3 (aa (ixn ha502) (aa (ixr GWave.enc ha502) (aa g4 tt))))))))))) (ih _ _ h) (by kernel_rfl) (by kernel_rfl)
        · exact cutT [] 14 [.num x0.length 0 0 [], .t true, .row (v6 : Int).toNat (GWave.enc a502), .t true, .k, .k, .row (v6 : Int).toNat (GWave.enc a502), .k, .k, .k, .k, .t false, .k, .k, .k, .k, .k, .k, .k, .k] (aa (lenr GWave.enc x0) (aa g1 (aa (ixn ha502) (aa (ixr GWave.enc ha502) (aa g2 (aa (ixn ha502) (aa (ixr GWave.enc ha502) (aa g3 tt)))))))) (ih _ _ h) (by kernel_rfl) (by kernel_rfl)
      · exact cutT [] 14 [.num x0.length 0 0 [], .t true, .row (v6 : Int).toNat (GWave.enc a502), .t false, .k, .k, .k, .k, .k, .k, .k, .k, .k, .k, .k, .k, .k, .k, .k] (aa (lenr GWave.enc x0) (aa g1 (aa (ixn ha502) (aa (ixr GWave.enc ha502) (aa g2 tt))))) (ih _ _ h) (by kernel_rfl) (by kernel_rfl)
    · have e := Option.some.inj h; subst e
      exact retT 100000 [.num x0.length 0 0 [], .t false] (aa (lenr GWave.enc x0) (aa g1 tt)) (by kernel_rfl)

theorem c_s_CountResp (x0 : List GWave) (x1 : Int) {r : Int} (h : p_s_CountResp x0 x1 = some r) : Fine Try.prog Mo (22, [.tr (x0.map GWave.enc), il x1], il r, [.undef, .undef]) := by
  refine fineT Try.func22 rfl (by kernel_rfl) ?_
  unfold p_s_CountResp at h
  exact cutT [] 8 [] tt (c_s_CountResp__L1 x0 x1 _ _ _ h) (by kernel_rfl) (by kernel_rfl)

abbrev R_i_CountResp_1 (x0 : GWave) (x1 : Int) (r : Bool) : Ex → St → Prop := RetC Try.prog Mo 69 Try.f69 [.agg (GWave.enc x0), .rp true [il x1] 0] (bl r, [.undef, .undef])

theorem c_i_CountResp_1 (x0 : GWave) (x1 : Int) {r : Bool} (h : p_i_CountResp_1 x0 x1 = some r) : Fine Try.prog Mo (69, [.agg (GWave.enc x0), .rp true [il x1] 0], bl r, [.undef, .undef]) := by
  refine fineT Try.func69 rfl (by kernel_rfl) ?_
  unfold p_i_CountResp_1 at h
  rcases ite_some h with ⟨g1, h⟩ | ⟨g1, h⟩
  · rcases ite_some h with ⟨g2, h⟩ | ⟨g2, h⟩
    · have e := Option.some.inj h; subst e
      exact retT 100000 [.t true, .k, .k, .k, .t true, .k, .k, .k, .k] (aa g1 (aa g2 tt)) (by kernel_rfl)
    · have e := Option.some.inj h; subst e
      exact retT 100000 [.t true, .k, .k, .k, .t false, .k, .k, .k, .k] (aa g1 (aa g2 tt)) (by kernel_rfl)
  · have e := Option.some.inj h; subst e
    exact retT 100000 [.t false, .k, .k, .k, .k, .k, .k, .k, .k] (aa g1 tt) (by kernel_rfl)

abbrev R_i_countOf__i_CountResp_1 (x0 : List GWave) (x1c0 : Int) (r : Int) : Ex → St → Prop := RetC Try.prog Mo 65 Try.f65 [.tr (x0.map GWave.enc), .fn 69 [.rp true [il x1c0] 0]] (il r, [.undef, .undef])

theorem c_i_countOf__i_CountResp_1__L1 (x0 : List GWave) (x1c0 : Int) {r : Int} : ∀ (m : Nat) (v5 : Int) (v10 : Int), p_i_countOf__i_CountResp_1__L1 x0 x1c0  m v5 v10 = some r → SX Try.prog (R_i_countOf__i_CountResp_1 x0 x1c0 r) (at_ [1, 1, 0, 1, 0] (bodyOf Try.f65) []) .normal (mkS [(1, .fn 69 [.rp true [il x1c0] 0]), (5, il v5), (8, .tr (x0.map GWave.enc)), (9, il (x0.length : Int)), (10, il v10)] [] 1) := by
  intro m
  induction m with
  | zero => intro v5 v10 h; cases h
  | succ m ih =>
    intro v5 v10 h
    replace h : p_i_countOf__i_CountResp_1__L1b x0 x1c0  _ v5 v10 = some r := h
    unfold p_i_countOf__i_CountResp_1__L1b at h
    rcases ite_some h with ⟨g1, h⟩ | ⟨g1, h⟩
    · obtain ⟨a400, ha400, h⟩ := bnd_some h
      obtain ⟨r502, hr502, h⟩ := bnd_some h
      rcases ite_some h with ⟨g2, h⟩ | ⟨g2, h⟩
      · exact cutT [] 16 [.t true, .row (v10 : Int).toNat (GWave.enc a400), .res (bl r502) [.undef, .undef], .t true] (aa g1 (aa (ixn ha400) (aa (ixr GWave.enc ha400) (aa (c_i_CountResp_1 a400 x1c0 hr502) (aa g2 tt))))) (ih _ _ h) (by kernel_rfl) (by kernel_rfl)
      · exact cutT [] 16 [.t true, .row (v10 : Int).toNat (GWave.enc a400), .res (bl r502) [.undef, .undef], .t false] (aa g1 (aa (ixn ha400) (aa (ixr GWave.enc ha400) (aa (c_i_CountResp_1 a400 x1c0 hr502) (aa g2 tt))))) (ih _ _ h) (by kernel_rfl) (by kernel_rfl)
    · have e := Option.some.inj h; subst e
      exact retT 100000 [.t false] (aa g1 tt) (by kernel_rfl)

theorem c_i_countOf__i_CountResp_1 (x0 : List GWave) (x1c0 : Int) {r : Int} (h : p_i_countOf__i_CountResp_1 x0 x1c0 = some r) : Fine Try.prog Mo (65, [.tr (x0.map GWave.enc), .fn 69 [.rp true [il x1c0] 0]], il r, [.undef, .undef]) := by
  refine fineT Try.func65 rfl (by kernel_rfl) ?_
  unfold p_i_countOf__i_CountResp_1 at h
  exact cutT [] 8 [.num x0.length 0 0 []] (aa (lenr GWave.enc x0) tt) (c_i_countOf__i_CountResp_1__L1 x0 x1c0 _ _ _ h) (by kernel_rfl) (by kernel_rfl)

abbrev R_i_CountResp (x0 : List GWave) (x1 : Int) (r : Int) : Ex → St → Prop := RetC Try.prog Mo 23 Try.f23 [.tr (x0.map GWave.enc), il x1] (il r, [.undef, .undef])

theorem c_i_CountResp (x0 : List GWave) (x1 : Int) {r : Int} (h : p_i_CountResp x0 x1 = some r) : Fine Try.prog Mo (23, [.tr (x0.map GWave.enc), il x1], il r, [.undef, .undef]) := by
  refine fineT Try.func23 rfl (by kernel_rfl) ?_
  unfold p_i_CountResp at h
  obtain ⟨r102, hr102, h⟩ := bnd_some h
  have e := Option.some.inj h; subst e
  exact retT 100000 [.res (il r102) [.undef, .undef]] (aa (c_i_countOf__i_CountResp_1 x0 x1 hr102) tt) (by kernel_rfl)

abbrev R_w_FnExactCountResp (x0 : List GWave) (x1 : Int) (r : Bool) : Ex → St → Prop := RetC Try.prog Mo 5 Try.f5 [.tr (x0.map GWave.enc), il x1] (bl r, [.undef, .undef])

theorem c_w_FnExactCountResp (x0 : List GWave) (x1 : Int) {r : Bool} (h : p_w_FnExactCountResp x0 x1 = some r) : Fine Try.prog Mo (5, [.tr (x0.map GWave.enc), il x1], bl r, [.undef, .undef]) := by
  refine fineT Try.func5 rfl (by kernel_rfl) ?_
  unfold p_w_FnExactCountResp at h
  obtain ⟨r202, hr202, h⟩ := bnd_some h
  rcases ite_some h with ⟨g1, h⟩ | ⟨g1, h⟩
  · have e := Option.some.inj h; subst e
    exact retT 100000 [.res (il r202) [.undef, .undef], .t true] (aa (c_w_szWaveS x0 1048576 hr202) (aa g1 tt)) (by kernel_rfl)
  · obtain ⟨r501, hr501, h⟩ := bnd_some h
    obtain ⟨r503, hr503, h⟩ := bnd_some h
    obtain ⟨r601, hr601, h⟩ := bnd_some h
    obtain ⟨r702, hr702, h⟩ := bnd_some h
    rcases ite_some h with ⟨g2, h⟩ | ⟨g2, h⟩
    · have e := Option.some.inj h; subst e
      exact retT 100000 [.res (il r202) [.undef, .undef], .t false, .res (.own 91 (r501.map GWave.enc)) [.undef], .k, .res (il r503) [.undef, .undef], .res (.own 91 (r601.map GWave.enc)) [.undef], .k, .res (il r702) [.undef, .undef], .t true] (aa (c_w_szWaveS x0 1048576 hr202) (aa g1 (aa (c_w_toWaveS x0 hr501) (aa (lene GWave.enc r501) (aa (c_s_CountResp r501 x1 hr503) (aa (c_w_toWaveS x0 hr601) (aa (lene GWave.enc r601) (aa (c_i_CountResp r601 x1 hr702) (aa g2 tt))))))))) (by kernel_rfl)
    · obtain ⟨r1002, hr1002, h⟩ := bnd_some h
      obtain ⟨r1003, hr1003, h⟩ := bnd_some h
      rcases ite_some h with ⟨g3, h⟩ | ⟨g3, h⟩
      · have e := Option.some.inj h; subst e
        exact retT 100000 [.res (il r202) [.undef, .undef], .t false, .res (.own 91 (r501.map GWave.enc)) [.undef], .k, .res (il r503) [.undef, .undef], .res (.own 91 (r601.map GWave.enc)) [.undef], .k, .res (il r702) [.undef, .undef], .t false, .res (.own 91 (r1002.map GWave.enc)) [.undef], .k, .k, .res (bl r1003) [.undef, .undef], .t true] (aa (c_w_szWaveS x0 1048576 hr202) (aa g1 (aa (c_w_toWaveS x0 hr501) (aa (lene GWave.enc r501) (aa (c_s_CountResp r501 x1 hr503) (aa (c_w_toWaveS x0 hr601) (aa (lene GWave.enc r601) (aa (c_i_CountResp r601 x1 hr702) (aa g2 (aa (c_w_toWaveS x0 hr1002) (aa (lene GWave.enc r601) (aa (lene GWave.enc r1002) (aa (c_w_eqWaveS r601 r1002 hr1003) (aa g3 tt)))))))))))))) (by kernel_rfl)
      · have e := Option.some.inj h; subst e
        exact retT 100000 [.res (il r202) [.undef, .undef], .t false, .res (.own 91 (r501.map GWave.enc)) [.undef], .k, .res (il r503) [.undef, .undef], .res (.own 91 (r601.map GWave.enc)) [.undef], .k, .res (il r702) [.undef, .undef], .t false, .res (.own 91 (r1002.map GWave.enc)) [.undef], .k, .k, .res (bl r1003) [.undef, .undef], .t false] (aa (c_w_szWaveS x0 1048576 hr202) (aa g1 (aa (c_w_toWaveS x0 hr501) (aa (lene GWave.enc r501) (aa (c_s_CountResp r501 x1 hr503) (aa (c_w_toWaveS x0 hr601) (aa (lene GWave.enc r601) (aa (c_i_CountResp r601 x1 hr702) (aa g2 (aa (c_w_toWaveS x0 hr1002) (aa (lene GWave.enc r601) (aa (lene GWave.enc r1002) (aa (c_w_eqWaveS r601 r1002 hr1003) (aa g3 tt)))))))))))))) (by kernel_rfl)

abbrev R_s_WaitsOf (x0 : List GWave) (r : Int) : Ex → St → Prop := RetC Try.prog Mo 24 Try.f24 [.tr (x0.map GWave.enc)] (il r, [.undef])

theorem c_s_WaitsOf__L1 (x0 : List GWave) {r : Int} : ∀ (m : Nat) (v3 : Int) (v4 : Int), p_s_WaitsOf__L1 x0  m v3 v4 = some r → SX Try.prog (R_s_WaitsOf x0 r) (at_ [1, 1, 0, 1, 0] (bodyOf Try.f24) []) .normal (mkS [(0, .tr (x0.map GWave.enc)), (3, il v3), (4, il v4)] [] 1) := by
  intro m
  induction m with
  | zero => intro v3 v4 h; cases h
  | succ m ih =>
    intro v3 v4 h
    replace h : p_s_WaitsOf__L1b x0  _ v3 v4 = some r := h
    unfold p_s_WaitsOf__L1b at h
    rcases ite_some h with ⟨g1, h⟩ | ⟨g1, h⟩
    · obtain ⟨a502, ha502, h⟩ := bnd_some h
      rcases ite_some h with ⟨g2, h⟩ | ⟨g2, h⟩
      · rcases ite_some h with ⟨g3, h⟩ | ⟨g3, h⟩
        · exact cutT [] 14 [.num x0.length 0 0 [], .t true, .row (v4 : Int).toNat (GWave.enc a502), .t true, .k, .k, .row (v4 : Int).toNat (GWave.enc a502), .k, .k, .k, .k, .t true] (aa (lenr GWave.enc x0) (aa g1 (aa (ixn ha502) (aa (ixr GWave.enc ha502) (aa g2 (aa (ixn ha502) (aa (ixr GWave.enc ha502) (aa g3 tt)))))))) (ih _ _ h) (by kernel_rfl) (by kernel_rfl)
        · exact cutT [] 14 [.num x0.length 0 0 [], .t true, .row (v4 : Int).toNat (GWave.enc a502), .t true, .k, .k, .row (v4 : Int).toNat (GWave.enc a502), .k, .k, .k, .k, .t false] (aa (lenr GWave.enc x0) (aa g1 (aa (ixn ha502) (aa (ixr GWave.enc ha502) (aa g2 (aa (ixn ha502) (aa (ixr GWave.enc ha502) (aa g3 tt)))))))) (ih _ _ h) (by kernel_rfl) (by kernel_rfl)
      · exact cutT [] 14 [.num x0.length 0 0 [], .t true, .row (v4 : Int).toNat (GWave.enc a502), .t false, .k, .k, .k, .k, .k, .k, .k] (aa (lenr GWave.enc x0) (aa g1 (aa (ixn ha502) (aa (ixr GWave.enc ha502) (aa g2 tt))))) (ih _ _ h) (by kernel_rfl) (by kernel_rfl)
    · have e := Option.some.inj h; subst e
      exact retT 100000 [.num x0.length 0 0 [], .t false] (aa (lenr GWave.enc x0) (aa g1 tt)) (by kernel_rfl)

theorem c_s_WaitsOf (x0 : List GWave) {r : Int} (h : p_s_WaitsOf x0 = some r) : Fine Try.prog Mo (24, [.tr (x0.map GWave.enc)], il r, [.undef]) := by
  refine fineT Try.func24 rfl (by kernel_rfl) ?_
  unfold p_s_WaitsOf at h
  exact cutT [] 8 [] tt (c_s_WaitsOf__L1 x0 _ _ _ h) (by kernel_rfl) (by kernel_rfl)

abbrev R_i_WaitsOf_1 (x0 : GWave) (r : Bool) : Ex → St → Prop := RetC Try.prog Mo 70 Try.f70 [.agg (GWave.enc x0)] (bl r, [.undef])

theorem c_i_WaitsOf_1 (x0 : GWave) {r : Bool} (h : p_i_WaitsOf_1 x0 = some r) : Fine Try.prog Mo (70, [.agg (GWave.enc x0)], bl r, [.undef]) := by
  refine fineT Try.func70 rfl (by kernel_rfl) ?_
  unfold p_i_WaitsOf_1 at h
  rcases ite_some h with ⟨g1, h⟩ | ⟨g1, h⟩
  · have e := Option.some.inj h; subst e
    exact retT 100000 [.t true, .k, .k, .k] (aa g1 tt) (by kernel_rfl)
  · have e := Option.some.inj h; subst e
    exact retT 100000 [.t false, .k, .k, .k] (aa g1 tt) (by kernel_rfl)

abbrev R_i_countOf__i_WaitsOf_1 (x0 : List GWave) (r : Int) : Ex → St → Prop := RetC Try.prog Mo 65 Try.f65 [.tr (x0.map GWave.enc), .fn 70 []] (il r, [.undef, .undef])

theorem c_i_countOf__i_WaitsOf_1__L1 (x0 : List GWave) {r : Int} : ∀ (m : Nat) (v5 : Int) (v10 : Int), p_i_countOf__i_WaitsOf_1__L1 x0  m v5 v10 = some r → SX Try.prog (R_i_countOf__i_WaitsOf_1 x0 r) (at_ [1, 1, 0, 1, 0] (bodyOf Try.f65) []) .normal (mkS [(1, .fn 70 []), (5, il v5), (8, .tr (x0.map GWave.enc)), (9, il (x0.length : Int)), (10, il v10)] [] 1) := by
  intro m
  induction m with
  | zero => intro v5 v10 h; cases h
  | succ m ih =>
    intro v5 v10 h
    replace h : p_i_countOf__i_WaitsOf_1__L1b x0  _ v5 v10 = some r := h
    unfold p_i_countOf__i_WaitsOf_1__L1b at h
    rcases ite_some h with ⟨g1, h⟩ | ⟨g1, h⟩
    · obtain ⟨a400, ha400, h⟩ := bnd_some h
      obtain ⟨r502, hr502, h⟩ := bnd_some h
      rcases ite_some h with ⟨g2, h⟩ | ⟨g2, h⟩
      · exact cutT [] 16 [.t true, .row (v10 : Int).toNat (GWave.enc a400), .res (bl r502) [.undef], .t true] (aa g1 (aa (ixn ha400) (aa (ixr GWave.enc ha400) (aa (c_i_WaitsOf_1 a400 hr502) (aa g2 tt))))) (ih _ _ h) (by kernel_rfl) (by kernel_rfl)
      · exact cutT [] 16 [.t true, .row (v10 : Int).toNat (GWave.enc a400), .res (bl r502) [.undef], .t false] (aa g1 (aa (ixn ha400) (aa (ixr GWave.enc ha400) (aa (c_i_WaitsOf_1 a400 hr502) (aa g2 tt))))) (ih _ _ h) (by kernel_rfl) (by kernel_rfl)
    · have e := Option.some.inj h; subst e
      exact retT 100000 [.t false] (aa g1 tt) (by kernel_rfl)

theorem c_i_countOf__i_WaitsOf_1 (x0 : List GWave) {r : Int} (h : p_i_countOf__i_WaitsOf_1 x0 = some r) : Fine Try.prog Mo (65, [.tr (x0.map GWave.enc), .fn 70 []], il r, [.undef, .undef]) := by
  refine fineT Try.func65 rfl (by kernel_rfl) ?_
  unfold p_i_countOf__i_WaitsOf_1 at h
  exact cutT [] 8 [.num x0.length 0 0 []] (aa (lenr GWave.enc x0) tt) (c_i_countOf__i_WaitsOf_1__L1 x0 _ _ _ h) (by kernel_rfl) (by kernel_rfl)

abbrev R_i_WaitsOf (x0 : List GWave) (r : Int) : Ex → St → Prop := RetC Try.prog Mo 25 Try.f25 [.tr (x0.map GWave.enc)] (il r, [.undef])

theorem c_i_WaitsOf (x0 : List GWave) {r : Int} (h : p_i_WaitsOf x0 = some r) : Fine Try.prog Mo (25, [.tr (x0.map GWave.enc)], il r, [.undef]) := by
  refine fineT Try.func25 rfl (by kernel_rfl) ?_
  unfold p_i_WaitsOf at h
  obtain ⟨r101, hr101, h⟩ := bnd_some h
  have e := Option.some.inj h; subst e
  exact retT 100000 [.res (il r101) [.undef, .undef]] (aa (c_i_countOf__i_WaitsOf_1 x0 hr101) tt) (by kernel_rfl)

abbrev R_w_FnExactWaitsOf (x0 : List GWave) (r : Bool) : Ex → St → Prop := RetC Try.prog Mo 6 Try.f6 [.tr (x0.map GWave.enc)] (bl r, [.undef])

theorem c_w_FnExactWaitsOf (x0 : List GWave) {r : Bool} (h : p_w_FnExactWaitsOf x0 = some r) : Fine Try.prog Mo (6, [.tr (x0.map GWave.enc)], bl r, [.undef]) := by
  refine fineT Try.func6 rfl (by kernel_rfl) ?_
  unfold p_w_FnExactWaitsOf at h
  obtain ⟨r202, hr202, h⟩ := bnd_some h
  rcases ite_some h with ⟨g1, h⟩ | ⟨g1, h⟩
  · have e := Option.some.inj h; subst e
    exact retT 100000 [.res (il r202) [.undef, .undef], .t true] (aa (c_w_szWaveS x0 1048576 hr202) (aa g1 tt)) (by kernel_rfl)
  · obtain ⟨r501, hr501, h⟩ := bnd_some h
    obtain ⟨r502, hr502, h⟩ := bnd_some h
    obtain ⟨r601, hr601, h⟩ := bnd_some h
    obtain ⟨r701, hr701, h⟩ := bnd_some h
    rcases ite_some h with ⟨g2, h⟩ | ⟨g2, h⟩
    · have e := Option.some.inj h; subst e
      exact retT 100000 [.res (il r202) [.undef, .undef], .t false, .res (.own 91 (r501.map GWave.enc)) [.undef], .k, .res (il r502) [.undef], .res (.own 91 (r601.map GWave.enc)) [.undef], .k, .res (il r701) [.undef], .t true] (aa (c_w_szWaveS x0 1048576 hr202) (aa g1 (aa (c_w_toWaveS x0 hr501) (aa (lene GWave.enc r501) (aa (c_s_WaitsOf r501 hr502) (aa (c_w_toWaveS x0 hr601) (aa (lene GWave.enc r601) (aa (c_i_WaitsOf r601 hr701) (aa g2 tt))))))))) (by kernel_rfl)
    · obtain ⟨r1002, hr1002, h⟩ := bnd_some h
      obtain ⟨r1003, hr1003, h⟩ := bnd_some h
      rcases ite_some h with ⟨g3, h⟩ | ⟨g3, h⟩
      · have e := Option.some.inj h; subst e
        exact retT 100000 [.res (il r202) [.undef, .undef], .t false, .res (.own 91 (r501.map GWave.enc)) [.undef], .k, .res (il r502) [.undef], .res (.own 91 (r601.map GWave.enc)) [.undef], .k, .res (il r701) [.undef], .t false, .res (.own 91 (r1002.map GWave.enc)) [.undef], .k, .k, .res (bl r1003) [.undef, .undef], .t true] (aa (c_w_szWaveS x0 1048576 hr202) (aa g1 (aa (c_w_toWaveS x0 hr501) (aa (lene GWave.enc r501) (aa (c_s_WaitsOf r501 hr502) (aa (c_w_toWaveS x0 hr601) (aa (lene GWave.enc r601) (aa (c_i_WaitsOf r601 hr701) (aa g2 (aa (c_w_toWaveS x0 hr1002) (aa (lene GWave.enc r601) (aa (lene GWave.enc r1002) (aa (c_w_eqWaveS r601 r1002 hr1003) (aa g3 tt)))))))))))))) (by kernel_rfl)
      · have e := Option.some.inj h; subst e
        exact retT 100000 [.res (il r202) [.undef, .undef], .t false, .res (.own 91 (r501.map GWave.enc)) [.undef], .k, .res (il r502) [.undef], .res (.own 91 (r601.map GWave.enc)) [.undef], .k, .res (il r701) [.undef], .t false, .res (.own 91 (r1002.map GWave.enc)) [.undef], .k, .k, .res (bl r1003) [.undef, .undef], .t false] (aa (c_w_szWaveS x0 1048576 hr202) (aa g1 (aa (c_w_toWaveS x0 hr501) (aa (lene GWave.enc r501) (aa (c_s_WaitsOf r501 hr502) (aa (c_w_toWaveS x0 hr601) (aa (lene GWave.enc r601) (aa (c_i_WaitsOf r601 hr701) (aa g2 (aa (c_w_toWaveS x0 hr1002) (aa (lene GWave.enc r601) (aa (lene GWave.enc r1002) (aa (c_w_eqWaveS r601 r1002 hr1003) (aa g3 tt)))))))))))))) (by kernel_rfl)

abbrev R_w_big (x0 : List Int) (r : Bool) : Ex → St → Prop := RetC Try.prog Mo 26 Try.f26 [.tr (x0.map encU)] (bl r, [.undef])

theorem c_w_big (x0 : List Int) {r : Bool} (h : p_w_big x0 = some r) : Fine Try.prog Mo (26, [.tr (x0.map encU)], bl r, [.undef]) := by
  refine fineT Try.func26 rfl (by kernel_rfl) ?_
  unfold p_w_big at h
  have e := Option.some.inj h; subst e
  exact retT 100000 [.num x0.length 0 0 []] (aa (lenr encU x0) tt) (by kernel_rfl)

abbrev R_s_l1New (x0 : List Int) (r : GL1Cur) : Ex → St → Prop := RetC Try.prog Mo 73 Try.f73 [.tr (x0.map encU)] (.obx [.tr (r.b.map encU), il r.i, il r.h], [.undef])

theorem c_s_l1New__J2 (x0 : List Int) {r : GL1Cur} (k_L1 : Int → Int → Option GL1Cur) (i_L1 : ∀ (v3 : Int) (v4 : Int), k_L1 v3 v4 = some r → SX Try.prog (R_s_l1New x0 r) (at_ [1, 1, 0, 1, 0] (bodyOf Try.f73) []) .normal (mkS [(0, .tr (x0.map encU)), (3, il v3), (4, il v4)] [] 1)) (v3 : Int) (v4 : Int) (v15 : Bool) (h : p_s_l1New__J2 x0 k_L1 v3 v4 v15 = some r) : SX Try.prog (R_s_l1New x0 r) (at_ [1, 1, 0, 1, 0, 0, 0, 1] (bodyOf Try.f73) []) .normal (mkS [(0, .tr (x0.map encU)), (3, il v3), (4, il v4), (15, bl v15)] [] 1) := by
  unfold p_s_l1New__J2 at h
  rcases ite_some h with ⟨g1, h⟩ | ⟨g1, h⟩
  · obtain ⟨a504, ha504, h⟩ := bnd_some h
    exact cutT [] 7 [.t true, .row (v4 : Int).toNat (encU a504)] (aa g1 (aa (ixn ha504) (aa (ixr encU ha504) tt))) (i_L1 _ _ h) (by kernel_rfl) (by kernel_rfl)
  · have e := Option.some.inj h; subst e
    exact retT 100000 [.t false] (aa g1 tt) (by kernel_rfl)

theorem c_s_l1New__L1 (x0 : List Int) {r : GL1Cur} : ∀ (m : Nat) (v3 : Int) (v4 : Int), p_s_l1New__L1 x0  m v3 v4 = some r → SX Try.prog (R_s_l1New x0 r) (at_ [1, 1, 0, 1, 0] (bodyOf Try.f73) []) .normal (mkS [(0, .tr (x0.map encU)), (3, il v3), (4, il v4)] [] 1) := by
  intro m
  induction m with
  | zero => intro v3 v4 h; cases h
  | succ m ih =>
    intro v3 v4 h
    replace h : p_s_l1New__L1b x0  _ v3 v4 = some r := h
    unfold p_s_l1New__L1b at h
    rcases ite_some h with ⟨g1, h⟩ | ⟨g1, h⟩
    · exact cutT [] 4 [.num x0.length 0 0 [], .t true, .k, .k] (aa (lenr encU x0) (aa g1 tt)) (c_s_l1New__J2 x0 _ ih _ _ _ h) (by kernel_rfl) (by kernel_rfl)
    · exact cutT [] 4 [.num x0.length 0 0 [], .t false, .k, .k] (aa (lenr encU x0) (aa g1 tt)) (c_s_l1New__J2 x0 _ ih _ _ _ h) (by kernel_rfl) (by kernel_rfl)

theorem c_s_l1New (x0 : List Int) {r : GL1Cur} (h : p_s_l1New x0 = some r) : Fine Try.prog Mo (73, [.tr (x0.map encU)], .obx [.tr (r.b.map encU), il r.i, il r.h], [.undef]) := by
  refine fineT Try.func73 rfl (by kernel_rfl) ?_
  unfold p_s_l1New at h
  exact cutT [] 8 [.num x0.length 0 0 []] (aa (lenr encU x0) tt) (c_s_l1New__L1 x0 _ _ _ h) (by kernel_rfl) (by kernel_rfl)

abbrev R_s_l1Byte (x0 : GL1Cur) (r : Int × GL1Cur) : Ex → St → Prop := RetC Try.prog Mo 102 Try.f102 [.agg [.tr (x0.b.map encU), il x0.i, il x0.h]] (il r.1, [.agg [.tr (r.2.b.map encU), il r.2.i, il r.2.h]])

theorem c_s_l1Byte (x0 : GL1Cur) {r : Int × GL1Cur} (h : p_s_l1Byte x0 = some r) : Fine Try.prog Mo (102, [.agg [.tr (x0.b.map encU), il x0.i, il x0.h]], il r.1, [.agg [.tr (r.2.b.map encU), il r.2.i, il r.2.h]]) := by
  refine fineT Try.func102 rfl (by kernel_rfl) ?_
  unfold p_s_l1Byte at h
  rcases ite_some h with ⟨g1, h⟩ | ⟨g1, h⟩
  · obtain ⟨a409, ha409, h⟩ := bnd_some h
    have e := Option.some.inj h; subst e
    exact retT 100000 [.k, .k, .num x0.b.length 0 0 [], .t true, .row (x0.i : Int).toNat (encU a409)] (aa (lenr encU x0.b) (aa g1 (aa (ixn ha409) (aa (ixr encU ha409) tt)))) (by kernel_rfl)
  · have e := Option.some.inj h; subst e
    exact retT 100000 [.k, .k, .num x0.b.length 0 0 [], .t false] (aa (lenr encU x0.b) (aa g1 tt)) (by kernel_rfl)

abbrev R_s_l1Below (x0 : GL1Cur) (x1 : Int) (r : Int × GL1Cur) : Ex → St → Prop := RetC Try.prog Mo 72 Try.f72 [.agg [.tr (x0.b.map encU), il x0.i, il x0.h], il x1] (il r.1, [.agg [.tr (r.2.b.map encU), il r.2.i, il r.2.h], .undef])

theorem c_s_l1Below (x0 : GL1Cur) (x1 : Int) {r : Int × GL1Cur} (h : p_s_l1Below x0 x1 = some r) : Fine Try.prog Mo (72, [.agg [.tr (x0.b.map encU), il x0.i, il x0.h], il x1], il r.1, [.agg [.tr (r.2.b.map encU), il r.2.i, il r.2.h], .undef]) := by
  refine fineT Try.func72 rfl (by kernel_rfl) ?_
  unfold p_s_l1Below at h
  rcases ite_some h with ⟨g1, h⟩ | ⟨g1, h⟩
  · have e := Option.some.inj h; subst e
    exact retT 100000 [.t true] (aa g1 tt) (by kernel_rfl)
  · rcases ite_some h with ⟨g2, h⟩ | ⟨g2, h⟩
    · obtain ⟨r401, hr401, h⟩ := bnd_some h
      obtain ⟨n403, hn403, h⟩ := bnd_some h
      have e := Option.some.inj h; subst e
      exact retT 100000 [.t false, .t true, .res (il r401.1) [.agg [.tr (r401.2.b.map encU), il r401.2.i, il r401.2.h]], .obl] (aa g1 (aa g2 (aa (c_s_l1Byte x0 hr401) (aa (nz0 hn403) tt)))) (by kernel_rfl)
    · obtain ⟨r501, hr501, h⟩ := bnd_some h
      obtain ⟨r601, hr601, h⟩ := bnd_some h
      obtain ⟨r701, hr701, h⟩ := bnd_some h
      obtain ⟨r801, hr801, h⟩ := bnd_some h
      obtain ⟨n911, hn911, h⟩ := bnd_some h
      have e := Option.some.inj h; subst e
      exact retT 100000 [.t false, .t false, .res (il r501.1) [.agg [.tr (r501.2.b.map encU), il r501.2.i, il r501.2.h]], .res (il r601.1) [.agg [.tr (r601.2.b.map encU), il r601.2.i, il r601.2.h]], .res (il r701.1) [.agg [.tr (r701.2.b.map encU), il r701.2.i, il r701.2.h]], .res (il r801.1) [.agg [.tr (r801.2.b.map encU), il r801.2.i, il r801.2.h]], .obl] (aa g1 (aa g2 (aa (c_s_l1Byte x0 hr501) (aa (c_s_l1Byte r501.2 hr601) (aa (c_s_l1Byte r601.2 hr701) (aa (c_s_l1Byte r701.2 hr801) (aa (nz0 hn911) tt))))))) (by kernel_rfl)

abbrev R_s_DrawApbOk (x0 : List Int) (r : GApb) : Ex → St → Prop := RetC Try.prog Mo 71 Try.f71 [.tr (x0.map encU)] (.agg (GApb.enc r), [.undef])

theorem c_s_DrawApbOk (x0 : List Int) {r : GApb} (h : p_s_DrawApbOk x0 = some r) : Fine Try.prog Mo (71, [.tr (x0.map encU)], .agg (GApb.enc r), [.undef]) := by
  refine fineT Try.func71 rfl (by kernel_rfl) ?_
  unfold p_s_DrawApbOk at h
  obtain ⟨r101, hr101, h⟩ := bnd_some h
  obtain ⟨r201, hr201, h⟩ := bnd_some h
  obtain ⟨r204, hr204, h⟩ := bnd_some h
  have e := Option.some.inj h; subst e
  exact retT 100000 [.res (.obx [.tr (r101.b.map encU), il r101.i, il r101.h]) [.undef], .res (il r201.1) [.agg [.tr (r201.2.b.map encU), il r201.2.i, il r201.2.h], .undef], .res (il r204.1) [.agg [.tr (r204.2.b.map encU), il r204.2.i, il r204.2.h], .undef]] (aa (c_s_l1New x0 hr101) (aa (c_s_l1Below r101 5 hr201) (aa (c_s_l1Below r201.2 6 hr204) tt))) (by kernel_rfl)

abbrev R_s_DrawApbTick (x0 : List Int) (r : GApb) : Ex → St → Prop := RetC Try.prog Mo 27 Try.f27 [.tr (x0.map encU)] (.agg (GApb.enc r), [.undef])

theorem c_s_DrawApbTick (x0 : List Int) {r : GApb} (h : p_s_DrawApbTick x0 = some r) : Fine Try.prog Mo (27, [.tr (x0.map encU)], .agg (GApb.enc r), [.undef]) := by
  refine fineT Try.func27 rfl (by kernel_rfl) ?_
  unfold p_s_DrawApbTick at h
  obtain ⟨r101, hr101, h⟩ := bnd_some h
  have e := Option.some.inj h; subst e
  exact retT 100000 [.res (.agg (GApb.enc r101)) [.undef]] (aa (c_s_DrawApbOk x0 hr101) tt) (by kernel_rfl)

abbrev R_i_within (x0 : Int) (x1 : Int) (x2 : Int) (r : Bool) : Ex → St → Prop := RetC Try.prog Mo 74 Try.f74 [il x0, il x1, il x2] (bl r, [.undef, .undef, .undef])

theorem c_i_within (x0 : Int) (x1 : Int) (x2 : Int) {r : Bool} (h : p_i_within x0 x1 x2 = some r) : Fine Try.prog Mo (74, [il x0, il x1, il x2], bl r, [.undef, .undef, .undef]) := by
  refine fineT Try.func74 rfl (by kernel_rfl) ?_
  unfold p_i_within at h
  rcases ite_some h with ⟨g1, h⟩ | ⟨g1, h⟩
  · have e := Option.some.inj h; subst e
    exact retT 100000 [.t true, .k, .k, .k] (aa g1 tt) (by kernel_rfl)
  · have e := Option.some.inj h; subst e
    exact retT 100000 [.t false, .k, .k, .k] (aa g1 tt) (by kernel_rfl)

abbrev R_i_ApbOk (x0 : GApb) (r : Bool) : Ex → St → Prop := RetC Try.prog Mo 32 Try.f32 [.agg (GApb.enc x0)] (bl r, [.undef])

theorem c_i_ApbOk (x0 : GApb) {r : Bool} (h : p_i_ApbOk x0 = some r) : Fine Try.prog Mo (32, [.agg (GApb.enc x0)], bl r, [.undef]) := by
  refine fineT Try.func32 rfl (by kernel_rfl) ?_
  unfold p_i_ApbOk at h
  rcases ite_some h with ⟨g1, h⟩ | ⟨g1, h⟩
  · have e := Option.some.inj h; subst e
    exact retT 100000 [.t true] (aa g1 tt) (by kernel_rfl)
  · rcases ite_some h with ⟨g2, h⟩ | ⟨g2, h⟩
    · obtain ⟨r602, hr602, h⟩ := bnd_some h
      have e := Option.some.inj h; subst e
      exact retT 100000 [.t false, .t true, .t true, .res (bl r602) [.undef, .undef, .undef]] (aa g1 (aa g2 (aa g2 (aa (c_i_within x0.left 0 3 hr602) tt)))) (by kernel_rfl)
    · rcases ite_some h with ⟨g3, h⟩ | ⟨g3, h⟩
      · obtain ⟨r602, hr602, h⟩ := bnd_some h
        have e := Option.some.inj h; subst e
        exact retT 100000 [.t false, .t false, .t true, .res (bl r602) [.undef, .undef, .undef]] (aa g1 (aa g2 (aa g3 (aa (c_i_within x0.left 0 3 hr602) tt)))) (by kernel_rfl)
      · have e := Option.some.inj h; subst e
        exact retT 100000 [.t false, .t false, .t false] (aa g1 (aa g2 (aa g3 tt))) (by kernel_rfl)

abbrev R_i_ApbTick (x0 : GApb) (r : GApb × Bool) : Ex → St → Prop := RetC Try.prog Mo 28 Try.f28 [.agg (GApb.enc x0)] (.tup [.agg (GApb.enc r.1), bl r.2], [.undef])

theorem c_i_ApbTick__J1 (x0 : GApb) {r : GApb × Bool} (v4 : Bool) (h : p_i_ApbTick__J1 x0  v4 = some r) : SX Try.prog (R_i_ApbTick x0 r) (at_ [1, 0, 0, 1] (bodyOf Try.f28) []) .normal (mkS [(1, .ptr (1, 1) 0 0), (2, .ptr (1, 2) 0 0), (4, bl v4)] [((1, 1), ⟨true, true, true, 0, [(GApb.enc x0)]⟩), ((1, 2), ⟨true, true, true, 0, [(GApb.enc (GApb.mk 0 0))]⟩)] 1) := by
  unfold p_i_ApbTick__J1 at h
  rcases ite_some h with ⟨g1, h⟩ | ⟨g1, h⟩
  · have e := Option.some.inj h; subst e
    exact retT 100000 [.t true] (aa g1 tt) (by kernel_rfl)
  · rcases ite_some h with ⟨g2, h⟩ | ⟨g2, h⟩
    · have e := Option.some.inj h; subst e
      exact retT 100000 [.t false, .t true] (aa g1 (aa g2 tt)) (by kernel_rfl)
    · rcases ite_some h with ⟨g3, h⟩ | ⟨g3, h⟩
      · have e := Option.some.inj h; subst e
        exact retT 100000 [.t false, .t false, .t true] (aa g1 (aa g2 (aa g3 tt))) (by kernel_rfl)
      · have e := Option.some.inj h; subst e
        exact retT 100000 [.t false, .t false, .t false] (aa g1 (aa g2 (aa g3 tt))) (by kernel_rfl)

theorem c_i_ApbTick (x0 : GApb) {r : GApb × Bool} (h : p_i_ApbTick x0 = some r) : Fine Try.prog Mo (28, [.agg (GApb.enc x0)], .tup [.agg (GApb.enc r.1), bl r.2], [.undef]) := by
  refine fineT Try.func28 rfl (by kernel_rfl) ?_
  unfold p_i_ApbTick at h
  obtain ⟨r101, hr101, h⟩ := bnd_some h
  rcases ite_some h with ⟨g1, h⟩ | ⟨g1, h⟩
  · exact cutT [((1, 1), (1, 0)), ((1, 2), (1, 1024))] 6 [.res (bl r101) [.undef], .t true, .k, .k, .k] (aa (c_i_ApbOk x0 hr101) (aa g1 tt)) (c_i_ApbTick__J1 x0 _ h) (by kernel_rfl) (by kernel_rfl)
  · exact cutT [((1, 1), (1, 0)), ((1, 2), (1, 1024))] 6 [.res (bl r101) [.undef], .t false, .k, .k, .k] (aa (c_i_ApbOk x0 hr101) (aa g1 tt)) (c_i_ApbTick__J1 x0 _ h) (by kernel_rfl) (by kernel_rfl)

abbrev R_s_l1In (x0 : Int) (x1 : Int) (x2 : Int) (r : Bool) : Ex → St → Prop := RetC Try.prog Mo 75 Try.f75 [il x0, il x1, il x2] (bl r, [.undef, .undef, .undef])

theorem c_s_l1In (x0 : Int) (x1 : Int) (x2 : Int) {r : Bool} (h : p_s_l1In x0 x1 x2 = some r) : Fine Try.prog Mo (75, [il x0, il x1, il x2], bl r, [.undef, .undef, .undef]) := by
  refine fineT Try.func75 rfl (by kernel_rfl) ?_
  unfold p_s_l1In at h
  rcases ite_some h with ⟨g1, h⟩ | ⟨g1, h⟩
  · have e := Option.some.inj h; subst e
    exact retT 100000 [.t true, .k, .k, .k] (aa g1 tt) (by kernel_rfl)
  · have e := Option.some.inj h; subst e
    exact retT 100000 [.t false, .k, .k, .k] (aa g1 tt) (by kernel_rfl)

abbrev R_s_ApbOk (x0 : GApb) (r : Bool) : Ex → St → Prop := RetC Try.prog Mo 33 Try.f33 [.agg (GApb.enc x0)] (bl r, [.undef])

theorem c_s_ApbOk (x0 : GApb) {r : Bool} (h : p_s_ApbOk x0 = some r) : Fine Try.prog Mo (33, [.agg (GApb.enc x0)], bl r, [.undef]) := by
  refine fineT Try.func33 rfl (by kernel_rfl) ?_
  unfold p_s_ApbOk at h
  rcases ite_some h with ⟨g1, h⟩ | ⟨g1, h⟩
  · have e := Option.some.inj h; subst e
    exact retT 100000 [.t true] (aa g1 tt) (by kernel_rfl)
  · rcases ite_some h with ⟨g2, h⟩ | ⟨g2, h⟩
    · obtain ⟨r602, hr602, h⟩ := bnd_some h
      have e := Option.some.inj h; subst e
      exact retT 100000 [.t false, .t true, .t true, .res (bl r602) [.undef, .undef, .undef]] (aa g1 (aa g2 (aa g2 (aa (c_s_l1In x0.left 0 3 hr602) tt)))) (by kernel_rfl)
    · rcases ite_some h with ⟨g3, h⟩ | ⟨g3, h⟩
      · obtain ⟨r602, hr602, h⟩ := bnd_some h
        have e := Option.some.inj h; subst e
        exact retT 100000 [.t false, .t false, .t true, .res (bl r602) [.undef, .undef, .undef]] (aa g1 (aa g2 (aa g3 (aa (c_s_l1In x0.left 0 3 hr602) tt)))) (by kernel_rfl)
      · have e := Option.some.inj h; subst e
        exact retT 100000 [.t false, .t false, .t false] (aa g1 (aa g2 (aa g3 tt))) (by kernel_rfl)

abbrev R_s_ApbTick (x0 : GApb) (r : GApb × Bool) : Ex → St → Prop := RetC Try.prog Mo 29 Try.f29 [.agg (GApb.enc x0)] (.tup [.agg (GApb.enc r.1), bl r.2], [.undef])

theorem c_s_ApbTick__J1 (x0 : GApb) {r : GApb × Bool} (v4 : Bool) (h : p_s_ApbTick__J1 x0  v4 = some r) : SX Try.prog (R_s_ApbTick x0 r) (at_ [1, 0, 0, 1] (bodyOf Try.f29) []) .normal (mkS [(1, .ptr (1, 1) 0 0), (2, .ptr (1, 2) 0 0), (4, bl v4)] [((1, 1), ⟨true, true, true, 0, [(GApb.enc x0)]⟩), ((1, 2), ⟨true, true, true, 0, [(GApb.enc (GApb.mk 0 0))]⟩)] 1) := by
  unfold p_s_ApbTick__J1 at h
  rcases ite_some h with ⟨g1, h⟩ | ⟨g1, h⟩
  · have e := Option.some.inj h; subst e
    exact retT 100000 [.t true] (aa g1 tt) (by kernel_rfl)
  · rcases ite_some h with ⟨g2, h⟩ | ⟨g2, h⟩
    · have e := Option.some.inj h; subst e
      exact retT 100000 [.t false, .t true] (aa g1 (aa g2 tt)) (by kernel_rfl)
    · rcases ite_some h with ⟨g3, h⟩ | ⟨g3, h⟩
      · have e := Option.some.inj h; subst e
        exact retT 100000 [.t false, .t false, .t true] (aa g1 (aa g2 (aa g3 tt))) (by kernel_rfl)
      · have e := Option.some.inj h; subst e
        exact retT 100000 [.t false, .t false, .t false] (aa g1 (aa g2 (aa g3 tt))) (by kernel_rfl)

theorem c_s_ApbTick (x0 : GApb) {r : GApb × Bool} (h : p_s_ApbTick x0 = some r) : Fine Try.prog Mo (29, [.agg (GApb.enc x0)], .tup [.agg (GApb.enc r.1), bl r.2], [.undef]) := by
  refine fineT Try.func29 rfl (by kernel_rfl) ?_
  unfold p_s_ApbTick at h
  obtain ⟨r101, hr101, h⟩ := bnd_some h
  rcases ite_some h with ⟨g1, h⟩ | ⟨g1, h⟩
  · exact cutT [((1, 1), (1, 0)), ((1, 2), (1, 1024))] 6 [.res (bl r101) [.undef], .t true, .k, .k, .k] (aa (c_s_ApbOk x0 hr101) (aa g1 tt)) (c_s_ApbTick__J1 x0 _ h) (by kernel_rfl) (by kernel_rfl)
  · exact cutT [((1, 1), (1, 0)), ((1, 2), (1, 1024))] 6 [.res (bl r101) [.undef], .t false, .k, .k, .k] (aa (c_s_ApbOk x0 hr101) (aa g1 tt)) (c_s_ApbTick__J1 x0 _ h) (by kernel_rfl) (by kernel_rfl)

abbrev R_s_DrawApbStates (x0 : List Int) (r : Int) : Ex → St → Prop := RetC Try.prog Mo 30 Try.f30 [.tr (x0.map encU)] (il r, [.undef])

theorem c_s_DrawApbStates (x0 : List Int) {r : Int} (h : p_s_DrawApbStates x0 = some r) : Fine Try.prog Mo (30, [.tr (x0.map encU)], il r, [.undef]) := by
  refine fineT Try.func30 rfl (by kernel_rfl) ?_
  unfold p_s_DrawApbStates at h
  obtain ⟨r101, hr101, h⟩ := bnd_some h
  obtain ⟨r102, hr102, h⟩ := bnd_some h
  have e := Option.some.inj h; subst e
  exact retT 100000 [.res (.obx [.tr (r101.b.map encU), il r101.i, il r101.h]) [.undef], .res (il r102.1) [.agg [.tr (r102.2.b.map encU), il r102.2.i, il r102.2.h], .undef]] (aa (c_s_l1New x0 hr101) (aa (c_s_l1Below r101 6 hr102) tt)) (by kernel_rfl)

abbrev R_i_ApbStart (x0 : Int) (r : GApb) : Ex → St → Prop := RetC Try.prog Mo 34 Try.f34 [il x0] (.agg (GApb.enc r), [.undef])

theorem c_i_ApbStart (x0 : Int) {r : GApb} (h : p_i_ApbStart x0 = some r) : Fine Try.prog Mo (34, [il x0], .agg (GApb.enc r), [.undef]) := by
  refine fineT Try.func34 rfl (by kernel_rfl) ?_
  unfold p_i_ApbStart at h
  obtain ⟨r101, hr101, h⟩ := bnd_some h
  rcases ite_some h with ⟨g1, h⟩ | ⟨g1, h⟩
  · have e := Option.some.inj h; subst e
    exact retT 100000 [.res (bl r101) [.undef, .undef, .undef], .t true] (aa (c_i_within x0 0 3 hr101) (aa g1 tt)) (by kernel_rfl)
  · have e := Option.some.inj h; subst e
    exact retT 100000 [.res (bl r101) [.undef, .undef, .undef], .t false] (aa (c_i_within x0 0 3 hr101) (aa g1 tt)) (by kernel_rfl)

abbrev R_i_ApbStates (x0 : Int) (r : List Int) : Ex → St → Prop := RetC Try.prog Mo 31 Try.f31 [il x0] (.own 3 (r.map encI), [.undef])

theorem c_i_ApbStates__L1 (x0 : Int) {r : List Int} : ∀ (m : Nat) (vbox_1_1 : GApb) (v3 : List Int), p_i_ApbStates__L1 x0  m vbox_1_1 v3 = some r → SX Try.prog (R_i_ApbStates x0 r) (at_ [1, 1, 0, 1, 0] (bodyOf Try.f31) []) .normal (mkS [(3, .sl (1, 2) 0 (v3.map encI).length), (4, .ptr (1, 1) 0 0)] [((1, 1), ⟨true, true, true, 0, [(GApb.enc vbox_1_1)]⟩), ((1, 2), ⟨false, true, true, 3, v3.map encI⟩)] 1) := by
  intro m
  induction m with
  | zero => intro vbox_1_1 v3 h; cases h
  | succ m ih =>
    intro vbox_1_1 v3 h
    replace h : p_i_ApbStates__L1b x0  _ vbox_1_1 v3 = some r := h
    unfold p_i_ApbStates__L1b at h
    rcases ite_some h with ⟨g1, h⟩ | ⟨g1, h⟩
    · obtain ⟨z504, hz504, h⟩ := bnd_some h
      obtain ⟨r401, hr401, h⟩ := bnd_some h
      exact cutT [((1, 1), (5, 0)), ((1, 2), (3, 4096))] 15 [.t true, .app ([vbox_1_1.state].map encI) true (z504.map encI) (z504.map encI).length, .k, .res (.tup [.agg (GApb.enc r401.1), bl r401.2]) [.undef], .num (z504.map encI).length 0 0 []] (aa g1 (aa (show 1 = ([vbox_1_1.state].map encI).length from rfl) (aa (Eq.refl ([vbox_1_1.state].map encI)) (aa (alr 1 encI_len [vbox_1_1.state]) (aa (lene encI v3) (aa (apl encI hz504) (aa (apm encI hz504) (aa (lene encI z504) (aa (c_i_ApbTick vbox_1_1 hr401) (aa (lene encI z504) tt)))))))))) (ih _ _ h) (by kernel_rfl) (by kernel_rfl)
    · have e := Option.some.inj h; subst e
      exact retT 100000 [.t false, .k] (aa g1 (aa (lene encI v3) tt)) (by kernel_rfl)

theorem c_i_ApbStates (x0 : Int) {r : List Int} (h : p_i_ApbStates x0 = some r) : Fine Try.prog Mo (31, [il x0], .own 3 (r.map encI), [.undef]) := by
  refine fineT Try.func31 rfl (by kernel_rfl) ?_
  unfold p_i_ApbStates at h
  obtain ⟨r201, hr201, h⟩ := bnd_some h
  exact cutT [((1, 1), (3, 2048)), ((1, 2), (2, 0))] 8 [.res (.agg (GApb.enc r201)) [.undef], .num ([].map encI).length 0 0 []] (aa (c_i_ApbStart x0 hr201) (aa (show 0 = ([].map encI).length from rfl) tt)) (c_i_ApbStates__L1 x0 _ _ _ h) (by kernel_rfl) (by kernel_rfl)

abbrev R_w_FnPhases (x0 : List Int) (r : Bool) : Ex → St → Prop := RetC Try.prog Mo 7 Try.f7 [.tr (x0.map encU)] (bl r, [.undef])

theorem c_w_FnPhases__L1 (x0 : List Int) {r : Bool} : ∀ (m : Nat) (v8 : Int) (v9 : List Int) (v10 : Int), p_w_FnPhases__L1 x0  m v8 v9 v10 = some r → SX Try.prog (R_w_FnPhases x0 r) (at_ [1, 1, 1, 1, 1, 1, 1, 1, 1, 0, 1, 0] (bodyOf Try.f7) []) .normal (mkS [(8, il v8), (9, .sl (1, 1) 0 (v9.map encI).length), (10, il v10)] [((1, 1), ⟨false, true, true, 3, v9.map encI⟩)] 1) := by
  intro m
  induction m with
  | zero => intro v8 v9 v10 h; cases h
  | succ m ih =>
    intro v8 v9 v10 h
    replace h : p_w_FnPhases__L1b x0  _ v8 v9 v10 = some r := h
    unfold p_w_FnPhases__L1b at h
    rcases ite_some h with ⟨g1, h⟩ | ⟨g1, h⟩
    · obtain ⟨a1502, ha1502, h⟩ := bnd_some h
      rcases ite_some h with ⟨g2, h⟩ | ⟨g2, h⟩
      · have e := Option.some.inj h; subst e
        exact retT 100000 [.num v9.length 0 0 [], .t true, .row (v10 : Int).toNat (encI a1502), .cell (encI a1502), .t true, .k, .k, .k, .k, .k, .k] (aa (lenr encI v9) (aa g1 (aa (ixn ha1502) (aa (ixl encI ha1502) (aa (ixr encI ha1502) (aa (ixr encI ha1502) (aa g2 tt))))))) (by kernel_rfl)
      · rcases ite_some h with ⟨g3, h⟩ | ⟨g3, h⟩
        · have e := Option.some.inj h; subst e
          exact retT 100000 [.num v9.length 0 0 [], .t true, .row (v10 : Int).toNat (encI a1502), .cell (encI a1502), .t false, .k, .k, .row (v10 : Int).toNat (encI a1502), .k, .cell (encI a1502), .k, .k, .t true] (aa (lenr encI v9) (aa g1 (aa (ixn ha1502) (aa (ixl encI ha1502) (aa (ixr encI ha1502) (aa (ixr encI ha1502) (aa g2 (aa (ixn ha1502) (aa (ixl encI ha1502) (aa (ixr encI ha1502) (aa (ixr encI ha1502) (aa g3 tt)))))))))))) (by kernel_rfl)
        · exact cutT [((1, 1), (1, 1))] 14 [.num v9.length 0 0 [], .t true, .row (v10 : Int).toNat (encI a1502), .cell (encI a1502), .t false, .k, .k, .row (v10 : Int).toNat (encI a1502), .k, .cell (encI a1502), .k, .k, .t false, .num (v9.map encI).length 0 0 []] (aa (lenr encI v9) (aa g1 (aa (ixn ha1502) (aa (ixl encI ha1502) (aa (ixr encI ha1502) (aa (ixr encI ha1502) (aa g2 (aa (ixn ha1502) (aa (ixl encI ha1502) (aa (ixr encI ha1502) (aa (ixr encI ha1502) (aa g3 (aa (lene encI v9) tt))))))))))))) (ih _ _ _ h) (by kernel_rfl) (by kernel_rfl)
    · rcases ite_some h with ⟨g2, h⟩ | ⟨g2, h⟩
      · obtain ⟨r1707, hr1707, h⟩ := bnd_some h
        have e := Option.some.inj h; subst e
        exact retT 100000 [.num v9.length 0 0 [], .t false, .num v9.length 0 0 [], .t true, .k, .res (.agg (GApb.enc r1707)) [.undef], .k, .k, .k, .k] (aa (lenr encI v9) (aa g1 (aa (lenr encI v9) (aa g2 (aa (c_i_ApbStart v8 hr1707) tt))))) (by kernel_rfl)
      · have e := Option.some.inj h; subst e
        exact retT 100000 [.num v9.length 0 0 [], .t false, .num v9.length 0 0 [], .t false, .k, .k, .k, .k, .k] (aa (lenr encI v9) (aa g1 (aa (lenr encI v9) (aa g2 tt)))) (by kernel_rfl)

theorem c_w_FnPhases__J3 (x0 : List Int) {r : Bool} (v8 : Int) (v9 : List Int) (v58 : Bool) (h : p_w_FnPhases__J3 x0  v8 v9 v58 = some r) : SX Try.prog (R_w_FnPhases x0 r) (at_ [1, 1, 1, 1, 1, 1, 1, 1, 0, 1] (bodyOf Try.f7) []) .normal (mkS [(8, il v8), (9, .sl (1, 1) 0 (v9.map encI).length), (58, bl v58)] [((1, 1), ⟨false, true, true, 3, v9.map encI⟩)] 1) := by
  unfold p_w_FnPhases__J3 at h
  rcases ite_some h with ⟨g1, h⟩ | ⟨g1, h⟩
  · have e := Option.some.inj h; subst e
    exact retT 100000 [.t true, .num v9.length 0 0 []] (aa g1 (aa (lenr encI v9) tt)) (by kernel_rfl)
  · exact cutT [((1, 1), (1, 1))] 6 [.t false, .num (v9.map encI).length 0 0 []] (aa g1 (aa (lene encI v9) tt)) (c_w_FnPhases__L1 x0 _ _ _ _ h) (by kernel_rfl) (by kernel_rfl)

theorem c_w_FnPhases__J2 (x0 : List Int) {r : Bool} (v8 : Int) (v9 : List Int) (v52 : Bool) (h : p_w_FnPhases__J2 x0  v8 v9 v52 = some r) : SX Try.prog (R_w_FnPhases x0 r) (at_ [1, 1, 1, 1, 1, 1, 1, 0, 1] (bodyOf Try.f7) []) .normal (mkS [(8, il v8), (9, .sl (1, 1) 0 (v9.map encI).length), (52, bl v52)] [((1, 1), ⟨false, true, true, 3, v9.map encI⟩)] 1) := by
  unfold p_w_FnPhases__J2 at h
  rcases ite_some h with ⟨g1, h⟩ | ⟨g1, h⟩
  · have e := Option.some.inj h; subst e
    exact retT 100000 [.t true] (aa g1 tt) (by kernel_rfl)
  · rcases ite_some h with ⟨g2, h⟩ | ⟨g2, h⟩
    · exact cutT [((1, 1), (1, 1))] 5 [.t false, .t true, .k, .k, .num (v9.map encI).length 0 0 []] (aa g1 (aa g2 (aa (lene encI v9) tt))) (c_w_FnPhases__J3 x0 _ _ _ h) (by kernel_rfl) (by kernel_rfl)
    · exact cutT [((1, 1), (1, 1))] 5 [.t false, .t false, .k, .k, .num (v9.map encI).length 0 0 []] (aa g1 (aa g2 (aa (lene encI v9) tt))) (c_w_FnPhases__J3 x0 _ _ _ h) (by kernel_rfl) (by kernel_rfl)

theorem c_w_FnPhases (x0 : List Int) {r : Bool} (h : p_w_FnPhases x0 = some r) : Fine Try.prog Mo (7, [.tr (x0.map encU)], bl r, [.undef]) := by
  refine fineT Try.func7 rfl (by kernel_rfl) ?_
  unfold p_w_FnPhases at h
  obtain ⟨r101, hr101, h⟩ := bnd_some h
  rcases ite_some h with ⟨g1, h⟩ | ⟨g1, h⟩
  · have e := Option.some.inj h; subst e
    exact retT 100000 [.res (bl r101) [.undef], .t true] (aa (c_w_big x0 hr101) (aa g1 tt)) (by kernel_rfl)
  · obtain ⟨r301, hr301, h⟩ := bnd_some h
    obtain ⟨r401, hr401, h⟩ := bnd_some h
    obtain ⟨r501, hr501, h⟩ := bnd_some h
    obtain ⟨r601, hr601, h⟩ := bnd_some h
    obtain ⟨r701, hr701, h⟩ := bnd_some h
    rcases ite_some h with ⟨g2, h⟩ | ⟨g2, h⟩
    · exact cutT [((1, 1), (7, 1024))] 20 [.res (bl r101) [.undef], .t false, .res (.agg (GApb.enc r301)) [.undef], .res (.tup [.agg (GApb.enc r401.1), bl r401.2]) [.undef], .res (.tup [.agg (GApb.enc r501.1), bl r501.2]) [.undef], .res (il r601) [.undef], .res (.own 3 (r701.map encI)) [.undef], .t true, .k, .k, .k, .k, .k, .k, .k, .k, .k, .k, .k, .k, .k, .k, .num (r701.map encI).length 0 0 []] (aa (c_w_big x0 hr101) (aa g1 (aa (c_s_DrawApbTick x0 hr301) (aa (c_i_ApbTick r301 hr401) (aa (c_s_ApbTick r301 hr501) (aa (c_s_DrawApbStates x0 hr601) (aa (c_i_ApbStates r601 hr701) (aa g2 (aa (lene encI r701) tt))))))))) (c_w_FnPhases__J2 x0 _ _ _ h) (by kernel_rfl) (by kernel_rfl)
    · rcases ite_some h with ⟨g3, h⟩ | ⟨g3, h⟩
      · exact cutT [((1, 1), (7, 1024))] 20 [.res (bl r101) [.undef], .t false, .res (.agg (GApb.enc r301)) [.undef], .res (.tup [.agg (GApb.enc r401.1), bl r401.2]) [.undef], .res (.tup [.agg (GApb.enc r501.1), bl r501.2]) [.undef], .res (il r601) [.undef], .res (.own 3 (r701.map encI)) [.undef], .t false, .k, .k, .k, .t true, .k, .k, .k, .k, .k, .k, .k, .k, .k, .k, .num (r701.map encI).length 0 0 []] (aa (c_w_big x0 hr101) (aa g1 (aa (c_s_DrawApbTick x0 hr301) (aa (c_i_ApbTick r301 hr401) (aa (c_s_ApbTick r301 hr501) (aa (c_s_DrawApbStates x0 hr601) (aa (c_i_ApbStates r601 hr701) (aa g2 (aa g3 (aa (lene encI r701) tt)))))))))) (c_w_FnPhases__J2 x0 _ _ _ h) (by kernel_rfl) (by kernel_rfl)
      · obtain ⟨r810, hr810, h⟩ := bnd_some h
        obtain ⟨r812, hr812, h⟩ := bnd_some h
        rcases ite_some h with ⟨g4, h⟩ | ⟨g4, h⟩
        · exact cutT [((1, 1), (7, 1024))] 20 [.res (bl r101) [.undef], .t false, .res (.agg (GApb.enc r301)) [.undef], .res (.tup [.agg (GApb.enc r401.1), bl r401.2]) [.undef], .res (.tup [.agg (GApb.enc r501.1), bl r501.2]) [.undef], .res (il r601) [.undef], .res (.own 3 (r701.map encI)) [.undef], .t false, .k, .k, .k, .t false, .k, .res (bl r810) [.undef], .k, .k, .res (bl r812) [.undef], .k, .k, .t true, .k, .k, .k, .k, .num (r701.map encI).length 0 0 []] (aa (c_w_big x0 hr101) (aa g1 (aa (c_s_DrawApbTick x0 hr301) (aa (c_i_ApbTick r301 hr401) (aa (c_s_ApbTick r301 hr501) (aa (c_s_DrawApbStates x0 hr601) (aa (c_i_ApbStates r601 hr701) (aa g2 (aa g3 (aa (c_i_ApbOk r301 hr810) (aa (c_s_ApbOk r301 hr812) (aa g4 (aa (lene encI r701) tt))))))))))))) (c_w_FnPhases__J2 x0 _ _ _ h) (by kernel_rfl) (by kernel_rfl)
        · obtain ⟨r817, hr817, h⟩ := bnd_some h
          rcases ite_some h with ⟨g5, h⟩ | ⟨g5, h⟩
          · obtain ⟨r820, hr820, h⟩ := bnd_some h
            exact cutT [((1, 1), (7, 1024))] 20 [.res (bl r101) [.undef], .t false, .res (.agg (GApb.enc r301)) [.undef], .res (.tup [.agg (GApb.enc r401.1), bl r401.2]) [.undef], .res (.tup [.agg (GApb.enc r501.1), bl r501.2]) [.undef], .res (il r601) [.undef], .res (.own 3 (r701.map encI)) [.undef], .t false, .k, .k, .k, .t false, .k, .res (bl r810) [.undef], .k, .k, .res (bl r812) [.undef], .k, .k, .t false, .k, .res (bl r817) [.undef], .k, .t true, .k, .res (bl r820) [.undef], .k, .k, .k, .k, .num (r701.map encI).length 0 0 []] (aa (c_w_big x0 hr101) (aa g1 (aa (c_s_DrawApbTick x0 hr301) (aa (c_i_ApbTick r301 hr401) (aa (c_s_ApbTick r301 hr501) (aa (c_s_DrawApbStates x0 hr601) (aa (c_i_ApbStates r601 hr701) (aa g2 (aa g3 (aa (c_i_ApbOk r301 hr810) (aa (c_s_ApbOk r301 hr812) (aa g4 (aa (c_i_ApbOk r301 hr817) (aa g5 (aa (c_i_ApbOk r401.1 hr820) (aa (lene encI r701) tt)))))))))))))))) (c_w_FnPhases__J2 x0 _ _ _ h) (by kernel_rfl) (by kernel_rfl)
          · exact cutT [((1, 1), (7, 1024))] 20 [.res (bl r101) [.undef], .t false, .res (.agg (GApb.enc r301)) [.undef], .res (.tup [.agg (GApb.enc r401.1), bl r401.2]) [.undef], .res (.tup [.agg (GApb.enc r501.1), bl r501.2]) [.undef], .res (il r601) [.undef], .res (.own 3 (r701.map encI)) [.undef], .t false, .k, .k, .k, .t false, .k, .res (bl r810) [.undef], .k, .k, .res (bl r812) [.undef], .k, .k, .t false, .k, .res (bl r817) [.undef], .k, .t false, .k, .k, .k, .k, .k, .num (r701.map encI).length 0 0 []] (aa (c_w_big x0 hr101) (aa g1 (aa (c_s_DrawApbTick x0 hr301) (aa (c_i_ApbTick r301 hr401) (aa (c_s_ApbTick r301 hr501) (aa (c_s_DrawApbStates x0 hr601) (aa (c_i_ApbStates r601 hr701) (aa g2 (aa g3 (aa (c_i_ApbOk r301 hr810) (aa (c_s_ApbOk r301 hr812) (aa g4 (aa (c_i_ApbOk r301 hr817) (aa g5 (aa (lene encI r701) tt))))))))))))))) (c_w_FnPhases__J2 x0 _ _ _ h) (by kernel_rfl) (by kernel_rfl)

abbrev R_s_ApbStart (x0 : Int) (r : GApb) : Ex → St → Prop := RetC Try.prog Mo 76 Try.f76 [il x0] (.agg (GApb.enc r), [.undef])

theorem c_s_ApbStart (x0 : Int) {r : GApb} (h : p_s_ApbStart x0 = some r) : Fine Try.prog Mo (76, [il x0], .agg (GApb.enc r), [.undef]) := by
  refine fineT Try.func76 rfl (by kernel_rfl) ?_
  unfold p_s_ApbStart at h
  obtain ⟨r101, hr101, h⟩ := bnd_some h
  rcases ite_some h with ⟨g1, h⟩ | ⟨g1, h⟩
  · have e := Option.some.inj h; subst e
    exact retT 100000 [.res (bl r101) [.undef, .undef, .undef], .t true] (aa (c_s_l1In x0 0 3 hr101) (aa g1 tt)) (by kernel_rfl)
  · have e := Option.some.inj h; subst e
    exact retT 100000 [.res (bl r101) [.undef, .undef, .undef], .t false] (aa (c_s_l1In x0 0 3 hr101) (aa g1 tt)) (by kernel_rfl)

abbrev R_s_ApbStates (x0 : Int) (r : List Int) : Ex → St → Prop := RetC Try.prog Mo 35 Try.f35 [il x0] (.own 3 (r.map encI), [.undef])

theorem c_s_ApbStates__L1 (x0 : Int) {r : List Int} : ∀ (m : Nat) (vbox_1_1 : GApb) (v3 : List Int), p_s_ApbStates__L1 x0  m vbox_1_1 v3 = some r → SX Try.prog (R_s_ApbStates x0 r) (at_ [1, 1, 1, 0, 0] (bodyOf Try.f35) []) .normal (mkS [(3, .sl (1, 2) 0 (v3.map encI).length), (4, .ptr (1, 1) 0 0)] [((1, 1), ⟨true, true, true, 0, [(GApb.enc vbox_1_1)]⟩), ((1, 2), ⟨false, true, true, 3, v3.map encI⟩)] 1) := by
  intro m
  induction m with
  | zero => intro vbox_1_1 v3 h; cases h
  | succ m ih =>
    intro vbox_1_1 v3 h
    replace h : p_s_ApbStates__L1b x0  _ vbox_1_1 v3 = some r := h
    unfold p_s_ApbStates__L1b at h
    rcases ite_some h with ⟨g1, h⟩ | ⟨g1, h⟩
    · obtain ⟨z404, hz404, h⟩ := bnd_some h
      obtain ⟨r501, hr501, h⟩ := bnd_some h
      exact cutT [((1, 1), (1, 1)), ((1, 2), (3, 4096))] 11 [.t true, .app ([vbox_1_1.state].map encI) true (z404.map encI) (z404.map encI).length, .k, .res (.tup [.agg (GApb.enc r501.1), bl r501.2]) [.undef], .num (z404.map encI).length 0 0 []] (aa g1 (aa (show 1 = ([vbox_1_1.state].map encI).length from rfl) (aa (Eq.refl ([vbox_1_1.state].map encI)) (aa (alr 1 encI_len [vbox_1_1.state]) (aa (lene encI v3) (aa (apl encI hz404) (aa (apm encI hz404) (aa (lene encI z404) (aa (c_s_ApbTick vbox_1_1 hr501) (aa (lene encI z404) tt)))))))))) (ih _ _ h) (by kernel_rfl) (by kernel_rfl)
    · have e := Option.some.inj h; subst e
      exact retT 100000 [.t false, .k] (aa g1 (aa (lene encI v3) tt)) (by kernel_rfl)

theorem c_s_ApbStates (x0 : Int) {r : List Int} (h : p_s_ApbStates x0 = some r) : Fine Try.prog Mo (35, [il x0], .own 3 (r.map encI), [.undef]) := by
  refine fineT Try.func35 rfl (by kernel_rfl) ?_
  unfold p_s_ApbStates at h
  obtain ⟨r201, hr201, h⟩ := bnd_some h
  exact cutT [((1, 1), (3, 2048)), ((1, 2), (2, 0))] 8 [.res (.agg (GApb.enc r201)) [.undef], .num ([].map encI).length 0 0 []] (aa (c_s_ApbStart x0 hr201) (aa (show 0 = ([].map encI).length from rfl) tt)) (c_s_ApbStates__L1 x0 _ _ _ h) (by kernel_rfl) (by kernel_rfl)

abbrev R_w_eqIntS (x0 : List Int) (x1 : List Int) (r : Bool) : Ex → St → Prop := RetC Try.prog Mo 36 Try.f36 [.tr (x0.map encI), .tr (x1.map encI)] (bl r, [.undef, .undef])

theorem c_w_eqIntS__L1 (x0 : List Int) (x1 : List Int) {r : Bool} : ∀ (m : Nat) (v5 : Int), p_w_eqIntS__L1 x0 x1  m v5 = some r → SX Try.prog (R_w_eqIntS x0 x1 r) (at_ [1, 1, 0, 1, 0] (bodyOf Try.f36) []) .normal (mkS [(0, .tr (x0.map encI)), (1, .tr (x1.map encI)), (5, il v5)] [] 1) := by
  intro m
  induction m with
  | zero => intro v5 h; cases h
  | succ m ih =>
    intro v5 h
    replace h : p_w_eqIntS__L1b x0 x1  _ v5 = some r := h
    unfold p_w_eqIntS__L1b at h
    rcases ite_some h with ⟨g1, h⟩ | ⟨g1, h⟩
    · obtain ⟨a602, ha602, h⟩ := bnd_some h
      obtain ⟨a606, ha606, h⟩ := bnd_some h
      rcases ite_some h with ⟨g2, h⟩ | ⟨g2, h⟩
      · have e := Option.some.inj h; subst e
        exact retT 100000 [.num x0.length 0 0 [], .t true, .row (v5 : Int).toNat (encI a602), .row (v5 : Int).toNat (encI a606), .t true] (aa (lenr encI x0) (aa g1 (aa (ixn ha602) (aa (ixr encI ha602) (aa (ixn ha606) (aa (ixr encI ha606) (aa g2 tt))))))) (by kernel_rfl)
      · exact cutT [] 14 [.num x0.length 0 0 [], .t true, .row (v5 : Int).toNat (encI a602), .row (v5 : Int).toNat (encI a606), .t false] (aa (lenr encI x0) (aa g1 (aa (ixn ha602) (aa (ixr encI ha602) (aa (ixn ha606) (aa (ixr encI ha606) (aa g2 tt))))))) (ih _ h) (by kernel_rfl) (by kernel_rfl)
    · have e := Option.some.inj h; subst e
      exact retT 100000 [.num x0.length 0 0 [], .t false] (aa (lenr encI x0) (aa g1 tt)) (by kernel_rfl)

theorem c_w_eqIntS (x0 : List Int) (x1 : List Int) {r : Bool} (h : p_w_eqIntS x0 x1 = some r) : Fine Try.prog Mo (36, [.tr (x0.map encI), .tr (x1.map encI)], bl r, [.undef, .undef]) := by
  refine fineT Try.func36 rfl (by kernel_rfl) ?_
  unfold p_w_eqIntS at h
  rcases ite_some h with ⟨g1, h⟩ | ⟨g1, h⟩
  · have e := Option.some.inj h; subst e
    exact retT 100000 [.num x0.length 0 0 [], .num x1.length 0 0 [], .t true] (aa (lenr encI x0) (aa (lenr encI x1) (aa g1 tt))) (by kernel_rfl)
  · exact cutT [] 11 [.num x0.length 0 0 [], .num x1.length 0 0 [], .t false] (aa (lenr encI x0) (aa (lenr encI x1) (aa g1 tt))) (c_w_eqIntS__L1 x0 x1 _ _ h) (by kernel_rfl) (by kernel_rfl)

abbrev R_w_markIntS (x0 : List Int) (x1 : Int) (r : Int × List Int) : Ex → St → Prop := RetC Try.prog Mo 37 Try.f37 [.tr (x0.map encI), il x1] (il r.1, [.undef, .undef])

theorem c_w_markIntS__L1 (x0 : List Int) (x1 : Int) {r : Int × List Int} : ∀ (m : Nat) , p_w_markIntS__L1 x0 x1  m  = some r → SX Try.prog (R_w_markIntS x0 x1 r) (at_ [1, 0, 1, 0] (bodyOf Try.f37) []) .normal (mkS [(0, .tr (x0.map encI)), (1, il x1), (5, il 0)] [] 1) := by
  intro m
  induction m with
  | zero => intro  h; cases h
  | succ m ih =>
    intro  h
    replace h : p_w_markIntS__L1b x0 x1  _  = some r := h
    unfold p_w_markIntS__L1b at h
    rcases ite_some h with ⟨g1, h⟩ | ⟨g1, h⟩
    · obtain ⟨a403, ha403, h⟩ := bnd_some h
      cases h
    · have e := Option.some.inj h; subst e
      exact retT 100000 [.num x0.length 0 0 [], .t false] (aa (lenr encI x0) (aa g1 tt)) (by kernel_rfl)

theorem c_w_markIntS (x0 : List Int) (x1 : Int) {r : Int × List Int} (h : p_w_markIntS x0 x1 = some r) : Fine Try.prog Mo (37, [.tr (x0.map encI), il x1], il r.1, [.undef, .undef]) := by
  refine fineT Try.func37 rfl (by kernel_rfl) ?_
  unfold p_w_markIntS at h
  exact cutT [] 6 [] tt (c_w_markIntS__L1 x0 x1 _ h) (by kernel_rfl) (by kernel_rfl)

abbrev R_w_heldIntS (x0 : List Int) (x1 : Int) (r : Int) : Ex → St → Prop := RetC Try.prog Mo 38 Try.f38 [.tr (x0.map encI), il x1] (il r, [.undef, .undef])

theorem c_w_heldIntS__L1 (x0 : List Int) (x1 : Int) {r : Int} : ∀ (m : Nat) (v1 : Int) (v5 : Int), p_w_heldIntS__L1 x0 x1  m v1 v5 = some r → SX Try.prog (R_w_heldIntS x0 x1 r) (at_ [1, 0, 1, 0] (bodyOf Try.f38) []) .normal (mkS [(0, .tr (x0.map encI)), (1, il v1), (5, il v5)] [] 1) := by
  intro m
  induction m with
  | zero => intro v1 v5 h; cases h
  | succ m ih =>
    intro v1 v5 h
    replace h : p_w_heldIntS__L1b x0 x1  _ v1 v5 = some r := h
    unfold p_w_heldIntS__L1b at h
    rcases ite_some h with ⟨g1, h⟩ | ⟨g1, h⟩
    · obtain ⟨a402, ha402, h⟩ := bnd_some h
      rcases ite_some h with ⟨g2, h⟩ | ⟨g2, h⟩
      · have e := Option.some.inj h; subst e
        exact retT 100000 [.num x0.length 0 0 [], .t true, .row (v5 : Int).toNat (encI a402), .t true] (aa (lenr encI x0) (aa g1 (aa (ixn ha402) (aa (ixr encI ha402) (aa g2 tt))))) (by kernel_rfl)
      · exact cutT [] 16 [.num x0.length 0 0 [], .t true, .row (v5 : Int).toNat (encI a402), .t false] (aa (lenr encI x0) (aa g1 (aa (ixn ha402) (aa (ixr encI ha402) (aa g2 tt))))) (ih _ _ h) (by kernel_rfl) (by kernel_rfl)
    · have e := Option.some.inj h; subst e
      exact retT 100000 [.num x0.length 0 0 [], .t false] (aa (lenr encI x0) (aa g1 tt)) (by kernel_rfl)

theorem c_w_heldIntS (x0 : List Int) (x1 : Int) {r : Int} (h : p_w_heldIntS x0 x1 = some r) : Fine Try.prog Mo (38, [.tr (x0.map encI), il x1], il r, [.undef, .undef]) := by
  refine fineT Try.func38 rfl (by kernel_rfl) ?_
  unfold p_w_heldIntS at h
  exact cutT [] 6 [] tt (c_w_heldIntS__L1 x0 x1 _ _ _ h) (by kernel_rfl) (by kernel_rfl)

abbrev R_w_markIntSq (x0 : List Int) (x1 : Int) (r : Int × List Int) : Ex → St → Prop := RetC Try.prog Mo 37 Try.f37 [.own 3 (x0.map encI), il x1] (il r.1, [.own 3 (r.2.map encI), .undef])

theorem c_w_markIntSq__L1 (x0 : List Int) (x1 : Int) {r : Int × List Int} : ∀ (m : Nat) (vpers_0_0 : List Int) (v1 : Int) (v5 : Int), p_w_markIntSq__L1 x0 x1  m vpers_0_0 v1 v5 = some r → SX Try.prog (R_w_markIntSq x0 x1 r) (at_ [1, 0, 1, 0] (bodyOf Try.f37) []) .normal (mkS [(0, .sl (0, 0) 0 (vpers_0_0.map encI).length), (1, il v1), (5, il v5)] [((0, 0), ⟨false, true, true, 3, vpers_0_0.map encI⟩)] 1) := by
  intro m
  induction m with
  | zero => intro vpers_0_0 v1 v5 h; cases h
  | succ m ih =>
    intro vpers_0_0 v1 v5 h
    replace h : p_w_markIntSq__L1b x0 x1  _ vpers_0_0 v1 v5 = some r := h
    unfold p_w_markIntSq__L1b at h
    rcases ite_some h with ⟨g1, h⟩ | ⟨g1, h⟩
    · obtain ⟨a403, ha403, h⟩ := bnd_some h
      obtain ⟨y404, hy404, h⟩ := bnd_some h
      exact cutT [] 13 [.num vpers_0_0.length 0 0 [], .t true, .row (v5 : Int).toNat (encI a403), .put (encI a403) (y404.map encI), .num (y404.map encI).length 0 0 []] (aa (lenr encI vpers_0_0) (aa g1 (aa (ixn ha403) (aa (ixl encI ha403) (aa (ixr encI ha403) (aa (ixr encI ha403) (aa (seto encI hy404) (aa (setl encI hy404) tt)))))))) (ih _ _ _ h) (by kernel_rfl) (by kernel_rfl)
    · obtain ⟨e0, he0, h⟩ := bnd_some h
      have e := Option.some.inj h; subst e
      exact retT 100000 [.num vpers_0_0.length 0 0 [], .t false, .k] (aa (lenr encI vpers_0_0) (aa g1 (aa (lenq encI he0) tt))) (by kernel_rfl)

theorem c_w_markIntSq (x0 : List Int) (x1 : Int) {r : Int × List Int} (h : p_w_markIntSq x0 x1 = some r) : Fine Try.prog Mo (37, [.own 3 (x0.map encI), il x1], il r.1, [.own 3 (r.2.map encI), .undef]) := by
  refine fineT Try.func37 rfl (by kernel_rfl) ?_
  unfold p_w_markIntSq at h
  exact cutT [] 6 [.num (x0.map encI).length 0 0 []] (aa (lene encI x0) tt) (c_w_markIntSq__L1 x0 x1 _ _ _ _ h) (by kernel_rfl) (by kernel_rfl)

abbrev R_w_FnExactApbStates (x0 : Int) (r : Bool) : Ex → St → Prop := RetC Try.prog Mo 8 Try.f8 [il x0] (bl r, [.undef])

theorem c_w_FnExactApbStates__J1 (x0 : Int) {r : Bool} (v3 : List Int) (v4 : List Int) (v5 : Int) (h : p_w_FnExactApbStates__J1 x0  v3 v4 v5 = some r) : SX Try.prog (R_w_FnExactApbStates x0 r) (at_ [1, 1, 1, 1, 1, 1] (bodyOf Try.f8) []) .normal (mkS [(0, il x0), (3, .sl (1, 1) 0 (v3.map encI).length), (4, .sl (1, 2) 0 (v4.map encI).length), (5, il v5)] [((1, 1), ⟨false, true, true, 3, v3.map encI⟩), ((1, 2), ⟨false, true, true, 3, v4.map encI⟩)] 1) := by
  unfold p_w_FnExactApbStates__J1 at h
  obtain ⟨r802, hr802, h⟩ := bnd_some h
  rcases ite_some h with ⟨g1, h⟩ | ⟨g1, h⟩
  · have e := Option.some.inj h; subst e
    exact retT 100000 [.k, .res (il r802) [.undef, .undef], .t true] (aa (lene encI v4) (aa (c_w_heldIntS v4 1 hr802) (aa g1 tt))) (by kernel_rfl)
  · rcases ite_some h with ⟨g2, h⟩ | ⟨g2, h⟩
    · have e := Option.some.inj h; subst e
      exact retT 100000 [.k, .res (il r802) [.undef, .undef], .t false, .t true] (aa (lene encI v4) (aa (c_w_heldIntS v4 1 hr802) (aa g1 (aa g2 tt)))) (by kernel_rfl)
    · obtain ⟨r1301, hr1301, h⟩ := bnd_some h
      obtain ⟨r1402, hr1402, h⟩ := bnd_some h
      rcases ite_some h with ⟨g3, h⟩ | ⟨g3, h⟩
      · have e := Option.some.inj h; subst e
        exact retT 100000 [.k, .res (il r802) [.undef, .undef], .t false, .t false, .res (.own 3 (r1301.map encI)) [.undef], .k, .k, .res (bl r1402) [.undef, .undef], .t true] (aa (lene encI v4) (aa (c_w_heldIntS v4 1 hr802) (aa g1 (aa g2 (aa (c_i_ApbStates x0 hr1301) (aa (lene encI r1301) (aa (lene encI v3) (aa (c_w_eqIntS r1301 v3 hr1402) (aa g3 tt))))))))) (by kernel_rfl)
      · obtain ⟨r1702, hr1702, h⟩ := bnd_some h
        rcases ite_some h with ⟨g4, h⟩ | ⟨g4, h⟩
        · have e := Option.some.inj h; subst e
          exact retT 100000 [.k, .res (il r802) [.undef, .undef], .t false, .t false, .res (.own 3 (r1301.map encI)) [.undef], .k, .k, .res (bl r1402) [.undef, .undef], .t false, .k, .res (il r1702) [.undef, .undef], .t true] (aa (lene encI v4) (aa (c_w_heldIntS v4 1 hr802) (aa g1 (aa g2 (aa (c_i_ApbStates x0 hr1301) (aa (lene encI r1301) (aa (lene encI v3) (aa (c_w_eqIntS r1301 v3 hr1402) (aa g3 (aa (lene encI v4) (aa (c_w_heldIntS v4 1 hr1702) (aa g4 tt)))))))))))) (by kernel_rfl)
        · rcases ite_some h with ⟨g5, h⟩ | ⟨g5, h⟩
          · have e := Option.some.inj h; subst e
            exact retT 100000 [.k, .res (il r802) [.undef, .undef], .t false, .t false, .res (.own 3 (r1301.map encI)) [.undef], .k, .k, .res (bl r1402) [.undef, .undef], .t false, .k, .res (il r1702) [.undef, .undef], .t false, .t true] (aa (lene encI v4) (aa (c_w_heldIntS v4 1 hr802) (aa g1 (aa g2 (aa (c_i_ApbStates x0 hr1301) (aa (lene encI r1301) (aa (lene encI v3) (aa (c_w_eqIntS r1301 v3 hr1402) (aa g3 (aa (lene encI v4) (aa (c_w_heldIntS v4 1 hr1702) (aa g4 (aa g5 tt))))))))))))) (by kernel_rfl)
          · have e := Option.some.inj h; subst e
            exact retT 100000 [.k, .res (il r802) [.undef, .undef], .t false, .t false, .res (.own 3 (r1301.map encI)) [.undef], .k, .k, .res (bl r1402) [.undef, .undef], .t false, .k, .res (il r1702) [.undef, .undef], .t false, .t false] (aa (lene encI v4) (aa (c_w_heldIntS v4 1 hr802) (aa g1 (aa g2 (aa (c_i_ApbStates x0 hr1301) (aa (lene encI r1301) (aa (lene encI v3) (aa (c_w_eqIntS r1301 v3 hr1402) (aa g3 (aa (lene encI v4) (aa (c_w_heldIntS v4 1 hr1702) (aa g4 (aa g5 tt))))))))))))) (by kernel_rfl)

theorem c_w_FnExactApbStates (x0 : Int) {r : Bool} (h : p_w_FnExactApbStates x0 = some r) : Fine Try.prog Mo (8, [il x0], bl r, [.undef]) := by
  refine fineT Try.func8 rfl (by kernel_rfl) ?_
  unfold p_w_FnExactApbStates at h
  obtain ⟨r101, hr101, h⟩ := bnd_some h
  obtain ⟨r201, hr201, h⟩ := bnd_some h
  obtain ⟨r302, hr302, h⟩ := bnd_some h
  rcases ite_some h with ⟨g1, h⟩ | ⟨g1, h⟩
  · have e := Option.some.inj h; subst e
    exact retT 100000 [.res (.own 3 (r101.map encI)) [.undef], .res (.own 3 (r201.map encI)) [.undef], .k, .k, .res (bl r302) [.undef, .undef], .t true] (aa (c_s_ApbStates x0 hr101) (aa (c_i_ApbStates x0 hr201) (aa (lene encI r201) (aa (lene encI r101) (aa (c_w_eqIntS r201 r101 hr302) (aa g1 tt)))))) (by kernel_rfl)
  · rcases ite_some h with ⟨g2, h⟩ | ⟨g2, h⟩
    · obtain ⟨r602, hr602, h⟩ := bnd_some h
      exact cutT [((1, 1), (2, 1024)), ((1, 2), (3, 1024))] 15 [.res (.own 3 (r101.map encI)) [.undef], .res (.own 3 (r201.map encI)) [.undef], .k, .k, .res (bl r302) [.undef, .undef], .t false, .t true, .res (il r602.1) [.undef, .undef], .t true, .num (r101.map encI).length 0 0 [], .num (r201.map encI).length 0 0 []] (aa (c_s_ApbStates x0 hr101) (aa (c_i_ApbStates x0 hr201) (aa (lene encI r201) (aa (lene encI r101) (aa (c_w_eqIntS r201 r101 hr302) (aa g1 (aa (lz encI g2) (aa (c_w_markIntS [] 1 hr602) (aa (lz encI g2) (aa (lene encI r101) (aa (lene encI r201) tt))))))))))) (c_w_FnExactApbStates__J1 x0 _ _ _ h) (by kernel_rfl) (by kernel_rfl)
    · obtain ⟨r602, hr602, h⟩ := bnd_some h
      obtain ⟨q3_1024, hq3_1024, h⟩ := bnd_some h
      exact cutT [((1, 1), (2, 1024)), ((1, 2), (3, 1024))] 15 [.res (.own 3 (r101.map encI)) [.undef], .res (.own 3 (r201.map encI)) [.undef], .k, .k, .res (bl r302) [.undef, .undef], .t false, .t false, .k, .res (il r602.1) [.own 3 (r602.2.map encI), .undef], .t false, .num (r101.map encI).length 0 0 [], .num (r602.2.map encI).length 0 0 []] (aa (c_s_ApbStates x0 hr101) (aa (c_i_ApbStates x0 hr201) (aa (lene encI r201) (aa (lene encI r101) (aa (c_w_eqIntS r201 r101 hr302) (aa g1 (aa (lnz encI g2) (aa (lene encI r201) (aa (c_w_markIntSq r201 1 hr602) (aa (lnz encI g2) (aa (lene encI r101) (aa (lenq encI hq3_1024) tt)))))))))))) (c_w_FnExactApbStates__J1 x0 _ _ _ h) (by kernel_rfl) (by kernel_rfl)

abbrev R_w_szDoneS (x0 : List GDone) (x1 : Int) (r : Int) : Ex → St → Prop := RetC Try.prog Mo 39 Try.f39 [.tr (x0.map GDone.enc), il x1] (il r, [.undef, .undef])

theorem c_w_szDoneS (x0 : List GDone) (x1 : Int) {r : Int} (h : p_w_szDoneS x0 x1 = some r) : Fine Try.prog Mo (39, [.tr (x0.map GDone.enc), il x1], il r, [.undef, .undef]) := by
  refine fineT Try.func39 rfl (by kernel_rfl) ?_
  unfold p_w_szDoneS at h
  rcases ite_some h with ⟨g1, h⟩ | ⟨g1, h⟩
  · have e := Option.some.inj h; subst e
    exact retT 100000 [.num x0.length 0 0 [], .t true] (aa (lenr GDone.enc x0) (aa g1 tt)) (by kernel_rfl)
  · have e := Option.some.inj h; subst e
    exact retT 100000 [.num x0.length 0 0 [], .t false] (aa (lenr GDone.enc x0) (aa g1 tt)) (by kernel_rfl)

abbrev R_w_toDone (x0 : GDone) (r : GDone) : Ex → St → Prop := RetC Try.prog Mo 77 Try.f77 [.agg (GDone.enc x0)] (.agg (GDone.enc r), [.undef])

theorem c_w_toDone (x0 : GDone) {r : GDone} (h : p_w_toDone x0 = some r) : Fine Try.prog Mo (77, [.agg (GDone.enc x0)], .agg (GDone.enc r), [.undef]) := by
  refine fineT Try.func77 rfl (by kernel_rfl) ?_
  unfold p_w_toDone at h
  have e := Option.some.inj h; subst e
  exact retT 100000 [] tt (by kernel_rfl)

abbrev R_w_toDoneS (x0 : List GDone) (r : List GDone) : Ex → St → Prop := RetC Try.prog Mo 41 Try.f41 [.tr (x0.map GDone.enc)] (.own 87 (r.map GDone.enc), [.undef])

theorem c_w_toDoneS__L1 (x0 : List GDone) {r : List GDone} : ∀ (m : Nat) (v3 : List GDone) (v4 : Int), p_w_toDoneS__L1 x0  m v3 v4 = some r → SX Try.prog (R_w_toDoneS x0 r) (at_ [1, 1, 0, 1, 0] (bodyOf Try.f41) []) .normal (mkS [(0, .tr (x0.map GDone.enc)), (3, .sl (1, 1) 0 (v3.map GDone.enc).length), (4, il v4)] [((1, 1), ⟨false, true, true, 87, v3.map GDone.enc⟩)] 1) := by
  intro m
  induction m with
  | zero => intro v3 v4 h; cases h
  | succ m ih =>
    intro v3 v4 h
    replace h : p_w_toDoneS__L1b x0  _ v3 v4 = some r := h
    unfold p_w_toDoneS__L1b at h
    rcases ite_some h with ⟨g1, h⟩ | ⟨g1, h⟩
    · obtain ⟨a504, ha504, h⟩ := bnd_some h
      obtain ⟨r506, hr506, h⟩ := bnd_some h
      obtain ⟨a507, ha507, h⟩ := bnd_some h
      obtain ⟨y508, hy508, h⟩ := bnd_some h
      exact cutT [((1, 1), (1, 1))] 11 [.num x0.length 0 0 [], .t true, .row (v4 : Int).toNat (GDone.enc a504), .res (.agg (GDone.enc r506)) [.undef], .row (v4 : Int).toNat (GDone.enc a507), .put (GDone.enc a507) (y508.map GDone.enc), .num (y508.map GDone.enc).length 0 0 []] (aa (lenr GDone.enc x0) (aa g1 (aa (ixn ha504) (aa (ixr GDone.enc ha504) (aa (c_w_toDone a504 hr506) (aa (ixn ha507) (aa (ixl GDone.enc ha507) (aa (ixr GDone.enc ha507) (aa (ixr GDone.enc ha507) (aa (seto GDone.enc hy508) (aa (setl GDone.enc hy508) tt))))))))))) (ih _ _ h) (by kernel_rfl) (by kernel_rfl)
    · have e := Option.some.inj h; subst e
      exact retT 100000 [.num x0.length 0 0 [], .t false, .k] (aa (lenr GDone.enc x0) (aa g1 (aa (lene GDone.enc v3) tt))) (by kernel_rfl)

theorem c_w_toDoneS (x0 : List GDone) {r : List GDone} (h : p_w_toDoneS x0 = some r) : Fine Try.prog Mo (41, [.tr (x0.map GDone.enc)], .own 87 (r.map GDone.enc), [.undef]) := by
  refine fineT Try.func41 rfl (by kernel_rfl) ?_
  unfold p_w_toDoneS at h
  obtain ⟨m102, hm102, h⟩ := bnd_some h
  exact cutT [((1, 1), (2, 2048))] 8 [.num x0.length 0 0 [], .mk ((x0.length : Int) : Int).toNat (m102.map GDone.enc), .num (m102.map GDone.enc).length 0 0 []] (aa (lenr GDone.enc x0) (aa (mkn hm102) (aa (mkn hm102) (aa (mkl hm102) (aa (mkr GDone.enc hm102) (aa (lene GDone.enc m102) tt)))))) (c_w_toDoneS__L1 x0 _ _ _ h) (by kernel_rfl) (by kernel_rfl)

abbrev R_s_ValuesOf (x0 : List GDone) (r : List Int) : Ex → St → Prop := RetC Try.prog Mo 40 Try.f40 [.tr (x0.map GDone.enc)] (.own 3 (r.map encI), [.undef])

theorem c_s_ValuesOf__L1 (x0 : List GDone) {r : List Int} : ∀ (m : Nat) (v3 : List Int) (v4 : Int), p_s_ValuesOf__L1 x0  m v3 v4 = some r → SX Try.prog (R_s_ValuesOf x0 r) (at_ [1, 1, 0, 1, 0] (bodyOf Try.f40) []) .normal (mkS [(0, .tr (x0.map GDone.enc)), (3, .sl (1, 1) 0 (v3.map encI).length), (4, il v4)] [((1, 1), ⟨false, true, true, 3, v3.map encI⟩)] 1) := by
  intro m
  induction m with
  | zero => intro v3 v4 h; cases h
  | succ m ih =>
    intro v3 v4 h
    replace h : p_s_ValuesOf__L1b x0  _ v3 v4 = some r := h
    unfold p_s_ValuesOf__L1b at h
    rcases ite_some h with ⟨g1, h⟩ | ⟨g1, h⟩
    · obtain ⟨a503, ha503, h⟩ := bnd_some h
      obtain ⟨z507, hz507, h⟩ := bnd_some h
      exact cutT [((1, 1), (3, 7168))] 11 [.num x0.length 0 0 [], .t true, .row (v4 : Int).toNat (GDone.enc a503), .app ([a503.value].map encI) true (z507.map encI) (z507.map encI).length, .k, .num (z507.map encI).length 0 0 []] (aa (lenr GDone.enc x0) (aa g1 (aa (ixn ha503) (aa (ixr GDone.enc ha503) (aa (show 1 = ([a503.value].map encI).length from rfl) (aa (Eq.refl ([a503.value].map encI)) (aa (alr 1 encI_len [a503.value]) (aa (lene encI v3) (aa (apl encI hz507) (aa (apm encI hz507) (aa (lene encI z507) (aa (lene encI z507) tt)))))))))))) (ih _ _ h) (by kernel_rfl) (by kernel_rfl)
    · have e := Option.some.inj h; subst e
      exact retT 100000 [.num x0.length 0 0 [], .t false, .k] (aa (lenr GDone.enc x0) (aa g1 (aa (lene encI v3) tt))) (by kernel_rfl)

theorem c_s_ValuesOf (x0 : List GDone) {r : List Int} (h : p_s_ValuesOf x0 = some r) : Fine Try.prog Mo (40, [.tr (x0.map GDone.enc)], .own 3 (r.map encI), [.undef]) := by
  refine fineT Try.func40 rfl (by kernel_rfl) ?_
  unfold p_s_ValuesOf at h
  exact cutT [((1, 1), (2, 0))] 8 [.num ([].map encI).length 0 0 []] (aa (show 0 = ([].map encI).length from rfl) tt) (c_s_ValuesOf__L1 x0 _ _ _ h) (by kernel_rfl) (by kernel_rfl)

abbrev R_i_ValuesOf (x0 : List GDone) (r : List Int) : Ex → St → Prop := RetC Try.prog Mo 42 Try.f42 [.tr (x0.map GDone.enc)] (.own 3 (r.map encI), [.undef])

theorem c_i_ValuesOf__L1 (x0 : List GDone) {r : List Int} : ∀ (m : Nat) (v3 : List Int) (v9 : Int), p_i_ValuesOf__L1 x0  m v3 v9 = some r → SX Try.prog (R_i_ValuesOf x0 r) (at_ [1, 1, 0, 1, 0] (bodyOf Try.f42) []) .normal (mkS [(3, .sl (1, 1) 0 (v3.map encI).length), (7, .tr (x0.map GDone.enc)), (8, il (x0.length : Int)), (9, il v9)] [((1, 1), ⟨false, true, true, 3, v3.map encI⟩)] 1) := by
  intro m
  induction m with
  | zero => intro v3 v9 h; cases h
  | succ m ih =>
    intro v3 v9 h
    replace h : p_i_ValuesOf__L1b x0  _ v3 v9 = some r := h
    unfold p_i_ValuesOf__L1b at h
    rcases ite_some h with ⟨g1, h⟩ | ⟨g1, h⟩
    · obtain ⟨a400, ha400, h⟩ := bnd_some h
      obtain ⟨z504, hz504, h⟩ := bnd_some h
      exact cutT [((1, 1), (4, 4096))] 13 [.t true, .row (v9 : Int).toNat (GDone.enc a400), .app ([a400.value].map encI) true (z504.map encI) (z504.map encI).length, .k, .num (z504.map encI).length 0 0 []] (aa g1 (aa (ixn ha400) (aa (ixr GDone.enc ha400) (aa (show 1 = ([a400.value].map encI).length from rfl) (aa (Eq.refl ([a400.value].map encI)) (aa (alr 1 encI_len [a400.value]) (aa (lene encI v3) (aa (apl encI hz504) (aa (apm encI hz504) (aa (lene encI z504) (aa (lene encI z504) tt))))))))))) (ih _ _ h) (by kernel_rfl) (by kernel_rfl)
    · have e := Option.some.inj h; subst e
      exact retT 100000 [.t false, .k] (aa g1 (aa (lene encI v3) tt)) (by kernel_rfl)

theorem c_i_ValuesOf (x0 : List GDone) {r : List Int} (h : p_i_ValuesOf x0 = some r) : Fine Try.prog Mo (42, [.tr (x0.map GDone.enc)], .own 3 (r.map encI), [.undef]) := by
  refine fineT Try.func42 rfl (by kernel_rfl) ?_
  unfold p_i_ValuesOf at h
  exact cutT [((1, 1), (2, 0))] 8 [.num x0.length 0 0 [], .num ([].map encI).length 0 0 []] (aa (lenr GDone.enc x0) (aa (show 0 = ([].map encI).length from rfl) tt)) (c_i_ValuesOf__L1 x0 _ _ _ h) (by kernel_rfl) (by kernel_rfl)

abbrev R_w_eqDone (x0 : GDone) (x1 : GDone) (r : Bool) : Ex → St → Prop := RetC Try.prog Mo 78 Try.f78 [.agg (GDone.enc x0), .agg (GDone.enc x1)] (bl r, [.undef, .undef])

theorem c_w_eqDone (x0 : GDone) (x1 : GDone) {r : Bool} (h : p_w_eqDone x0 x1 = some r) : Fine Try.prog Mo (78, [.agg (GDone.enc x0), .agg (GDone.enc x1)], bl r, [.undef, .undef]) := by
  refine fineT Try.func78 rfl (by kernel_rfl) ?_
  unfold p_w_eqDone at h
  rcases ite_some h with ⟨g1, h⟩ | ⟨g1, h⟩
  · have e := Option.some.inj h; subst e
    exact retT 100000 [.t true] (aa g1 tt) (by kernel_rfl)
  · rcases ite_some h with ⟨g2, h⟩ | ⟨g2, h⟩
    · have e := Option.some.inj h; subst e
      exact retT 100000 [.t false, .t true] (aa g1 (aa g2 tt)) (by kernel_rfl)
    · rcases ite_some h with ⟨g3, h⟩ | ⟨g3, h⟩
      · have e := Option.some.inj h; subst e
        exact retT 100000 [.t false, .t false, .t true] (aa g1 (aa g2 (aa g3 tt))) (by kernel_rfl)
      · rcases ite_some h with ⟨g4, h⟩ | ⟨g4, h⟩
        · have e := Option.some.inj h; subst e
          exact retT 100000 [.t false, .t false, .t false, .t true] (aa g1 (aa g2 (aa g3 (aa g4 tt)))) (by kernel_rfl)
        · rcases ite_some h with ⟨g5, h⟩ | ⟨g5, h⟩
          · have e := Option.some.inj h; subst e
            exact retT 100000 [.t false, .t false, .t false, .t false, .t true] (aa g1 (aa g2 (aa g3 (aa g4 (aa g5 tt))))) (by kernel_rfl)
          · rcases ite_some h with ⟨g6, h⟩ | ⟨g6, h⟩
            · have e := Option.some.inj h; subst e
              exact retT 100000 [.t false, .t false, .t false, .t false, .t false, .t true] (aa g1 (aa g2 (aa g3 (aa g4 (aa g5 (aa g6 tt)))))) (by kernel_rfl)
            · rcases ite_some h with ⟨g7, h⟩ | ⟨g7, h⟩
              · have e := Option.some.inj h; subst e
                exact retT 100000 [.t false, .t false, .t false, .t false, .t false, .t false, .t true] (aa g1 (aa g2 (aa g3 (aa g4 (aa g5 (aa g6 (aa g7 tt))))))) (by kernel_rfl)
              · have e := Option.some.inj h; subst e
                exact retT 100000 [.t false, .t false, .t false, .t false, .t false, .t false, .t false] (aa g1 (aa g2 (aa g3 (aa g4 (aa g5 (aa g6 (aa g7 tt))))))) (by kernel_rfl)

abbrev R_w_eqDoneS (x0 : List GDone) (x1 : List GDone) (r : Bool) : Ex → St → Prop := RetC Try.prog Mo 43 Try.f43 [.tr (x0.map GDone.enc), .tr (x1.map GDone.enc)] (bl r, [.undef, .undef])

theorem c_w_eqDoneS__L1 (x0 : List GDone) (x1 : List GDone) {r : Bool} : ∀ (m : Nat) (v5 : Int), p_w_eqDoneS__L1 x0 x1  m v5 = some r → SX Try.prog (R_w_eqDoneS x0 x1 r) (at_ [1, 1, 0, 1, 0] (bodyOf Try.f43) []) .normal (mkS [(0, .tr (x0.map GDone.enc)), (1, .tr (x1.map GDone.enc)), (5, il v5)] [] 1) := by
  intro m
  induction m with
  | zero => intro v5 h; cases h
  | succ m ih =>
    intro v5 h
    replace h : p_w_eqDoneS__L1b x0 x1  _ v5 = some r := h
    unfold p_w_eqDoneS__L1b at h
    rcases ite_some h with ⟨g1, h⟩ | ⟨g1, h⟩
    · obtain ⟨a602, ha602, h⟩ := bnd_some h
      obtain ⟨a606, ha606, h⟩ := bnd_some h
      obtain ⟨r608, hr608, h⟩ := bnd_some h
      rcases ite_some h with ⟨g2, h⟩ | ⟨g2, h⟩
      · have e := Option.some.inj h; subst e
        exact retT 100000 [.num x0.length 0 0 [], .t true, .row (v5 : Int).toNat (GDone.enc a602), .row (v5 : Int).toNat (GDone.enc a606), .res (bl r608) [.undef, .undef], .t true] (aa (lenr GDone.enc x0) (aa g1 (aa (ixn ha602) (aa (ixr GDone.enc ha602) (aa (ixn ha606) (aa (ixr GDone.enc ha606) (aa (c_w_eqDone a602 a606 hr608) (aa g2 tt)))))))) (by kernel_rfl)
      · exact cutT [] 14 [.num x0.length 0 0 [], .t true, .row (v5 : Int).toNat (GDone.enc a602), .row (v5 : Int).toNat (GDone.enc a606), .res (bl r608) [.undef, .undef], .t false] (aa (lenr GDone.enc x0) (aa g1 (aa (ixn ha602) (aa (ixr GDone.enc ha602) (aa (ixn ha606) (aa (ixr GDone.enc ha606) (aa (c_w_eqDone a602 a606 hr608) (aa g2 tt)))))))) (ih _ h) (by kernel_rfl) (by kernel_rfl)
    · have e := Option.some.inj h; subst e
      exact retT 100000 [.num x0.length 0 0 [], .t false] (aa (lenr GDone.enc x0) (aa g1 tt)) (by kernel_rfl)

theorem c_w_eqDoneS (x0 : List GDone) (x1 : List GDone) {r : Bool} (h : p_w_eqDoneS x0 x1 = some r) : Fine Try.prog Mo (43, [.tr (x0.map GDone.enc), .tr (x1.map GDone.enc)], bl r, [.undef, .undef]) := by
  refine fineT Try.func43 rfl (by kernel_rfl) ?_
  unfold p_w_eqDoneS at h
  rcases ite_some h with ⟨g1, h⟩ | ⟨g1, h⟩
  · have e := Option.some.inj h; subst e
    exact retT 100000 [.num x0.length 0 0 [], .num x1.length 0 0 [], .t true] (aa (lenr GDone.enc x0) (aa (lenr GDone.enc x1) (aa g1 tt))) (by kernel_rfl)
  · exact cutT [] 11 [.num x0.length 0 0 [], .num x1.length 0 0 [], .t false] (aa (lenr GDone.enc x0) (aa (lenr GDone.enc x1) (aa g1 tt))) (c_w_eqDoneS__L1 x0 x1 _ _ h) (by kernel_rfl) (by kernel_rfl)

abbrev R_w_markDoneS (x0 : List GDone) (x1 : Int) (r : Int × List GDone) : Ex → St → Prop := RetC Try.prog Mo 44 Try.f44 [.tr (x0.map GDone.enc), il x1] (il r.1, [.undef, .undef])

theorem c_w_markDoneS__L1 (x0 : List GDone) (x1 : Int) {r : Int × List GDone} : ∀ (m : Nat) , p_w_markDoneS__L1 x0 x1  m  = some r → SX Try.prog (R_w_markDoneS x0 x1 r) (at_ [1, 0, 1, 0] (bodyOf Try.f44) []) .normal (mkS [(0, .tr (x0.map GDone.enc)), (1, il x1), (5, il 0)] [] 1) := by
  intro m
  induction m with
  | zero => intro  h; cases h
  | succ m ih =>
    intro  h
    replace h : p_w_markDoneS__L1b x0 x1  _  = some r := h
    unfold p_w_markDoneS__L1b at h
    rcases ite_some h with ⟨g1, h⟩ | ⟨g1, h⟩
    · obtain ⟨a403, ha403, h⟩ := bnd_some h
      cases h
    · have e := Option.some.inj h; subst e
      exact retT 100000 [.num x0.length 0 0 [], .t false] (aa (lenr GDone.enc x0) (aa g1 tt)) (by kernel_rfl)

theorem c_w_markDoneS (x0 : List GDone) (x1 : Int) {r : Int × List GDone} (h : p_w_markDoneS x0 x1 = some r) : Fine Try.prog Mo (44, [.tr (x0.map GDone.enc), il x1], il r.1, [.undef, .undef]) := by
  refine fineT Try.func44 rfl (by kernel_rfl) ?_
  unfold p_w_markDoneS at h
  exact cutT [] 6 [] tt (c_w_markDoneS__L1 x0 x1 _ h) (by kernel_rfl) (by kernel_rfl)

abbrev R_w_markDoneSq (x0 : List GDone) (x1 : Int) (r : Int × List GDone) : Ex → St → Prop := RetC Try.prog Mo 44 Try.f44 [.own 87 (x0.map GDone.enc), il x1] (il r.1, [.own 87 (r.2.map GDone.enc), .undef])

theorem c_w_markDoneSq__L1 (x0 : List GDone) (x1 : Int) {r : Int × List GDone} : ∀ (m : Nat) (vpers_0_0 : List GDone) (v1 : Int) (v5 : Int), p_w_markDoneSq__L1 x0 x1  m vpers_0_0 v1 v5 = some r → SX Try.prog (R_w_markDoneSq x0 x1 r) (at_ [1, 0, 1, 0] (bodyOf Try.f44) []) .normal (mkS [(0, .sl (0, 0) 0 (vpers_0_0.map GDone.enc).length), (1, il v1), (5, il v5)] [((0, 0), ⟨false, true, true, 87, vpers_0_0.map GDone.enc⟩)] 1) := by
  intro m
  induction m with
  | zero => intro vpers_0_0 v1 v5 h; cases h
  | succ m ih =>
    intro vpers_0_0 v1 v5 h
    replace h : p_w_markDoneSq__L1b x0 x1  _ vpers_0_0 v1 v5 = some r := h
    unfold p_w_markDoneSq__L1b at h
    rcases ite_some h with ⟨g1, h⟩ | ⟨g1, h⟩
    · obtain ⟨a403, ha403, h⟩ := bnd_some h
      obtain ⟨y405, hy405, h⟩ := bnd_some h
      obtain ⟨a603, ha603, h⟩ := bnd_some h
      obtain ⟨y605, hy605, h⟩ := bnd_some h
      obtain ⟨a805, ha805, h⟩ := bnd_some h
      obtain ⟨y807, hy807, h⟩ := bnd_some h
      obtain ⟨a1003, ha1003, h⟩ := bnd_some h
      obtain ⟨y1005, hy1005, h⟩ := bnd_some h
      obtain ⟨a1203, ha1203, h⟩ := bnd_some h
      obtain ⟨y1205, hy1205, h⟩ := bnd_some h
      obtain ⟨a1403, ha1403, h⟩ := bnd_some h
      obtain ⟨y1405, hy1405, h⟩ := bnd_some h
      obtain ⟨a1603, ha1603, h⟩ := bnd_some h
      obtain ⟨y1605, hy1605, h⟩ := bnd_some h
      exact cutT [] 37 [.num vpers_0_0.length 0 0 [], .t true, .row (v5 : Int).toNat (GDone.enc a403), .put (GDone.enc a403) (y405.map GDone.enc), .row (v5 : Int).toNat (GDone.enc a603), .put (GDone.enc a603) (y605.map GDone.enc), .k, .row (v5 : Int).toNat (GDone.enc a805), .put (GDone.enc a805) (y807.map GDone.enc), .row (v5 : Int).toNat (GDone.enc a1003), .put (GDone.enc a1003) (y1005.map GDone.enc), .row (v5 : Int).toNat (GDone.enc a1203), .put (GDone.enc a1203) (y1205.map GDone.enc), .row (v5 : Int).toNat (GDone.enc a1403), .put (GDone.enc a1403) (y1405.map GDone.enc), .row (v5 : Int).toNat (GDone.enc a1603), .put (GDone.enc a1603) (y1605.map GDone.enc), .num (y1605.map GDone.enc).length 0 0 []] (aa (lenr GDone.enc vpers_0_0) (aa g1 (aa (ixn ha403) (aa (ixl GDone.enc ha403) (aa (ixr GDone.enc ha403) (aa (ixr GDone.enc ha403) (aa (seto GDone.enc hy405) (aa (ixn ha603) (aa (ixc GDone.enc ha603 (setl GDone.enc hy405)) (aa (ixr GDone.enc ha603) (aa (ixr GDone.enc ha603) (aa (seto GDone.enc hy605) (aa (ixn ha805) (aa (ixc GDone.enc ha805 ((setl GDone.enc hy405).trans (setl GDone.enc hy605))) (aa (ixr GDone.enc ha805) (aa (ixr GDone.enc ha805) (aa (seto GDone.enc hy807) (aa (ixn ha1003) (aa (ixc GDone.enc ha1003 ((setl GDone.enc hy405).trans ((setl GDone.enc hy605).trans (setl GDone.enc hy807)))) (aa (ixr GDone.enc ha1003) (aa (ixr GDone.enc ha1003) (aa (seto GDone.enc hy1005) (aa (ixn ha1203) (aa (ixc GDone.enc ha1203 ((setl GDone.enc hy405).trans ((setl GDone.enc hy605).trans ((setl GDone.enc hy807).trans (setl GDone.enc hy1005))))) (aa (ixr GDone.enc ha1203) (aa (ixr GDone.enc ha1203) (aa (seto GDone.enc hy1205) (aa (ixn ha1403) (aa (ixc GDone.enc ha1403 ((setl GDone.enc hy405).trans ((setl GDone.enc hy605).trans ((setl GDone.enc hy807).trans ((setl GDone.enc hy1005).trans (setl GDone.enc hy1205)))))) (aa (ixr GDone.enc ha1403) (aa (ixr GDone.enc ha1403) (aa (seto GDone.enc hy1405) (aa (ixn ha1603) (aa (ixc GDone.enc ha1603 ((setl GDone.enc hy405).trans ((setl GDone.enc hy605).trans ((setl GDone.enc hy807).trans ((setl GDone.enc hy1005).trans ((setl GDone.enc hy1205).trans (setl GDone.enc hy1405))))))) (aa (ixr GDone.enc ha1603) (aa (ixr GDone.enc ha1603) (aa (seto GDone.enc hy1605) (aa ((setl GDone.enc hy405).trans ((setl GDone.enc hy605).trans ((setl GDone.enc hy807).trans ((setl GDone.enc hy1005).trans ((setl GDone.enc hy1205).trans ((setl GDone.enc hy1405).trans (setl GDone.enc hy1605))))))) tt)))))))))))))))))))))))))))))))))))))) (ih _ _ _ h) (by kernel_rfl) (by kernel_rfl)
    · obtain ⟨e0, he0, h⟩ := bnd_some h
      have e := Option.some.inj h; subst e
      exact retT 100000 [.num vpers_0_0.length 0 0 [], .t false, .k] (aa (lenr GDone.enc vpers_0_0) (aa g1 (aa (lenq GDone.enc he0) tt))) (by kernel_rfl)

theorem c_w_markDoneSq (x0 : List GDone) (x1 : Int) {r : Int × List GDone} (h : p_w_markDoneSq x0 x1 = some r) : Fine Try.prog Mo (44, [.own 87 (x0.map GDone.enc), il x1], il r.1, [.own 87 (r.2.map GDone.enc), .undef]) := by
  refine fineT Try.func44 rfl (by kernel_rfl) ?_
  unfold p_w_markDoneSq at h
  exact cutT [] 6 [.num (x0.map GDone.enc).length 0 0 []] (aa (lene GDone.enc x0) tt) (c_w_markDoneSq__L1 x0 x1 _ _ _ _ h) (by kernel_rfl) (by kernel_rfl)

abbrev R_w_FnExactValuesOf (x0 : List GDone) (r : Bool) : Ex → St → Prop := RetC Try.prog Mo 9 Try.f9 [.tr (x0.map GDone.enc)] (bl r, [.undef])

theorem c_w_FnExactValuesOf__J3 (x0 : List GDone) {r : Bool} (v4 : List Int) (v6 : List Int) (v8 : Int) (h : p_w_FnExactValuesOf__J3 x0  v4 v6 v8 = some r) : SX Try.prog (R_w_FnExactValuesOf x0 r) (at_ [1, 1, 1, 1, 1, 1, 1, 1, 1, 1, 1, 1, 1, 1] (bodyOf Try.f9) []) .normal (mkS [(0, .tr (x0.map GDone.enc)), (4, .sl (1, 1) 0 (v4.map encI).length), (6, .sl (1, 2) 0 (v6.map encI).length), (8, il v8)] [((1, 1), ⟨false, true, true, 3, v4.map encI⟩), ((1, 2), ⟨false, true, true, 3, v6.map encI⟩)] 1) := by
  unfold p_w_FnExactValuesOf__J3 at h
  obtain ⟨r1902, hr1902, h⟩ := bnd_some h
  rcases ite_some h with ⟨g1, h⟩ | ⟨g1, h⟩
  · have e := Option.some.inj h; subst e
    exact retT 100000 [.k, .res (il r1902) [.undef, .undef], .t true] (aa (lene encI v6) (aa (c_w_heldIntS v6 1 hr1902) (aa g1 tt))) (by kernel_rfl)
  · rcases ite_some h with ⟨g2, h⟩ | ⟨g2, h⟩
    · have e := Option.some.inj h; subst e
      exact retT 100000 [.k, .res (il r1902) [.undef, .undef], .t false, .t true] (aa (lene encI v6) (aa (c_w_heldIntS v6 1 hr1902) (aa g1 (aa g2 tt)))) (by kernel_rfl)
    · obtain ⟨r2401, hr2401, h⟩ := bnd_some h
      obtain ⟨r2402, hr2402, h⟩ := bnd_some h
      obtain ⟨r2502, hr2502, h⟩ := bnd_some h
      rcases ite_some h with ⟨g3, h⟩ | ⟨g3, h⟩
      · have e := Option.some.inj h; subst e
        exact retT 100000 [.k, .res (il r1902) [.undef, .undef], .t false, .t false, .res (.own 87 (r2401.map GDone.enc)) [.undef], .k, .res (.own 3 (r2402.map encI)) [.undef], .k, .k, .res (bl r2502) [.undef, .undef], .t true] (aa (lene encI v6) (aa (c_w_heldIntS v6 1 hr1902) (aa g1 (aa g2 (aa (c_w_toDoneS x0 hr2401) (aa (lene GDone.enc r2401) (aa (c_i_ValuesOf r2401 hr2402) (aa (lene encI r2402) (aa (lene encI v4) (aa (c_w_eqIntS r2402 v4 hr2502) (aa g3 tt))))))))))) (by kernel_rfl)
      · obtain ⟨r2802, hr2802, h⟩ := bnd_some h
        rcases ite_some h with ⟨g4, h⟩ | ⟨g4, h⟩
        · have e := Option.some.inj h; subst e
          exact retT 100000 [.k, .res (il r1902) [.undef, .undef], .t false, .t false, .res (.own 87 (r2401.map GDone.enc)) [.undef], .k, .res (.own 3 (r2402.map encI)) [.undef], .k, .k, .res (bl r2502) [.undef, .undef], .t false, .k, .res (il r2802) [.undef, .undef], .t true] (aa (lene encI v6) (aa (c_w_heldIntS v6 1 hr1902) (aa g1 (aa g2 (aa (c_w_toDoneS x0 hr2401) (aa (lene GDone.enc r2401) (aa (c_i_ValuesOf r2401 hr2402) (aa (lene encI r2402) (aa (lene encI v4) (aa (c_w_eqIntS r2402 v4 hr2502) (aa g3 (aa (lene encI v6) (aa (c_w_heldIntS v6 1 hr2802) (aa g4 tt)))))))))))))) (by kernel_rfl)
        · rcases ite_some h with ⟨g5, h⟩ | ⟨g5, h⟩
          · have e := Option.some.inj h; subst e
            exact retT 100000 [.k, .res (il r1902) [.undef, .undef], .t false, .t false, .res (.own 87 (r2401.map GDone.enc)) [.undef], .k, .res (.own 3 (r2402.map encI)) [.undef], .k, .k, .res (bl r2502) [.undef, .undef], .t false, .k, .res (il r2802) [.undef, .undef], .t false, .t true] (aa (lene encI v6) (aa (c_w_heldIntS v6 1 hr1902) (aa g1 (aa g2 (aa (c_w_toDoneS x0 hr2401) (aa (lene GDone.enc r2401) (aa (c_i_ValuesOf r2401 hr2402) (aa (lene encI r2402) (aa (lene encI v4) (aa (c_w_eqIntS r2402 v4 hr2502) (aa g3 (aa (lene encI v6) (aa (c_w_heldIntS v6 1 hr2802) (aa g4 (aa g5 tt))))))))))))))) (by kernel_rfl)
          · have e := Option.some.inj h; subst e
            exact retT 100000 [.k, .res (il r1902) [.undef, .undef], .t false, .t false, .res (.own 87 (r2401.map GDone.enc)) [.undef], .k, .res (.own 3 (r2402.map encI)) [.undef], .k, .k, .res (bl r2502) [.undef, .undef], .t false, .k, .res (il r2802) [.undef, .undef], .t false, .t false] (aa (lene encI v6) (aa (c_w_heldIntS v6 1 hr1902) (aa g1 (aa g2 (aa (c_w_toDoneS x0 hr2401) (aa (lene GDone.enc r2401) (aa (c_i_ValuesOf r2401 hr2402) (aa (lene encI r2402) (aa (lene encI v4) (aa (c_w_eqIntS r2402 v4 hr2502) (aa g3 (aa (lene encI v6) (aa (c_w_heldIntS v6 1 hr2802) (aa g4 (aa g5 tt))))))))))))))) (by kernel_rfl)

theorem c_w_FnExactValuesOf__J2 (x0 : List GDone) {r : Bool} (v4 : List Int) (v6 : List Int) (v42 : Bool) (h : p_w_FnExactValuesOf__J2 x0  v4 v6 v42 = some r) : SX Try.prog (R_w_FnExactValuesOf x0 r) (at_ [1, 1, 1, 1, 1, 1, 1, 1, 1, 1, 1, 0, 1] (bodyOf Try.f9) []) .normal (mkS [(0, .tr (x0.map GDone.enc)), (4, .sl (1, 1) 0 (v4.map encI).length), (6, .sl (1, 2) 0 (v6.map encI).length), (42, bl v42)] [((1, 1), ⟨false, true, true, 3, v4.map encI⟩), ((1, 2), ⟨false, true, true, 3, v6.map encI⟩)] 1) := by
  unfold p_w_FnExactValuesOf__J2 at h
  rcases ite_some h with ⟨g1, h⟩ | ⟨g1, h⟩
  · have e := Option.some.inj h; subst e
    exact retT 100000 [.t true] (aa g1 tt) (by kernel_rfl)
  · rcases ite_some h with ⟨g2, h⟩ | ⟨g2, h⟩
    · obtain ⟨r1702, hr1702, h⟩ := bnd_some h
      exact cutT [((1, 1), (1, 1)), ((1, 2), (1, 2))] 6 [.t false, .t true, .res (il r1702.1) [.undef, .undef], .t true, .num (v4.map encI).length 0 0 [], .num (v6.map encI).length 0 0 []] (aa g1 (aa (lz encI g2) (aa (c_w_markIntS [] 1 hr1702) (aa (lz encI g2) (aa (lene encI v4) (aa (lene encI v6) tt)))))) (c_w_FnExactValuesOf__J3 x0 _ _ _ h) (by kernel_rfl) (by kernel_rfl)
    · obtain ⟨r1702, hr1702, h⟩ := bnd_some h
      obtain ⟨q1_2, hq1_2, h⟩ := bnd_some h
      exact cutT [((1, 1), (1, 1)), ((1, 2), (1, 2))] 6 [.t false, .t false, .k, .res (il r1702.1) [.own 3 (r1702.2.map encI), .undef], .t false, .num (v4.map encI).length 0 0 [], .num (r1702.2.map encI).length 0 0 []] (aa g1 (aa (lnz encI g2) (aa (lene encI v6) (aa (c_w_markIntSq v6 1 hr1702) (aa (lnz encI g2) (aa (lene encI v4) (aa (lenq encI hq1_2) tt))))))) (c_w_FnExactValuesOf__J3 x0 _ _ _ h) (by kernel_rfl) (by kernel_rfl)

theorem c_w_FnExactValuesOf__J1 (x0 : List GDone) {r : Bool} (v4 : List Int) (v6 : List Int) (v7 : Int) (h : p_w_FnExactValuesOf__J1 x0  v4 v6 v7 = some r) : SX Try.prog (R_w_FnExactValuesOf x0 r) (at_ [1, 1, 1, 1, 1, 1, 1, 1, 1, 1, 1] (bodyOf Try.f9) []) .normal (mkS [(0, .tr (x0.map GDone.enc)), (4, .sl (1, 1) 0 (v4.map encI).length), (6, .sl (1, 2) 0 (v6.map encI).length), (7, il v7)] [((1, 1), ⟨false, true, true, 3, v4.map encI⟩), ((1, 2), ⟨false, true, true, 3, v6.map encI⟩)] 1) := by
  unfold p_w_FnExactValuesOf__J1 at h
  rcases ite_some h with ⟨g1, h⟩ | ⟨g1, h⟩
  · exact cutT [((1, 1), (1, 1)), ((1, 2), (1, 2))] 3 [.t true, .k, .k, .k, .k, .num (v4.map encI).length 0 0 [], .num (v6.map encI).length 0 0 []] (aa g1 (aa (lene encI v4) (aa (lene encI v6) tt))) (c_w_FnExactValuesOf__J2 x0 _ _ _ h) (by kernel_rfl) (by kernel_rfl)
  · obtain ⟨r1405, hr1405, h⟩ := bnd_some h
    exact cutT [((1, 1), (1, 1)), ((1, 2), (1, 2))] 3 [.t false, .k, .k, .k, .k, .res (bl r1405) [.undef, .undef], .k, .k, .num (v4.map encI).length 0 0 [], .num (v6.map encI).length 0 0 []] (aa g1 (aa (lene encI v6) (aa (lene encI v4) (aa (c_w_eqIntS v6 v4 hr1405) (aa (lene encI v4) (aa (lene encI v6) tt)))))) (c_w_FnExactValuesOf__J2 x0 _ _ _ h) (by kernel_rfl) (by kernel_rfl)

theorem c_w_FnExactValuesOf (x0 : List GDone) {r : Bool} (h : p_w_FnExactValuesOf x0 = some r) : Fine Try.prog Mo (9, [.tr (x0.map GDone.enc)], bl r, [.undef]) := by
  refine fineT Try.func9 rfl (by kernel_rfl) ?_
  unfold p_w_FnExactValuesOf at h
  obtain ⟨r202, hr202, h⟩ := bnd_some h
  rcases ite_some h with ⟨g1, h⟩ | ⟨g1, h⟩
  · have e := Option.some.inj h; subst e
    exact retT 100000 [.res (il r202) [.undef, .undef], .t true] (aa (c_w_szDoneS x0 1048576 hr202) (aa g1 tt)) (by kernel_rfl)
  · obtain ⟨r501, hr501, h⟩ := bnd_some h
    obtain ⟨r502, hr502, h⟩ := bnd_some h
    obtain ⟨r601, hr601, h⟩ := bnd_some h
    obtain ⟨r701, hr701, h⟩ := bnd_some h
    obtain ⟨r802, hr802, h⟩ := bnd_some h
    rcases ite_some h with ⟨g2, h⟩ | ⟨g2, h⟩
    · have e := Option.some.inj h; subst e
      exact retT 100000 [.res (il r202) [.undef, .undef], .t false, .res (.own 87 (r501.map GDone.enc)) [.undef], .k, .res (.own 3 (r502.map encI)) [.undef], .res (.own 87 (r601.map GDone.enc)) [.undef], .k, .res (.own 3 (r701.map encI)) [.undef], .k, .k, .res (bl r802) [.undef, .undef], .t true] (aa (c_w_szDoneS x0 1048576 hr202) (aa g1 (aa (c_w_toDoneS x0 hr501) (aa (lene GDone.enc r501) (aa (c_s_ValuesOf r501 hr502) (aa (c_w_toDoneS x0 hr601) (aa (lene GDone.enc r601) (aa (c_i_ValuesOf r601 hr701) (aa (lene encI r701) (aa (lene encI r502) (aa (c_w_eqIntS r701 r502 hr802) (aa g2 tt)))))))))))) (by kernel_rfl)
    · obtain ⟨r1002, hr1002, h⟩ := bnd_some h
      obtain ⟨r1003, hr1003, h⟩ := bnd_some h
      rcases ite_some h with ⟨g3, h⟩ | ⟨g3, h⟩
      · have e := Option.some.inj h; subst e
        exact retT 100000 [.res (il r202) [.undef, .undef], .t false, .res (.own 87 (r501.map GDone.enc)) [.undef], .k, .res (.own 3 (r502.map encI)) [.undef], .res (.own 87 (r601.map GDone.enc)) [.undef], .k, .res (.own 3 (r701.map encI)) [.undef], .k, .k, .res (bl r802) [.undef, .undef], .t false, .res (.own 87 (r1002.map GDone.enc)) [.undef], .k, .k, .res (bl r1003) [.undef, .undef], .t true] (aa (c_w_szDoneS x0 1048576 hr202) (aa g1 (aa (c_w_toDoneS x0 hr501) (aa (lene GDone.enc r501) (aa (c_s_ValuesOf r501 hr502) (aa (c_w_toDoneS x0 hr601) (aa (lene GDone.enc r601) (aa (c_i_ValuesOf r601 hr701) (aa (lene encI r701) (aa (lene encI r502) (aa (c_w_eqIntS r701 r502 hr802) (aa g2 (aa (c_w_toDoneS x0 hr1002) (aa (lene GDone.enc r601) (aa (lene GDone.enc r1002) (aa (c_w_eqDoneS r601 r1002 hr1003) (aa g3 tt))))))))))))))))) (by kernel_rfl)
      · rcases ite_some h with ⟨g4, h⟩ | ⟨g4, h⟩
        · obtain ⟨r1302, hr1302, h⟩ := bnd_some h
          exact cutT [((1, 1), (5, 2048)), ((1, 2), (7, 1024))] 31 [.res (il r202) [.undef, .undef], .t false, .res (.own 87 (r501.map GDone.enc)) [.undef], .k, .res (.own 3 (r502.map encI)) [.undef], .res (.own 87 (r601.map GDone.enc)) [.undef], .k, .res (.own 3 (r701.map encI)) [.undef], .k, .k, .res (bl r802) [.undef, .undef], .t false, .res (.own 87 (r1002.map GDone.enc)) [.undef], .k, .k, .res (bl r1003) [.undef, .undef], .t false, .t true, .res (il r1302.1) [.undef, .undef], .t true, .num (r502.map encI).length 0 0 [], .num (r701.map encI).length 0 0 []] (aa (c_w_szDoneS x0 1048576 hr202) (aa g1 (aa (c_w_toDoneS x0 hr501) (aa (lene GDone.enc r501) (aa (c_s_ValuesOf r501 hr502) (aa (c_w_toDoneS x0 hr601) (aa (lene GDone.enc r601) (aa (c_i_ValuesOf r601 hr701) (aa (lene encI r701) (aa (lene encI r502) (aa (c_w_eqIntS r701 r502 hr802) (aa g2 (aa (c_w_toDoneS x0 hr1002) (aa (lene GDone.enc r601) (aa (lene GDone.enc r1002) (aa (c_w_eqDoneS r601 r1002 hr1003) (aa g3 (aa (lz GDone.enc g4) (aa (c_w_markDoneS [] 1 hr1302) (aa (lz GDone.enc g4) (aa (lene encI r502) (aa (lene encI r701) tt)))))))))))))))))))))) (c_w_FnExactValuesOf__J1 x0 _ _ _ h) (by kernel_rfl) (by kernel_rfl)
        · obtain ⟨r1302, hr1302, h⟩ := bnd_some h
          obtain ⟨q6_1024, hq6_1024, h⟩ := bnd_some h
          exact cutT [((1, 1), (5, 2048)), ((1, 2), (7, 1024))] 31 [.res (il r202) [.undef, .undef], .t false, .res (.own 87 (r501.map GDone.enc)) [.undef], .k, .res (.own 3 (r502.map encI)) [.undef], .res (.own 87 (r601.map GDone.enc)) [.undef], .k, .res (.own 3 (r701.map encI)) [.undef], .k, .k, .res (bl r802) [.undef, .undef], .t false, .res (.own 87 (r1002.map GDone.enc)) [.undef], .k, .k, .res (bl r1003) [.undef, .undef], .t false, .t false, .k, .res (il r1302.1) [.own 87 (r1302.2.map GDone.enc), .undef], .t false, .num (r502.map encI).length 0 0 [], .num (r701.map encI).length 0 0 []] (aa (c_w_szDoneS x0 1048576 hr202) (aa g1 (aa (c_w_toDoneS x0 hr501) (aa (lene GDone.enc r501) (aa (c_s_ValuesOf r501 hr502) (aa (c_w_toDoneS x0 hr601) (aa (lene GDone.enc r601) (aa (c_i_ValuesOf r601 hr701) (aa (lene encI r701) (aa (lene encI r502) (aa (c_w_eqIntS r701 r502 hr802) (aa g2 (aa (c_w_toDoneS x0 hr1002) (aa (lene GDone.enc r601) (aa (lene GDone.enc r1002) (aa (c_w_eqDoneS r601 r1002 hr1003) (aa g3 (aa (lnz GDone.enc g4) (aa (lene GDone.enc r601) (aa (c_w_markDoneSq r601 1 hr1302) (aa (lnz GDone.enc g4) (aa (lene encI r502) (aa (lene encI r701) tt))))))))))))))))))))))) (c_w_FnExactValuesOf__J1 x0 _ _ _ h) (by kernel_rfl) (by kernel_rfl)

abbrev R_w_szIntS (x0 : List Int) (x1 : Int) (r : Int) : Ex → St → Prop := RetC Try.prog Mo 80 Try.f80 [.tr (x0.map encI), il x1] (il r, [.undef, .undef])

theorem c_w_szIntS (x0 : List Int) (x1 : Int) {r : Int} (h : p_w_szIntS x0 x1 = some r) : Fine Try.prog Mo (80, [.tr (x0.map encI), il x1], il r, [.undef, .undef]) := by
  refine fineT Try.func80 rfl (by kernel_rfl) ?_
  unfold p_w_szIntS at h
  rcases ite_some h with ⟨g1, h⟩ | ⟨g1, h⟩
  · have e := Option.some.inj h; subst e
    exact retT 100000 [.num x0.length 0 0 [], .t true] (aa (lenr encI x0) (aa g1 tt)) (by kernel_rfl)
  · have e := Option.some.inj h; subst e
    exact retT 100000 [.num x0.length 0 0 [], .t false] (aa (lenr encI x0) (aa g1 tt)) (by kernel_rfl)

abbrev R_w_szReq (x0 : GReq) (x1 : Int) (r : Int) : Ex → St → Prop := RetC Try.prog Mo 118 Try.f118 [.agg (GReq.enc x0), il x1] (il r, [.undef, .undef])

theorem c_w_szReq (x0 : GReq) (x1 : Int) {r : Int} (h : p_w_szReq x0 x1 = some r) : Fine Try.prog Mo (118, [.agg (GReq.enc x0), il x1], il r, [.undef, .undef]) := by
  refine fineT Try.func118 rfl (by kernel_rfl) ?_
  unfold p_w_szReq at h
  obtain ⟨r103, hr103, h⟩ := bnd_some h
  rcases ite_some h with ⟨g1, h⟩ | ⟨g1, h⟩
  · have e := Option.some.inj h; subst e
    exact retT 100000 [.res (il r103) [.undef, .undef], .t true] (aa (c_w_szIntS x0.data_ x1 hr103) (aa g1 tt)) (by kernel_rfl)
  · have e := Option.some.inj h; subst e
    exact retT 100000 [.res (il r103) [.undef, .undef], .t false] (aa (c_w_szIntS x0.data_ x1 hr103) (aa g1 tt)) (by kernel_rfl)

abbrev R_w_szPost (x0 : GPost) (x1 : Int) (r : Int) : Ex → St → Prop := RetC Try.prog Mo 103 Try.f103 [.agg (GPost.enc x0), il x1] (il r, [.undef, .undef])

theorem c_w_szPost (x0 : GPost) (x1 : Int) {r : Int} (h : p_w_szPost x0 x1 = some r) : Fine Try.prog Mo (103, [.agg (GPost.enc x0), il x1], il r, [.undef, .undef]) := by
  refine fineT Try.func103 rfl (by kernel_rfl) ?_
  unfold p_w_szPost at h
  obtain ⟨r103, hr103, h⟩ := bnd_some h
  rcases ite_some h with ⟨g1, h⟩ | ⟨g1, h⟩
  · have e := Option.some.inj h; subst e
    exact retT 100000 [.res (il r103) [.undef, .undef], .t true] (aa (c_w_szReq x0.req x1 hr103) (aa g1 tt)) (by kernel_rfl)
  · have e := Option.some.inj h; subst e
    exact retT 100000 [.res (il r103) [.undef, .undef], .t false] (aa (c_w_szReq x0.req x1 hr103) (aa g1 tt)) (by kernel_rfl)

abbrev R_w_szPostS (x0 : List GPost) (x1 : Int) (r : Int) : Ex → St → Prop := RetC Try.prog Mo 79 Try.f79 [.tr (x0.map GPost.enc), il x1] (il r, [.undef, .undef])

theorem c_w_szPostS__L1 (x0 : List GPost) (x1 : Int) {r : Int} : ∀ (m : Nat) (v1 : Int) (v5 : Int), p_w_szPostS__L1 x0 x1  m v1 v5 = some r → SX Try.prog (R_w_szPostS x0 x1 r) (at_ [1, 1, 1, 0, 1, 0] (bodyOf Try.f79) []) .normal (mkS [(0, .tr (x0.map GPost.enc)), (1, il v1), (5, il v5)] [] 1) := by
  intro m
  induction m with
  | zero => intro v1 v5 h; cases h
  | succ m ih =>
    intro v1 v5 h
    replace h : p_w_szPostS__L1b x0 x1  _ v1 v5 = some r := h
    unfold p_w_szPostS__L1b at h
    rcases ite_some h with ⟨g1, h⟩ | ⟨g1, h⟩
    · obtain ⟨a702, ha702, h⟩ := bnd_some h
      obtain ⟨r705, hr705, h⟩ := bnd_some h
      rcases ite_some h with ⟨g2, h⟩ | ⟨g2, h⟩
      · have e := Option.some.inj h; subst e
        exact retT 100000 [.num x0.length 0 0 [], .t true, .row (v5 : Int).toNat (GPost.enc a702), .res (il r705) [.undef, .undef], .t true] (aa (lenr GPost.enc x0) (aa g1 (aa (ixn ha702) (aa (ixr GPost.enc ha702) (aa (c_w_szPost a702 v1 hr705) (aa g2 tt)))))) (by kernel_rfl)
      · exact cutT [] 16 [.num x0.length 0 0 [], .t true, .row (v5 : Int).toNat (GPost.enc a702), .res (il r705) [.undef, .undef], .t false] (aa (lenr GPost.enc x0) (aa g1 (aa (ixn ha702) (aa (ixr GPost.enc ha702) (aa (c_w_szPost a702 v1 hr705) (aa g2 tt)))))) (ih _ _ h) (by kernel_rfl) (by kernel_rfl)
    · have e := Option.some.inj h; subst e
      exact retT 100000 [.num x0.length 0 0 [], .t false] (aa (lenr GPost.enc x0) (aa g1 tt)) (by kernel_rfl)

theorem c_w_szPostS (x0 : List GPost) (x1 : Int) {r : Int} (h : p_w_szPostS x0 x1 = some r) : Fine Try.prog Mo (79, [.tr (x0.map GPost.enc), il x1], il r, [.undef, .undef]) := by
  refine fineT Try.func79 rfl (by kernel_rfl) ?_
  unfold p_w_szPostS at h
  rcases ite_some h with ⟨g1, h⟩ | ⟨g1, h⟩
  · have e := Option.some.inj h; subst e
    exact retT 100000 [.num x0.length 0 0 [], .t true] (aa (lenr GPost.enc x0) (aa g1 tt)) (by kernel_rfl)
  · exact cutT [] 13 [.num x0.length 0 0 [], .t false] (aa (lenr GPost.enc x0) (aa g1 tt)) (c_w_szPostS__L1 x0 x1 _ _ _ h) (by kernel_rfl) (by kernel_rfl)

abbrev R_w_szScript (x0 : GScript) (x1 : Int) (r : Int) : Ex → St → Prop := RetC Try.prog Mo 45 Try.f45 [.agg (GScript.enc x0), il x1] (il r, [.undef, .undef])

theorem c_w_szScript (x0 : GScript) (x1 : Int) {r : Int} (h : p_w_szScript x0 x1 = some r) : Fine Try.prog Mo (45, [.agg (GScript.enc x0), il x1], il r, [.undef, .undef]) := by
  refine fineT Try.func45 rfl (by kernel_rfl) ?_
  unfold p_w_szScript at h
  obtain ⟨r103, hr103, h⟩ := bnd_some h
  rcases ite_some h with ⟨g1, h⟩ | ⟨g1, h⟩
  · have e := Option.some.inj h; subst e
    exact retT 100000 [.res (il r103) [.undef, .undef], .t true] (aa (c_w_szPostS x0.posts x1 hr103) (aa g1 tt)) (by kernel_rfl)
  · obtain ⟨r403, hr403, h⟩ := bnd_some h
    rcases ite_some h with ⟨g2, h⟩ | ⟨g2, h⟩
    · have e := Option.some.inj h; subst e
      exact retT 100000 [.res (il r103) [.undef, .undef], .t false, .res (il r403) [.undef, .undef], .t true] (aa (c_w_szPostS x0.posts x1 hr103) (aa g1 (aa (c_w_szIntS x0.waits r103 hr403) (aa g2 tt)))) (by kernel_rfl)
    · obtain ⟨r703, hr703, h⟩ := bnd_some h
      rcases ite_some h with ⟨g3, h⟩ | ⟨g3, h⟩
      · have e := Option.some.inj h; subst e
        exact retT 100000 [.res (il r103) [.undef, .undef], .t false, .res (il r403) [.undef, .undef], .t false, .res (il r703) [.undef, .undef], .t true] (aa (c_w_szPostS x0.posts x1 hr103) (aa g1 (aa (c_w_szIntS x0.waits r103 hr403) (aa g2 (aa (c_w_szIntS x0.says r403 hr703) (aa g3 tt)))))) (by kernel_rfl)
      · have e := Option.some.inj h; subst e
        exact retT 100000 [.res (il r103) [.undef, .undef], .t false, .res (il r403) [.undef, .undef], .t false, .res (il r703) [.undef, .undef], .t false] (aa (c_w_szPostS x0.posts x1 hr103) (aa g1 (aa (c_w_szIntS x0.waits r103 hr403) (aa g2 (aa (c_w_szIntS x0.says r403 hr703) (aa g3 tt)))))) (by kernel_rfl)

abbrev R_w_toIntS (x0 : List Int) (r : List Int) : Ex → St → Prop := RetC Try.prog Mo 82 Try.f82 [.tr (x0.map encI)] (.own 3 (r.map encI), [.undef])

theorem c_w_toIntS__L1 (x0 : List Int) {r : List Int} : ∀ (m : Nat) (v3 : List Int) (v4 : Int), p_w_toIntS__L1 x0  m v3 v4 = some r → SX Try.prog (R_w_toIntS x0 r) (at_ [1, 1, 0, 1, 0] (bodyOf Try.f82) []) .normal (mkS [(0, .tr (x0.map encI)), (3, .sl (1, 1) 0 (v3.map encI).length), (4, il v4)] [((1, 1), ⟨false, true, true, 3, v3.map encI⟩)] 1) := by
  intro m
  induction m with
  | zero => intro v3 v4 h; cases h
  | succ m ih =>
    intro v3 v4 h
    replace h : p_w_toIntS__L1b x0  _ v3 v4 = some r := h
    unfold p_w_toIntS__L1b at h
    rcases ite_some h with ⟨g1, h⟩ | ⟨g1, h⟩
    · obtain ⟨a504, ha504, h⟩ := bnd_some h
      obtain ⟨a506, ha506, h⟩ := bnd_some h
      obtain ⟨y507, hy507, h⟩ := bnd_some h
      exact cutT [((1, 1), (1, 1))] 11 [.num x0.length 0 0 [], .t true, .row (v4 : Int).toNat (encI a504), .row (v4 : Int).toNat (encI a506), .put (encI a506) (y507.map encI), .num (y507.map encI).length 0 0 []] (aa (lenr encI x0) (aa g1 (aa (ixn ha504) (aa (ixr encI ha504) (aa (ixn ha506) (aa (ixl encI ha506) (aa (ixr encI ha506) (aa (ixr encI ha506) (aa (seto encI hy507) (aa (setl encI hy507) tt)))))))))) (ih _ _ h) (by kernel_rfl) (by kernel_rfl)
    · have e := Option.some.inj h; subst e
      exact retT 100000 [.num x0.length 0 0 [], .t false, .k] (aa (lenr encI x0) (aa g1 (aa (lene encI v3) tt))) (by kernel_rfl)

theorem c_w_toIntS (x0 : List Int) {r : List Int} (h : p_w_toIntS x0 = some r) : Fine Try.prog Mo (82, [.tr (x0.map encI)], .own 3 (r.map encI), [.undef]) := by
  refine fineT Try.func82 rfl (by kernel_rfl) ?_
  unfold p_w_toIntS at h
  obtain ⟨m102, hm102, h⟩ := bnd_some h
  exact cutT [((1, 1), (2, 2048))] 8 [.num x0.length 0 0 [], .mk ((x0.length : Int) : Int).toNat (m102.map encI), .num (m102.map encI).length 0 0 []] (aa (lenr encI x0) (aa (mkn hm102) (aa (mkn hm102) (aa (mkl hm102) (aa (mkr encI hm102) (aa (lene encI m102) tt)))))) (c_w_toIntS__L1 x0 _ _ _ h) (by kernel_rfl) (by kernel_rfl)

abbrev R_w_toReq (x0 : GReq) (r : GReq) : Ex → St → Prop := RetC Try.prog Mo 119 Try.f119 [.agg (GReq.enc x0)] (.agg [bl r.write, il r.addr, il r.size, il r.burst, bl r.lock, .own 3 (r.data_.map encI)], [.undef])

theorem c_w_toReq (x0 : GReq) {r : GReq} (h : p_w_toReq x0 = some r) : Fine Try.prog Mo (119, [.agg (GReq.enc x0)], .agg [bl r.write, il r.addr, il r.size, il r.burst, bl r.lock, .own 3 (r.data_.map encI)], [.undef]) := by
  refine fineT Try.func119 rfl (by kernel_rfl) ?_
  unfold p_w_toReq at h
  obtain ⟨r702, hr702, h⟩ := bnd_some h
  have e := Option.some.inj h; subst e
  exact retT 100000 [.res (.own 3 (r702.map encI)) [.undef], .k] (aa (c_w_toIntS x0.data_ hr702) (aa (lene encI r702) tt)) (by kernel_rfl)

abbrev R_w_toPost (x0 : GPost) (r : GPost) : Ex → St → Prop := RetC Try.prog Mo 104 Try.f104 [.agg (GPost.enc x0)] (.agg [il r.at_, il r.who, bl r.req.write, il r.req.addr, il r.req.size, il r.req.burst, bl r.req.lock, .own 3 (r.req.data_.map encI)], [.undef])

theorem c_w_toPost (x0 : GPost) {r : GPost} (h : p_w_toPost x0 = some r) : Fine Try.prog Mo (104, [.agg (GPost.enc x0)], .agg [il r.at_, il r.who, bl r.req.write, il r.req.addr, il r.req.size, il r.req.burst, bl r.req.lock, .own 3 (r.req.data_.map encI)], [.undef]) := by
  refine fineT Try.func104 rfl (by kernel_rfl) ?_
  unfold p_w_toPost at h
  obtain ⟨r402, hr402, h⟩ := bnd_some h
  have e := Option.some.inj h; subst e
  exact retT 100000 [.res (.agg [bl r402.write, il r402.addr, il r402.size, il r402.burst, bl r402.lock, .own 3 (r402.data_.map encI)]) [.undef], .k] (aa (c_w_toReq x0.req hr402) (aa (lene encI r402.data_) tt)) (by kernel_rfl)

abbrev R_w_toPostS (x0 : List GPost) (r : List GPost) : Ex → St → Prop := RetC Try.prog Mo 81 Try.f81 [.tr (x0.map GPost.enc)] (.own 108 (r.map GPost.enc), [.undef])

theorem c_w_toPostS__L1 (x0 : List GPost) {r : List GPost} : ∀ (m : Nat) (v3 : List GPost) (v4 : Int), p_w_toPostS__L1 x0  m v3 v4 = some r → SX Try.prog (R_w_toPostS x0 r) (at_ [1, 1, 0, 1, 0] (bodyOf Try.f81) []) .normal (mkS [(0, .tr (x0.map GPost.enc)), (3, .sl (1, 1) 0 (v3.map GPost.enc).length), (4, il v4)] [((1, 1), ⟨false, true, true, 108, v3.map GPost.enc⟩)] 1) := by
  intro m
  induction m with
  | zero => intro v3 v4 h; cases h
  | succ m ih =>
    intro v3 v4 h
    replace h : p_w_toPostS__L1b x0  _ v3 v4 = some r := h
    unfold p_w_toPostS__L1b at h
    rcases ite_some h with ⟨g1, h⟩ | ⟨g1, h⟩
    · obtain ⟨a504, ha504, h⟩ := bnd_some h
      obtain ⟨r506, hr506, h⟩ := bnd_some h
      obtain ⟨a507, ha507, h⟩ := bnd_some h
      obtain ⟨y508, hy508, h⟩ := bnd_some h
      exact cutT [((1, 1), (1, 1))] 11 [.num x0.length 0 0 [], .t true, .row (v4 : Int).toNat (GPost.enc a504), .res (.agg [il r506.at_, il r506.who, bl r506.req.write, il r506.req.addr, il r506.req.size, il r506.req.burst, bl r506.req.lock, .own 3 (r506.req.data_.map encI)]) [.undef], .row (v4 : Int).toNat (GPost.enc a507), .put (GPost.enc a507) (y508.map GPost.enc), .k, .num (y508.map GPost.enc).length 0 0 []] (aa (lenr GPost.enc x0) (aa g1 (aa (ixn ha504) (aa (ixr GPost.enc ha504) (aa (c_w_toPost a504 hr506) (aa (ixn ha507) (aa (ixl GPost.enc ha507) (aa (ixr GPost.enc ha507) (aa (ixr GPost.enc ha507) (aa (lene encI r506.req.data_) (aa (seto GPost.enc hy508) (aa (setl GPost.enc hy508) tt)))))))))))) (ih _ _ h) (by kernel_rfl) (by kernel_rfl)
    · have e := Option.some.inj h; subst e
      exact retT 100000 [.num x0.length 0 0 [], .t false, .k] (aa (lenr GPost.enc x0) (aa g1 (aa (lene GPost.enc v3) tt))) (by kernel_rfl)

theorem c_w_toPostS (x0 : List GPost) {r : List GPost} (h : p_w_toPostS x0 = some r) : Fine Try.prog Mo (81, [.tr (x0.map GPost.enc)], .own 108 (r.map GPost.enc), [.undef]) := by
  refine fineT Try.func81 rfl (by kernel_rfl) ?_
  unfold p_w_toPostS at h
  obtain ⟨m102, hm102, h⟩ := bnd_some h
  exact cutT [((1, 1), (2, 2048))] 8 [.num x0.length 0 0 [], .mk ((x0.length : Int) : Int).toNat (m102.map GPost.enc), .num (m102.map GPost.enc).length 0 0 []] (aa (lenr GPost.enc x0) (aa (mkn hm102) (aa (mkn hm102) (aa (mkl hm102) (aa (mkr GPost.enc hm102) (aa (lene GPost.enc m102) tt)))))) (c_w_toPostS__L1 x0 _ _ _ h) (by kernel_rfl) (by kernel_rfl)

abbrev R_w_toScript (x0 : GScript) (r : GScript) : Ex → St → Prop := RetC Try.prog Mo 47 Try.f47 [.agg (GScript.enc x0)] (.agg [.own 108 (r.posts.map GPost.enc), .own 3 (r.waits.map encI), .own 3 (r.says.map encI)], [.undef])

theorem c_w_toScript (x0 : GScript) {r : GScript} (h : p_w_toScript x0 = some r) : Fine Try.prog Mo (47, [.agg (GScript.enc x0)], .agg [.own 108 (r.posts.map GPost.enc), .own 3 (r.waits.map encI), .own 3 (r.says.map encI)], [.undef]) := by
  refine fineT Try.func47 rfl (by kernel_rfl) ?_
  unfold p_w_toScript at h
  obtain ⟨r202, hr202, h⟩ := bnd_some h
  obtain ⟨r302, hr302, h⟩ := bnd_some h
  obtain ⟨r402, hr402, h⟩ := bnd_some h
  have e := Option.some.inj h; subst e
  exact retT 100000 [.res (.own 108 (r202.map GPost.enc)) [.undef], .res (.own 3 (r302.map encI)) [.undef], .res (.own 3 (r402.map encI)) [.undef], .k, .k, .k] (aa (c_w_toPostS x0.posts hr202) (aa (c_w_toIntS x0.waits hr302) (aa (c_w_toIntS x0.says hr402) (aa (lene GPost.enc r202) (aa (lene encI r302) (aa (lene encI r402) tt)))))) (by kernel_rfl)

abbrev R_s_LastPost (x0 : GScript) (r : Int) : Ex → St → Prop := RetC Try.prog Mo 46 Try.f46 [.agg (GScript.enc x0)] (il r, [.undef])

theorem c_s_LastPost__L1 (x0 : GScript) {r : Int} : ∀ (m : Nat) (v3 : Int) (v4 : Int), p_s_LastPost__L1 x0  m v3 v4 = some r → SX Try.prog (R_s_LastPost x0 r) (at_ [1, 1, 0, 1, 0] (bodyOf Try.f46) []) .normal (mkS [(1, .ptr (1, 1) 0 0), (3, il v3), (4, il v4)] [((1, 1), ⟨true, true, true, 0, [(GScript.enc x0)]⟩)] 1) := by
  intro m
  induction m with
  | zero => intro v3 v4 h; cases h
  | succ m ih =>
    intro v3 v4 h
    replace h : p_s_LastPost__L1b x0  _ v3 v4 = some r := h
    unfold p_s_LastPost__L1b at h
    rcases ite_some h with ⟨g1, h⟩ | ⟨g1, h⟩
    · obtain ⟨a504, ha504, h⟩ := bnd_some h
      exact cutT [((1, 1), (1, 1))] 11 [.num x0.posts.length 0 0 [], .t true, .row (v4 : Int).toNat (GPost.enc a504)] (aa (lenr GPost.enc x0.posts) (aa g1 (aa (ixn ha504) (aa (ixr GPost.enc ha504) tt)))) (ih _ _ h) (by kernel_rfl) (by kernel_rfl)
    · have e := Option.some.inj h; subst e
      exact retT 100000 [.num x0.posts.length 0 0 [], .t false] (aa (lenr GPost.enc x0.posts) (aa g1 tt)) (by kernel_rfl)

theorem c_s_LastPost (x0 : GScript) {r : Int} (h : p_s_LastPost x0 = some r) : Fine Try.prog Mo (46, [.agg (GScript.enc x0)], il r, [.undef]) := by
  refine fineT Try.func46 rfl (by kernel_rfl) ?_
  unfold p_s_LastPost at h
  exact cutT [((1, 1), (1, 0))] 8 [] tt (c_s_LastPost__L1 x0 _ _ _ h) (by kernel_rfl) (by kernel_rfl)

abbrev R_i_LastPost (x0 : GScript) (r : Int) : Ex → St → Prop := RetC Try.prog Mo 48 Try.f48 [.agg (GScript.enc x0)] (il r, [.undef])

theorem c_i_LastPost__L1 (x0 : GScript) {r : Int} : ∀ (m : Nat) (v3 : Int) (v9 : Int), p_i_LastPost__L1 x0  m v3 v9 = some r → SX Try.prog (R_i_LastPost x0 r) (at_ [1, 1, 0, 1, 0] (bodyOf Try.f48) []) .normal (mkS [(3, il v3), (7, .tr (x0.posts.map GPost.enc)), (8, il (x0.posts.length : Int)), (9, il v9)] [] 1) := by
  intro m
  induction m with
  | zero => intro v3 v9 h; cases h
  | succ m ih =>
    intro v3 v9 h
    replace h : p_i_LastPost__L1b x0  _ v3 v9 = some r := h
    unfold p_i_LastPost__L1b at h
    rcases ite_some h with ⟨g1, h⟩ | ⟨g1, h⟩
    · obtain ⟨a400, ha400, h⟩ := bnd_some h
      exact cutT [] 13 [.t true, .row (v9 : Int).toNat (GPost.enc a400)] (aa g1 (aa (ixn ha400) (aa (ixr GPost.enc ha400) tt))) (ih _ _ h) (by kernel_rfl) (by kernel_rfl)
    · have e := Option.some.inj h; subst e
      exact retT 100000 [.t false] (aa g1 tt) (by kernel_rfl)

theorem c_i_LastPost (x0 : GScript) {r : Int} (h : p_i_LastPost x0 = some r) : Fine Try.prog Mo (48, [.agg (GScript.enc x0)], il r, [.undef]) := by
  refine fineT Try.func48 rfl (by kernel_rfl) ?_
  unfold p_i_LastPost at h
  exact cutT [] 8 [.num x0.posts.length 0 0 []] (aa (lenr GPost.enc x0.posts) tt) (c_i_LastPost__L1 x0 _ _ _ h) (by kernel_rfl) (by kernel_rfl)

abbrev R_w_eqReq (x0 : GReq) (x1 : GReq) (r : Bool) : Ex → St → Prop := RetC Try.prog Mo 120 Try.f120 [.agg (GReq.enc x0), .agg (GReq.enc x1)] (bl r, [.undef, .undef])

theorem c_w_eqReq (x0 : GReq) (x1 : GReq) {r : Bool} (h : p_w_eqReq x0 x1 = some r) : Fine Try.prog Mo (120, [.agg (GReq.enc x0), .agg (GReq.enc x1)], bl r, [.undef, .undef]) := by
  refine fineT Try.func120 rfl (by kernel_rfl) ?_
  unfold p_w_eqReq at h
  rcases ite_some h with ⟨g1, h⟩ | ⟨g1, h⟩
  · have e := Option.some.inj h; subst e
    exact retT 100000 [.t true] (aa g1 tt) (by kernel_rfl)
  · rcases ite_some h with ⟨g2, h⟩ | ⟨g2, h⟩
    · have e := Option.some.inj h; subst e
      exact retT 100000 [.t false, .t true] (aa g1 (aa g2 tt)) (by kernel_rfl)
    · rcases ite_some h with ⟨g3, h⟩ | ⟨g3, h⟩
      · have e := Option.some.inj h; subst e
        exact retT 100000 [.t false, .t false, .t true] (aa g1 (aa g2 (aa g3 tt))) (by kernel_rfl)
      · rcases ite_some h with ⟨g4, h⟩ | ⟨g4, h⟩
        · have e := Option.some.inj h; subst e
          exact retT 100000 [.t false, .t false, .t false, .t true] (aa g1 (aa g2 (aa g3 (aa g4 tt)))) (by kernel_rfl)
        · rcases ite_some h with ⟨g5, h⟩ | ⟨g5, h⟩
          · have e := Option.some.inj h; subst e
            exact retT 100000 [.t false, .t false, .t false, .t false, .t true] (aa g1 (aa g2 (aa g3 (aa g4 (aa g5 tt))))) (by kernel_rfl)
          · obtain ⟨r1104, hr1104, h⟩ := bnd_some h
            rcases ite_some h with ⟨g6, h⟩ | ⟨g6, h⟩
            · have e := Option.some.inj h; subst e
              exact retT 100000 [.t false, .t false, .t false, .t false, .t false, .res (bl r1104) [.undef, .undef], .t true] (aa g1 (aa g2 (aa g3 (aa g4 (aa g5 (aa (c_w_eqIntS x0.data_ x1.data_ hr1104) (aa g6 tt))))))) (by kernel_rfl)
            · have e := Option.some.inj h; subst e
              exact retT 100000 [.t false, .t false, .t false, .t false, .t false, .res (bl r1104) [.undef, .undef], .t false] (aa g1 (aa g2 (aa g3 (aa g4 (aa g5 (aa (c_w_eqIntS x0.data_ x1.data_ hr1104) (aa g6 tt))))))) (by kernel_rfl)

abbrev R_w_eqPost (x0 : GPost) (x1 : GPost) (r : Bool) : Ex → St → Prop := RetC Try.prog Mo 105 Try.f105 [.agg (GPost.enc x0), .agg (GPost.enc x1)] (bl r, [.undef, .undef])

theorem c_w_eqPost (x0 : GPost) (x1 : GPost) {r : Bool} (h : p_w_eqPost x0 x1 = some r) : Fine Try.prog Mo (105, [.agg (GPost.enc x0), .agg (GPost.enc x1)], bl r, [.undef, .undef]) := by
  refine fineT Try.func105 rfl (by kernel_rfl) ?_
  unfold p_w_eqPost at h
  rcases ite_some h with ⟨g1, h⟩ | ⟨g1, h⟩
  · have e := Option.some.inj h; subst e
    exact retT 100000 [.t true] (aa g1 tt) (by kernel_rfl)
  · rcases ite_some h with ⟨g2, h⟩ | ⟨g2, h⟩
    · have e := Option.some.inj h; subst e
      exact retT 100000 [.t false, .t true] (aa g1 (aa g2 tt)) (by kernel_rfl)
    · obtain ⟨r504, hr504, h⟩ := bnd_some h
      rcases ite_some h with ⟨g3, h⟩ | ⟨g3, h⟩
      · have e := Option.some.inj h; subst e
        exact retT 100000 [.t false, .t false, .res (bl r504) [.undef, .undef], .t true] (aa g1 (aa g2 (aa (c_w_eqReq x0.req x1.req hr504) (aa g3 tt)))) (by kernel_rfl)
      · have e := Option.some.inj h; subst e
        exact retT 100000 [.t false, .t false, .res (bl r504) [.undef, .undef], .t false] (aa g1 (aa g2 (aa (c_w_eqReq x0.req x1.req hr504) (aa g3 tt)))) (by kernel_rfl)

abbrev R_w_eqPostS (x0 : List GPost) (x1 : List GPost) (r : Bool) : Ex → St → Prop := RetC Try.prog Mo 83 Try.f83 [.tr (x0.map GPost.enc), .tr (x1.map GPost.enc)] (bl r, [.undef, .undef])

theorem c_w_eqPostS__L1 (x0 : List GPost) (x1 : List GPost) {r : Bool} : ∀ (m : Nat) (v5 : Int), p_w_eqPostS__L1 x0 x1  m v5 = some r → SX Try.prog (R_w_eqPostS x0 x1 r) (at_ [1, 1, 0, 1, 0] (bodyOf Try.f83) []) .normal (mkS [(0, .tr (x0.map GPost.enc)), (1, .tr (x1.map GPost.enc)), (5, il v5)] [] 1) := by
  intro m
  induction m with
  | zero => intro v5 h; cases h
  | succ m ih =>
    intro v5 h
    replace h : p_w_eqPostS__L1b x0 x1  _ v5 = some r := h
    unfold p_w_eqPostS__L1b at h
    rcases ite_some h with ⟨g1, h⟩ | ⟨g1, h⟩
    · obtain ⟨a602, ha602, h⟩ := bnd_some h
      obtain ⟨a606, ha606, h⟩ := bnd_some h
      obtain ⟨r608, hr608, h⟩ := bnd_some h
      rcases ite_some h with ⟨g2, h⟩ | ⟨g2, h⟩
      · have e := Option.some.inj h; subst e
        exact retT 100000 [.num x0.length 0 0 [], .t true, .row (v5 : Int).toNat (GPost.enc a602), .row (v5 : Int).toNat (GPost.enc a606), .res (bl r608) [.undef, .undef], .t true] (aa (lenr GPost.enc x0) (aa g1 (aa (ixn ha602) (aa (ixr GPost.enc ha602) (aa (ixn ha606) (aa (ixr GPost.enc ha606) (aa (c_w_eqPost a602 a606 hr608) (aa g2 tt)))))))) (by kernel_rfl)
      · exact cutT [] 14 [.num x0.length 0 0 [], .t true, .row (v5 : Int).toNat (GPost.enc a602), .row (v5 : Int).toNat (GPost.enc a606), .res (bl r608) [.undef, .undef], .t false] (aa (lenr GPost.enc x0) (aa g1 (aa (ixn ha602) (aa (ixr GPost.enc ha602) (aa (ixn ha606) (aa (ixr GPost.enc ha606) (aa (c_w_eqPost a602 a606 hr608) (aa g2 tt)))))))) (ih _ h) (by kernel_rfl) (by kernel_rfl)
    · have e := Option.some.inj h; subst e
      exact retT 100000 [.num x0.length 0 0 [], .t false] (aa (lenr GPost.enc x0) (aa g1 tt)) (by kernel_rfl)

theorem c_w_eqPostS (x0 : List GPost) (x1 : List GPost) {r : Bool} (h : p_w_eqPostS x0 x1 = some r) : Fine Try.prog Mo (83, [.tr (x0.map GPost.enc), .tr (x1.map GPost.enc)], bl r, [.undef, .undef]) := by
  refine fineT Try.func83 rfl (by kernel_rfl) ?_
  unfold p_w_eqPostS at h
  rcases ite_some h with ⟨g1, h⟩ | ⟨g1, h⟩
  · have e := Option.some.inj h; subst e
    exact retT 100000 [.num x0.length 0 0 [], .num x1.length 0 0 [], .t true] (aa (lenr GPost.enc x0) (aa (lenr GPost.enc x1) (aa g1 tt))) (by kernel_rfl)
  · exact cutT [] 11 [.num x0.length 0 0 [], .num x1.length 0 0 [], .t false] (aa (lenr GPost.enc x0) (aa (lenr GPost.enc x1) (aa g1 tt))) (c_w_eqPostS__L1 x0 x1 _ _ h) (by kernel_rfl) (by kernel_rfl)

abbrev R_w_eqScript (x0 : GScript) (x1 : GScript) (r : Bool) : Ex → St → Prop := RetC Try.prog Mo 49 Try.f49 [.agg (GScript.enc x0), .agg (GScript.enc x1)] (bl r, [.undef, .undef])

theorem c_w_eqScript (x0 : GScript) (x1 : GScript) {r : Bool} (h : p_w_eqScript x0 x1 = some r) : Fine Try.prog Mo (49, [.agg (GScript.enc x0), .agg (GScript.enc x1)], bl r, [.undef, .undef]) := by
  refine fineT Try.func49 rfl (by kernel_rfl) ?_
  unfold p_w_eqScript at h
  obtain ⟨r104, hr104, h⟩ := bnd_some h
  rcases ite_some h with ⟨g1, h⟩ | ⟨g1, h⟩
  · have e := Option.some.inj h; subst e
    exact retT 100000 [.res (bl r104) [.undef, .undef], .t true] (aa (c_w_eqPostS x0.posts x1.posts hr104) (aa g1 tt)) (by kernel_rfl)
  · obtain ⟨r304, hr304, h⟩ := bnd_some h
    rcases ite_some h with ⟨g2, h⟩ | ⟨g2, h⟩
    · have e := Option.some.inj h; subst e
      exact retT 100000 [.res (bl r104) [.undef, .undef], .t false, .res (bl r304) [.undef, .undef], .t true] (aa (c_w_eqPostS x0.posts x1.posts hr104) (aa g1 (aa (c_w_eqIntS x0.waits x1.waits hr304) (aa g2 tt)))) (by kernel_rfl)
    · obtain ⟨r504, hr504, h⟩ := bnd_some h
      rcases ite_some h with ⟨g3, h⟩ | ⟨g3, h⟩
      · have e := Option.some.inj h; subst e
        exact retT 100000 [.res (bl r104) [.undef, .undef], .t false, .res (bl r304) [.undef, .undef], .t false, .res (bl r504) [.undef, .undef], .t true] (aa (c_w_eqPostS x0.posts x1.posts hr104) (aa g1 (aa (c_w_eqIntS x0.waits x1.waits hr304) (aa g2 (aa (c_w_eqIntS x0.says x1.says hr504) (aa g3 tt)))))) (by kernel_rfl)
      · have e := Option.some.inj h; subst e
        exact retT 100000 [.res (bl r104) [.undef, .undef], .t false, .res (bl r304) [.undef, .undef], .t false, .res (bl r504) [.undef, .undef], .t false] (aa (c_w_eqPostS x0.posts x1.posts hr104) (aa g1 (aa (c_w_eqIntS x0.waits x1.waits hr304) (aa g2 (aa (c_w_eqIntS x0.says x1.says hr504) (aa g3 tt)))))) (by kernel_rfl)

abbrev R_w_FnExactLastPost (x0 : GScript) (r : Bool) : Ex → St → Prop := RetC Try.prog Mo 10 Try.f10 [.agg (GScript.enc x0)] (bl r, [.undef])

theorem c_w_FnExactLastPost (x0 : GScript) {r : Bool} (h : p_w_FnExactLastPost x0 = some r) : Fine Try.prog Mo (10, [.agg (GScript.enc x0)], bl r, [.undef]) := by
  refine fineT Try.func10 rfl (by kernel_rfl) ?_
  unfold p_w_FnExactLastPost at h
  obtain ⟨r202, hr202, h⟩ := bnd_some h
  rcases ite_some h with ⟨g1, h⟩ | ⟨g1, h⟩
  · have e := Option.some.inj h; subst e
    exact retT 100000 [.res (il r202) [.undef, .undef], .t true] (aa (c_w_szScript x0 1048576 hr202) (aa g1 tt)) (by kernel_rfl)
  · obtain ⟨r501, hr501, h⟩ := bnd_some h
    obtain ⟨r502, hr502, h⟩ := bnd_some h
    obtain ⟨r601, hr601, h⟩ := bnd_some h
    obtain ⟨r701, hr701, h⟩ := bnd_some h
    rcases ite_some h with ⟨g2, h⟩ | ⟨g2, h⟩
    · have e := Option.some.inj h; subst e
      exact retT 100000 [.res (il r202) [.undef, .undef], .t false, .res (.agg [.own 108 (r501.posts.map GPost.enc), .own 3 (r501.waits.map encI), .own 3 (r501.says.map encI)]) [.undef], .k, .k, .k, .res (il r502) [.undef], .res (.agg [.own 108 (r601.posts.map GPost.enc), .own 3 (r601.waits.map encI), .own 3 (r601.says.map encI)]) [.undef], .k, .k, .k, .res (il r701) [.undef], .t true] (aa (c_w_szScript x0 1048576 hr202) (aa g1 (aa (c_w_toScript x0 hr501) (aa (lene GPost.enc r501.posts) (aa (lene encI r501.waits) (aa (lene encI r501.says) (aa (c_s_LastPost r501 hr502) (aa (c_w_toScript x0 hr601) (aa (lene GPost.enc r601.posts) (aa (lene encI r601.waits) (aa (lene encI r601.says) (aa (c_i_LastPost r601 hr701) (aa g2 tt))))))))))))) (by kernel_rfl)
    · obtain ⟨r1002, hr1002, h⟩ := bnd_some h
      obtain ⟨r1003, hr1003, h⟩ := bnd_some h
      rcases ite_some h with ⟨g3, h⟩ | ⟨g3, h⟩
      · have e := Option.some.inj h; subst e
        exact retT 100000 [.res (il r202) [.undef, .undef], .t false, .res (.agg [.own 108 (r501.posts.map GPost.enc), .own 3 (r501.waits.map encI), .own 3 (r501.says.map encI)]) [.undef], .k, .k, .k, .res (il r502) [.undef], .res (.agg [.own 108 (r601.posts.map GPost.enc), .own 3 (r601.waits.map encI), .own 3 (r601.says.map encI)]) [.undef], .k, .k, .k, .res (il r701) [.undef], .t false, .res (.agg [.own 108 (r1002.posts.map GPost.enc), .own 3 (r1002.waits.map encI), .own 3 (r1002.says.map encI)]) [.undef], .k, .k, .k, .k, .k, .k, .res (bl r1003) [.undef, .undef], .t true] (aa (c_w_szScript x0 1048576 hr202) (aa g1 (aa (c_w_toScript x0 hr501) (aa (lene GPost.enc r501.posts) (aa (lene encI r501.waits) (aa (lene encI r501.says) (aa (c_s_LastPost r501 hr502) (aa (c_w_toScript x0 hr601) (aa (lene GPost.enc r601.posts) (aa (lene encI r601.waits) (aa (lene encI r601.says) (aa (c_i_LastPost r601 hr701) (aa g2 (aa (c_w_toScript x0 hr1002) (aa (lene GPost.enc r601.posts) (aa (lene encI r601.waits) (aa (lene encI r601.says) (aa (lene GPost.enc r1002.posts) (aa (lene encI r1002.waits) (aa (lene encI r1002.says) (aa (c_w_eqScript r601 r1002 hr1003) (aa g3 tt)))))))))))))))))))))) (by kernel_rfl)
      · have e := Option.some.inj h; subst e
        exact retT 100000 [.res (il r202) [.undef, .undef], .t false, .res (.agg [.own 108 (r501.posts.map GPost.enc), .own 3 (r501.waits.map encI), .own 3 (r501.says.map encI)]) [.undef], .k, .k, .k, .res (il r502) [.undef], .res (.agg [.own 108 (r601.posts.map GPost.enc), .own 3 (r601.waits.map encI), .own 3 (r601.says.map encI)]) [.undef], .k, .k, .k, .res (il r701) [.undef], .t false, .res (.agg [.own 108 (r1002.posts.map GPost.enc), .own 3 (r1002.waits.map encI), .own 3 (r1002.says.map encI)]) [.undef], .k, .k, .k, .k, .k, .k, .res (bl r1003) [.undef, .undef], .t false] (aa (c_w_szScript x0 1048576 hr202) (aa g1 (aa (c_w_toScript x0 hr501) (aa (lene GPost.enc r501.posts) (aa (lene encI r501.waits) (aa (lene encI r501.says) (aa (c_s_LastPost r501 hr502) (aa (c_w_toScript x0 hr601) (aa (lene GPost.enc r601.posts) (aa (lene encI r601.waits) (aa (lene encI r601.says) (aa (c_i_LastPost r601 hr701) (aa g2 (aa (c_w_toScript x0 hr1002) (aa (lene GPost.enc r601.posts) (aa (lene encI r601.waits) (aa (lene encI r601.says) (aa (lene GPost.enc r1002.posts) (aa (lene encI r1002.waits) (aa (lene encI r1002.says) (aa (c_w_eqScript r601 r1002 hr1003) (aa g3 tt)))))))))))))))))))))) (by kernel_rfl)

abbrev R_w_szMConfS (x0 : List GMConf) (x1 : Int) (r : Int) : Ex → St → Prop := RetC Try.prog Mo 84 Try.f84 [.tr (x0.map GMConf.enc), il x1] (il r, [.undef, .undef])

theorem c_w_szMConfS (x0 : List GMConf) (x1 : Int) {r : Int} (h : p_w_szMConfS x0 x1 = some r) : Fine Try.prog Mo (84, [.tr (x0.map GMConf.enc), il x1], il r, [.undef, .undef]) := by
  refine fineT Try.func84 rfl (by kernel_rfl) ?_
  unfold p_w_szMConfS at h
  rcases ite_some h with ⟨g1, h⟩ | ⟨g1, h⟩
  · have e := Option.some.inj h; subst e
    exact retT 100000 [.num x0.length 0 0 [], .t true] (aa (lenr GMConf.enc x0) (aa g1 tt)) (by kernel_rfl)
  · have e := Option.some.inj h; subst e
    exact retT 100000 [.num x0.length 0 0 [], .t false] (aa (lenr GMConf.enc x0) (aa g1 tt)) (by kernel_rfl)

abbrev R_w_szConf (x0 : GConf) (x1 : Int) (r : Int) : Ex → St → Prop := RetC Try.prog Mo 50 Try.f50 [.agg (GConf.enc x0), il x1] (il r, [.undef, .undef])

theorem c_w_szConf (x0 : GConf) (x1 : Int) {r : Int} (h : p_w_szConf x0 x1 = some r) : Fine Try.prog Mo (50, [.agg (GConf.enc x0), il x1], il r, [.undef, .undef]) := by
  refine fineT Try.func50 rfl (by kernel_rfl) ?_
  unfold p_w_szConf at h
  obtain ⟨r103, hr103, h⟩ := bnd_some h
  rcases ite_some h with ⟨g1, h⟩ | ⟨g1, h⟩
  · have e := Option.some.inj h; subst e
    exact retT 100000 [.res (il r103) [.undef, .undef], .t true] (aa (c_w_szMConfS x0.masters x1 hr103) (aa g1 tt)) (by kernel_rfl)
  · have e := Option.some.inj h; subst e
    exact retT 100000 [.res (il r103) [.undef, .undef], .t false] (aa (c_w_szMConfS x0.masters x1 hr103) (aa g1 tt)) (by kernel_rfl)

abbrev R_w_toMConf (x0 : GMConf) (r : GMConf) : Ex → St → Prop := RetC Try.prog Mo 106 Try.f106 [.agg (GMConf.enc x0)] (.agg (GMConf.enc r), [.undef])

theorem c_w_toMConf (x0 : GMConf) {r : GMConf} (h : p_w_toMConf x0 = some r) : Fine Try.prog Mo (106, [.agg (GMConf.enc x0)], .agg (GMConf.enc r), [.undef]) := by
  refine fineT Try.func106 rfl (by kernel_rfl) ?_
  unfold p_w_toMConf at h
  have e := Option.some.inj h; subst e
  exact retT 100000 [] tt (by kernel_rfl)

abbrev R_w_toMConfS (x0 : List GMConf) (r : List GMConf) : Ex → St → Prop := RetC Try.prog Mo 86 Try.f86 [.tr (x0.map GMConf.enc)] (.own 115 (r.map GMConf.enc), [.undef])

theorem c_w_toMConfS__L1 (x0 : List GMConf) {r : List GMConf} : ∀ (m : Nat) (v3 : List GMConf) (v4 : Int), p_w_toMConfS__L1 x0  m v3 v4 = some r → SX Try.prog (R_w_toMConfS x0 r) (at_ [1, 1, 0, 1, 0] (bodyOf Try.f86) []) .normal (mkS [(0, .tr (x0.map GMConf.enc)), (3, .sl (1, 1) 0 (v3.map GMConf.enc).length), (4, il v4)] [((1, 1), ⟨false, true, true, 115, v3.map GMConf.enc⟩)] 1) := by
  intro m
  induction m with
  | zero => intro v3 v4 h; cases h
  | succ m ih =>
    intro v3 v4 h
    replace h : p_w_toMConfS__L1b x0  _ v3 v4 = some r := h
    unfold p_w_toMConfS__L1b at h
    rcases ite_some h with ⟨g1, h⟩ | ⟨g1, h⟩
    · obtain ⟨a504, ha504, h⟩ := bnd_some h
      obtain ⟨r506, hr506, h⟩ := bnd_some h
      obtain ⟨a507, ha507, h⟩ := bnd_some h
      obtain ⟨y508, hy508, h⟩ := bnd_some h
      exact cutT [((1, 1), (1, 1))] 11 [.num x0.length 0 0 [], .t true, .row (v4 : Int).toNat (GMConf.enc a504), .res (.agg (GMConf.enc r506)) [.undef], .row (v4 : Int).toNat (GMConf.enc a507), .put (GMConf.enc a507) (y508.map GMConf.enc), .num (y508.map GMConf.enc).length 0 0 []] (aa (lenr GMConf.enc x0) (aa g1 (aa (ixn ha504) (aa (ixr GMConf.enc ha504) (aa (c_w_toMConf a504 hr506) (aa (ixn ha507) (aa (ixl GMConf.enc ha507) (aa (ixr GMConf.enc ha507) (aa (ixr GMConf.enc ha507) (aa (seto GMConf.enc hy508) (aa (setl GMConf.enc hy508) tt))))))))))) (ih _ _ h) (by kernel_rfl) (by kernel_rfl)
    · have e := Option.some.inj h; subst e
      exact retT 100000 [.num x0.length 0 0 [], .t false, .k] (aa (lenr GMConf.enc x0) (aa g1 (aa (lene GMConf.enc v3) tt))) (by kernel_rfl)

theorem c_w_toMConfS (x0 : List GMConf) {r : List GMConf} (h : p_w_toMConfS x0 = some r) : Fine Try.prog Mo (86, [.tr (x0.map GMConf.enc)], .own 115 (r.map GMConf.enc), [.undef]) := by
  refine fineT Try.func86 rfl (by kernel_rfl) ?_
  unfold p_w_toMConfS at h
  obtain ⟨m102, hm102, h⟩ := bnd_some h
  exact cutT [((1, 1), (2, 2048))] 8 [.num x0.length 0 0 [], .mk ((x0.length : Int) : Int).toNat (m102.map GMConf.enc), .num (m102.map GMConf.enc).length 0 0 []] (aa (lenr GMConf.enc x0) (aa (mkn hm102) (aa (mkn hm102) (aa (mkl hm102) (aa (mkr GMConf.enc hm102) (aa (lene GMConf.enc m102) tt)))))) (c_w_toMConfS__L1 x0 _ _ _ h) (by kernel_rfl) (by kernel_rfl)

abbrev R_w_toConf (x0 : GConf) (r : GConf) : Ex → St → Prop := RetC Try.prog Mo 52 Try.f52 [.agg (GConf.enc x0)] (.agg [.own 115 (r.masters.map GMConf.enc), il r.quantum, il r.maxWait, il r.maxRetry, il r.maxSplit, il r.lockMost], [.undef])

theorem c_w_toConf (x0 : GConf) {r : GConf} (h : p_w_toConf x0 = some r) : Fine Try.prog Mo (52, [.agg (GConf.enc x0)], .agg [.own 115 (r.masters.map GMConf.enc), il r.quantum, il r.maxWait, il r.maxRetry, il r.maxSplit, il r.lockMost], [.undef]) := by
  refine fineT Try.func52 rfl (by kernel_rfl) ?_
  unfold p_w_toConf at h
  obtain ⟨r202, hr202, h⟩ := bnd_some h
  have e := Option.some.inj h; subst e
  exact retT 100000 [.res (.own 115 (r202.map GMConf.enc)) [.undef], .k] (aa (c_w_toMConfS x0.masters hr202) (aa (lene GMConf.enc r202) tt)) (by kernel_rfl)

abbrev R_s_CostOf (x0 : GConf) (r : Int) : Ex → St → Prop := RetC Try.prog Mo 121 Try.f121 [.agg (GConf.enc x0)] (il r, [.undef])

theorem c_s_CostOf__J1 (x0 : GConf) {r : Int} (v12 : Bool) (h : p_s_CostOf__J1 x0  v12 = some r) : SX Try.prog (R_s_CostOf x0 r) (at_ [1, 0, 1] (bodyOf Try.f121) []) .normal (mkS [(1, .ptr (1, 1) 0 0), (12, bl v12)] [((1, 1), ⟨true, true, true, 0, [(GConf.enc x0)]⟩)] 1) := by
  unfold p_s_CostOf__J1 at h
  rcases ite_some h with ⟨g1, h⟩ | ⟨g1, h⟩
  · have e := Option.some.inj h; subst e
    exact retT 100000 [.t true] (aa g1 tt) (by kernel_rfl)
  · have e := Option.some.inj h; subst e
    exact retT 100000 [.t false] (aa g1 tt) (by kernel_rfl)

theorem c_s_CostOf (x0 : GConf) {r : Int} (h : p_s_CostOf x0 = some r) : Fine Try.prog Mo (121, [.agg (GConf.enc x0)], il r, [.undef]) := by
  refine fineT Try.func121 rfl (by kernel_rfl) ?_
  unfold p_s_CostOf at h
  obtain ⟨r102, hr102, h⟩ := bnd_some h
  rcases ite_some h with ⟨g1, h⟩ | ⟨g1, h⟩
  · exact cutT [((1, 1), (1, 0))] 5 [.res (bl r102) [.undef, .undef, .undef], .t true, .k, .k, .k, .k] (aa (c_s_l1In x0.maxRetry 0 3 hr102) (aa g1 tt)) (c_s_CostOf__J1 x0 _ h) (by kernel_rfl) (by kernel_rfl)
  · obtain ⟨r107, hr107, h⟩ := bnd_some h
    exact cutT [((1, 1), (1, 0))] 5 [.res (bl r102) [.undef, .undef, .undef], .t false, .k, .k, .res (bl r107) [.undef, .undef, .undef], .k, .k] (aa (c_s_l1In x0.maxRetry 0 3 hr102) (aa g1 (aa (c_s_l1In x0.maxWait 0 3 hr107) tt))) (c_s_CostOf__J1 x0 _ h) (by kernel_rfl) (by kernel_rfl)

abbrev R_s_SlotOf (x0 : GConf) (r : Int) : Ex → St → Prop := RetC Try.prog Mo 112 Try.f112 [.agg (GConf.enc x0)] (il r, [.undef])

theorem c_s_SlotOf (x0 : GConf) {r : Int} (h : p_s_SlotOf x0 = some r) : Fine Try.prog Mo (112, [.agg (GConf.enc x0)], il r, [.undef]) := by
  refine fineT Try.func112 rfl (by kernel_rfl) ?_
  unfold p_s_SlotOf at h
  obtain ⟨r101, hr101, h⟩ := bnd_some h
  rcases ite_some h with ⟨g1, h⟩ | ⟨g1, h⟩
  · have e := Option.some.inj h; subst e
    exact retT 100000 [.res (il r101) [.undef], .t true, .k, .k, .k, .k, .k] (aa (c_s_CostOf x0 hr101) (aa g1 tt)) (by kernel_rfl)
  · obtain ⟨r106, hr106, h⟩ := bnd_some h
    rcases ite_some h with ⟨g2, h⟩ | ⟨g2, h⟩
    · have e := Option.some.inj h; subst e
      exact retT 100000 [.res (il r101) [.undef], .t false, .k, .k, .res (bl r106) [.undef, .undef, .undef], .k, .k, .t true] (aa (c_s_CostOf x0 hr101) (aa g1 (aa (c_s_l1In x0.lockMost 1 40 hr106) (aa g2 tt)))) (by kernel_rfl)
    · obtain ⟨r301, hr301, h⟩ := bnd_some h
      have e := Option.some.inj h; subst e
      exact retT 100000 [.res (il r101) [.undef], .t false, .k, .k, .res (bl r106) [.undef, .undef, .undef], .k, .k, .t false, .res (il r301) [.undef]] (aa (c_s_CostOf x0 hr101) (aa g1 (aa (c_s_l1In x0.lockMost 1 40 hr106) (aa g2 (aa (c_s_CostOf x0 hr301) tt))))) (by kernel_rfl)

abbrev R_s_l6Limits (x0 : GConf) (r : Bool) : Ex → St → Prop := RetC Try.prog Mo 113 Try.f113 [.agg (GConf.enc x0)] (bl r, [.undef])

theorem c_s_l6Limits (x0 : GConf) {r : Bool} (h : p_s_l6Limits x0 = some r) : Fine Try.prog Mo (113, [.agg (GConf.enc x0)], bl r, [.undef]) := by
  refine fineT Try.func113 rfl (by kernel_rfl) ?_
  unfold p_s_l6Limits at h
  obtain ⟨r102, hr102, h⟩ := bnd_some h
  rcases ite_some h with ⟨g1, h⟩ | ⟨g1, h⟩
  · obtain ⟨r105, hr105, h⟩ := bnd_some h
    rcases ite_some h with ⟨g2, h⟩ | ⟨g2, h⟩
    · obtain ⟨r111, hr111, h⟩ := bnd_some h
      rcases ite_some h with ⟨g3, h⟩ | ⟨g3, h⟩
      · obtain ⟨r116, hr116, h⟩ := bnd_some h
        have e := Option.some.inj h; subst e
        exact retT 100000 [.res (bl r102) [.undef, .undef, .undef], .t true, .k, .res (il r105) [.undef], .k, .k, .t true, .k, .k, .res (bl r111) [.undef, .undef, .undef], .k, .t true, .k, .k, .res (bl r116) [.undef, .undef, .undef], .k] (aa (c_s_l1In x0.quantum 1 4 hr102) (aa g1 (aa (c_s_CostOf x0 hr105) (aa g2 (aa (c_s_l1In x0.maxSplit 1 12 hr111) (aa g3 (aa (c_s_l1In x0.lockMost 1 40 hr116) tt))))))) (by kernel_rfl)
      · have e := Option.some.inj h; subst e
        exact retT 100000 [.res (bl r102) [.undef, .undef, .undef], .t true, .k, .res (il r105) [.undef], .k, .k, .t true, .k, .k, .res (bl r111) [.undef, .undef, .undef], .k, .t false, .k, .k, .k] (aa (c_s_l1In x0.quantum 1 4 hr102) (aa g1 (aa (c_s_CostOf x0 hr105) (aa g2 (aa (c_s_l1In x0.maxSplit 1 12 hr111) (aa g3 tt)))))) (by kernel_rfl)
    · have e := Option.some.inj h; subst e
      exact retT 100000 [.res (bl r102) [.undef, .undef, .undef], .t true, .k, .res (il r105) [.undef], .k, .k, .t false, .k, .k, .k, .k, .k, .k, .k] (aa (c_s_l1In x0.quantum 1 4 hr102) (aa g1 (aa (c_s_CostOf x0 hr105) (aa g2 tt)))) (by kernel_rfl)
  · have e := Option.some.inj h; subst e
    exact retT 100000 [.res (bl r102) [.undef, .undef, .undef], .t false, .k, .k, .k, .k, .k, .k, .k, .k, .k, .k, .k] (aa (c_s_l1In x0.quantum 1 4 hr102) (aa g1 tt)) (by kernel_rfl)

abbrev R_s_ConfOk (x0 : GConf) (r : Bool) : Ex → St → Prop := RetC Try.prog Mo 97 Try.f97 [.agg (GConf.enc x0)] (bl r, [.undef])

theorem c_s_ConfOk__L2 (x0 : GConf) {r : Bool} : ∀ (m : Nat) (v3 : Int) (v5 : Int), p_s_ConfOk__L2 x0  m v3 v5 = some r → SX Try.prog (R_s_ConfOk x0 r) (at_ [1, 1, 1, 0, 1, 0] (bodyOf Try.f97) []) .normal (mkS [(1, .ptr (1, 1) 0 0), (3, il v3), (5, il v5)] [((1, 1), ⟨true, true, true, 0, [(GConf.enc x0)]⟩)] 1) := by
  intro m
  induction m with
  | zero => intro v3 v5 h; cases h
  | succ m ih =>
    intro v3 v5 h
    replace h : p_s_ConfOk__L2b x0  _ v3 v5 = some r := h
    unfold p_s_ConfOk__L2b at h
    rcases ite_some h with ⟨g1, h⟩ | ⟨g1, h⟩
    · obtain ⟨a1003, ha1003, h⟩ := bnd_some h
      obtain ⟨r1102, hr1102, h⟩ := bnd_some h
      rcases ite_some h with ⟨g2, h⟩ | ⟨g2, h⟩
      · have e := Option.some.inj h; subst e
        exact retT 100000 [.num x0.masters.length 0 0 [], .t true, .row (v5 : Int).toNat (GMConf.enc a1003), .res (bl r1102) [.undef, .undef, .undef], .t true, .k, .k, .k, .k, .k, .k, .k, .k, .k, .k, .k] (aa (lenr GMConf.enc x0.masters) (aa g1 (aa (ixn ha1003) (aa (ixr GMConf.enc ha1003) (aa (c_s_l1In a1003.weight 1 4 hr1102) (aa g2 tt)))))) (by kernel_rfl)
      · rcases ite_some h with ⟨g3, h⟩ | ⟨g3, h⟩
        · rcases ite_some h with ⟨g4, h⟩ | ⟨g4, h⟩
          · have e := Option.some.inj h; subst e
            exact retT 100000 [.num x0.masters.length 0 0 [], .t true, .row (v5 : Int).toNat (GMConf.enc a1003), .res (bl r1102) [.undef, .undef, .undef], .t false, .k, .k, .k, .t true, .k, .k, .k, .t true, .k, .k, .k, .k, .k, .k, .k, .k, .k, .k, .k, .k, .k] (aa (lenr GMConf.enc x0.masters) (aa g1 (aa (ixn ha1003) (aa (ixr GMConf.enc ha1003) (aa (c_s_l1In a1003.weight 1 4 hr1102) (aa g2 (aa g3 (aa g4 tt)))))))) (by kernel_rfl)
          · rcases ite_some h with ⟨g5, h⟩ | ⟨g5, h⟩
            · have e := Option.some.inj h; subst e
              exact retT 100000 [.num x0.masters.length 0 0 [], .t true, .row (v5 : Int).toNat (GMConf.enc a1003), .res (bl r1102) [.undef, .undef, .undef], .t false, .k, .k, .k, .t true, .k, .k, .k, .t false, .k, .k, .k, .k, .k, .k, .k, .t true, .k, .k, .k, .k, .k] (aa (lenr GMConf.enc x0.masters) (aa g1 (aa (ixn ha1003) (aa (ixr GMConf.enc ha1003) (aa (c_s_l1In a1003.weight 1 4 hr1102) (aa g2 (aa g3 (aa g4 (aa g5 tt))))))))) (by kernel_rfl)
            · rcases ite_some h with ⟨g6, h⟩ | ⟨g6, h⟩
              · obtain ⟨r1128, hr1128, h⟩ := bnd_some h
                obtain ⟨r1130, hr1130, h⟩ := bnd_some h
                rcases ite_some h with ⟨g7, h⟩ | ⟨g7, h⟩
                · have e := Option.some.inj h; subst e
                  exact retT 100000 [.num x0.masters.length 0 0 [], .t true, .row (v5 : Int).toNat (GMConf.enc a1003), .res (bl r1102) [.undef, .undef, .undef], .t false, .k, .k, .k, .t true, .k, .k, .k, .t false, .k, .k, .k, .k, .k, .k, .k, .t false, .k, .k, .t true, .k, .k, .k, .k, .k, .res (il r1128) [.undef], .k, .k, .res (bl r1130) [.undef, .undef, .undef], .k, .k, .t true, .k, .k, .k, .k, .k, .k, .k, .k, .k] (aa (lenr GMConf.enc x0.masters) (aa g1 (aa (ixn ha1003) (aa (ixr GMConf.enc ha1003) (aa (c_s_l1In a1003.weight 1 4 hr1102) (aa g2 (aa g3 (aa g4 (aa g5 (aa g6 (aa (c_s_SlotOf x0 hr1128) (aa (c_s_l1In a1003.every (mulW (mulW 2 v3) r1128) 1000 hr1130) (aa g7 tt))))))))))))) (by kernel_rfl)
                · obtain ⟨r1135, hr1135, h⟩ := bnd_some h
                  rcases ite_some h with ⟨g8, h⟩ | ⟨g8, h⟩
                  · have e := Option.some.inj h; subst e
                    exact retT 100000 [.num x0.masters.length 0 0 [], .t true, .row (v5 : Int).toNat (GMConf.enc a1003), .res (bl r1102) [.undef, .undef, .undef], .t false, .k, .k, .k, .t true, .k, .k, .k, .t false, .k, .k, .k, .k, .k, .k, .k, .t false, .k, .k, .t true, .k, .k, .k, .k, .k, .res (il r1128) [.undef], .k, .k, .res (bl r1130) [.undef, .undef, .undef], .k, .k, .t false, .k, .k, .res (bl r1135) [.undef, .undef, .undef], .k, .k, .k, .k, .k, .k, .t true] (aa (lenr GMConf.enc x0.masters) (aa g1 (aa (ixn ha1003) (aa (ixr GMConf.enc ha1003) (aa (c_s_l1In a1003.weight 1 4 hr1102) (aa g2 (aa g3 (aa g4 (aa g5 (aa g6 (aa (c_s_SlotOf x0 hr1128) (aa (c_s_l1In a1003.every (mulW (mulW 2 v3) r1128) 1000 hr1130) (aa g7 (aa (c_s_l1In a1003.cap 1 8 hr1135) (aa g8 tt))))))))))))))) (by kernel_rfl)
                  · exact cutT [((1, 1), (1, 1))] 16 [.num x0.masters.length 0 0 [], .t true, .row (v5 : Int).toNat (GMConf.enc a1003), .res (bl r1102) [.undef, .undef, .undef], .t false, .k, .k, .k, .t true, .k, .k, .k, .t false, .k, .k, .k, .k, .k, .k, .k, .t false, .k, .k, .t true, .k, .k, .k, .k, .k, .res (il r1128) [.undef], .k, .k, .res (bl r1130) [.undef, .undef, .undef], .k, .k, .t false, .k, .k, .res (bl r1135) [.undef, .undef, .undef], .k, .k, .k, .k, .k, .k, .t false] (aa (lenr GMConf.enc x0.masters) (aa g1 (aa (ixn ha1003) (aa (ixr GMConf.enc ha1003) (aa (c_s_l1In a1003.weight 1 4 hr1102) (aa g2 (aa g3 (aa g4 (aa g5 (aa g6 (aa (c_s_SlotOf x0 hr1128) (aa (c_s_l1In a1003.every (mulW (mulW 2 v3) r1128) 1000 hr1130) (aa g7 (aa (c_s_l1In a1003.cap 1 8 hr1135) (aa g8 tt))))))))))))))) (ih _ _ h) (by kernel_rfl) (by kernel_rfl)
              · exact cutT [((1, 1), (1, 1))] 16 [.num x0.masters.length 0 0 [], .t true, .row (v5 : Int).toNat (GMConf.enc a1003), .res (bl r1102) [.undef, .undef, .undef], .t false, .k, .k, .k, .t true, .k, .k, .k, .t false, .k, .k, .k, .k, .k, .k, .k, .t false, .k, .k, .t false, .k, .k, .k, .k, .k, .k, .k, .k, .k, .k, .k, .k, .k, .k] (aa (lenr GMConf.enc x0.masters) (aa g1 (aa (ixn ha1003) (aa (ixr GMConf.enc ha1003) (aa (c_s_l1In a1003.weight 1 4 hr1102) (aa g2 (aa g3 (aa g4 (aa g5 (aa g6 tt)))))))))) (ih _ _ h) (by kernel_rfl) (by kernel_rfl)
        · rcases ite_some h with ⟨g4, h⟩ | ⟨g4, h⟩
          · obtain ⟨r1128, hr1128, h⟩ := bnd_some h
            obtain ⟨r1130, hr1130, h⟩ := bnd_some h
            rcases ite_some h with ⟨g5, h⟩ | ⟨g5, h⟩
            · have e := Option.some.inj h; subst e
              exact retT 100000 [.num x0.masters.length 0 0 [], .t true, .row (v5 : Int).toNat (GMConf.enc a1003), .res (bl r1102) [.undef, .undef, .undef], .t false, .k, .k, .k, .t false, .k, .k, .k, .k, .k, .k, .k, .k, .k, .k, .t true, .k, .k, .k, .k, .k, .res (il r1128) [.undef], .k, .k, .res (bl r1130) [.undef, .undef, .undef], .k, .k, .t true, .k, .k, .k, .k, .k, .k, .k, .k, .k] (aa (lenr GMConf.enc x0.masters) (aa g1 (aa (ixn ha1003) (aa (ixr GMConf.enc ha1003) (aa (c_s_l1In a1003.weight 1 4 hr1102) (aa g2 (aa g3 (aa g4 (aa (c_s_SlotOf x0 hr1128) (aa (c_s_l1In a1003.every (mulW (mulW 2 v3) r1128) 1000 hr1130) (aa g5 tt))))))))))) (by kernel_rfl)
            · obtain ⟨r1135, hr1135, h⟩ := bnd_some h
              rcases ite_some h with ⟨g6, h⟩ | ⟨g6, h⟩
              · have e := Option.some.inj h; subst e
                exact retT 100000 [.num x0.masters.length 0 0 [], .t true, .row (v5 : Int).toNat (GMConf.enc a1003), .res (bl r1102) [.undef, .undef, .undef], .t false, .k, .k, .k, .t false, .k, .k, .k, .k, .k, .k, .k, .k, .k, .k, .t true, .k, .k, .k, .k, .k, .res (il r1128) [.undef], .k, .k, .res (bl r1130) [.undef, .undef, .undef], .k, .k, .t false, .k, .k, .res (bl r1135) [.undef, .undef, .undef], .k, .k, .k, .k, .k, .k, .t true] (aa (lenr GMConf.enc x0.masters) (aa g1 (aa (ixn ha1003) (aa (ixr GMConf.enc ha1003) (aa (c_s_l1In a1003.weight 1 4 hr1102) (aa g2 (aa g3 (aa g4 (aa (c_s_SlotOf x0 hr1128) (aa (c_s_l1In a1003.every (mulW (mulW 2 v3) r1128) 1000 hr1130) (aa g5 (aa (c_s_l1In a1003.cap 1 8 hr1135) (aa g6 tt))))))))))))) (by kernel_rfl)
              · exact cutT [((1, 1), (1, 1))] 16 [.num x0.masters.length 0 0 [], .t true, .row (v5 : Int).toNat (GMConf.enc a1003), .res (bl r1102) [.undef, .undef, .undef], .t false, .k, .k, .k, .t false, .k, .k, .k, .k, .k, .k, .k, .k, .k, .k, .t true, .k, .k, .k, .k, .k, .res (il r1128) [.undef], .k, .k, .res (bl r1130) [.undef, .undef, .undef], .k, .k, .t false, .k, .k, .res (bl r1135) [.undef, .undef, .undef], .k, .k, .k, .k, .k, .k, .t false] (aa (lenr GMConf.enc x0.masters) (aa g1 (aa (ixn ha1003) (aa (ixr GMConf.enc ha1003) (aa (c_s_l1In a1003.weight 1 4 hr1102) (aa g2 (aa g3 (aa g4 (aa (c_s_SlotOf x0 hr1128) (aa (c_s_l1In a1003.every (mulW (mulW 2 v3) r1128) 1000 hr1130) (aa g5 (aa (c_s_l1In a1003.cap 1 8 hr1135) (aa g6 tt))))))))))))) (ih _ _ h) (by kernel_rfl) (by kernel_rfl)
          · exact cutT [((1, 1), (1, 1))] 16 [.num x0.masters.length 0 0 [], .t true, .row (v5 : Int).toNat (GMConf.enc a1003), .res (bl r1102) [.undef, .undef, .undef], .t false, .k, .k, .k, .t false, .k, .k, .k, .k, .k, .k, .k, .k, .k, .k, .t false, .k, .k, .k, .k, .k, .k, .k, .k, .k, .k, .k, .k, .k, .k] (aa (lenr GMConf.enc x0.masters) (aa g1 (aa (ixn ha1003) (aa (ixr GMConf.enc ha1003) (aa (c_s_l1In a1003.weight 1 4 hr1102) (aa g2 (aa g3 (aa g4 tt)))))))) (ih _ _ h) (by kernel_rfl) (by kernel_rfl)
    · obtain ⟨r1303, hr1303, h⟩ := bnd_some h
      rcases ite_some h with ⟨g2, h⟩ | ⟨g2, h⟩
      · obtain ⟨r1306, hr1306, h⟩ := bnd_some h
        have e := Option.some.inj h; subst e
        exact retT 100000 [.num x0.masters.length 0 0 [], .t false, .num x0.masters.length 0 0 [], .res (bl r1303) [.undef, .undef, .undef], .t true, .k, .res (bl r1306) [.undef], .k] (aa (lenr GMConf.enc x0.masters) (aa g1 (aa (lenr GMConf.enc x0.masters) (aa (c_s_l1In (x0.masters.length : Int) 1 4 hr1303) (aa g2 (aa (c_s_l6Limits x0 hr1306) tt)))))) (by kernel_rfl)
      · have e := Option.some.inj h; subst e
        exact retT 100000 [.num x0.masters.length 0 0 [], .t false, .num x0.masters.length 0 0 [], .res (bl r1303) [.undef, .undef, .undef], .t false, .k, .k] (aa (lenr GMConf.enc x0.masters) (aa g1 (aa (lenr GMConf.enc x0.masters) (aa (c_s_l1In (x0.masters.length : Int) 1 4 hr1303) (aa g2 tt))))) (by kernel_rfl)

theorem c_s_ConfOk__L1 (x0 : GConf) {r : Bool} : ∀ (m : Nat) (v3 : Int) (v4 : Int), p_s_ConfOk__L1 x0  m v3 v4 = some r → SX Try.prog (R_s_ConfOk x0 r) (at_ [1, 1, 0, 1, 0] (bodyOf Try.f97) []) .normal (mkS [(1, .ptr (1, 1) 0 0), (3, il v3), (4, il v4)] [((1, 1), ⟨true, true, true, 0, [(GConf.enc x0)]⟩)] 1) := by
  intro m
  induction m with
  | zero => intro v3 v4 h; cases h
  | succ m ih =>
    intro v3 v4 h
    replace h : p_s_ConfOk__L1b x0  _ v3 v4 = some r := h
    unfold p_s_ConfOk__L1b at h
    rcases ite_some h with ⟨g1, h⟩ | ⟨g1, h⟩
    · obtain ⟨a503, ha503, h⟩ := bnd_some h
      rcases ite_some h with ⟨g2, h⟩ | ⟨g2, h⟩
      · exact cutT [((1, 1), (1, 1))] 14 [.num x0.masters.length 0 0 [], .t true, .row (v4 : Int).toNat (GMConf.enc a503), .t true] (aa (lenr GMConf.enc x0.masters) (aa g1 (aa (ixn ha503) (aa (ixr GMConf.enc ha503) (aa g2 tt))))) (ih _ _ h) (by kernel_rfl) (by kernel_rfl)
      · exact cutT [((1, 1), (1, 1))] 14 [.num x0.masters.length 0 0 [], .t true, .row (v4 : Int).toNat (GMConf.enc a503), .t false] (aa (lenr GMConf.enc x0.masters) (aa g1 (aa (ixn ha503) (aa (ixr GMConf.enc ha503) (aa g2 tt))))) (ih _ _ h) (by kernel_rfl) (by kernel_rfl)
    · exact cutT [((1, 1), (1, 1))] 13 [.num x0.masters.length 0 0 [], .t false] (aa (lenr GMConf.enc x0.masters) (aa g1 tt)) (c_s_ConfOk__L2 x0 _ _ _ h) (by kernel_rfl) (by kernel_rfl)

theorem c_s_ConfOk (x0 : GConf) {r : Bool} (h : p_s_ConfOk x0 = some r) : Fine Try.prog Mo (97, [.agg (GConf.enc x0)], bl r, [.undef]) := by
  refine fineT Try.func97 rfl (by kernel_rfl) ?_
  unfold p_s_ConfOk at h
  exact cutT [((1, 1), (1, 0))] 8 [] tt (c_s_ConfOk__L1 x0 _ _ _ h) (by kernel_rfl) (by kernel_rfl)

abbrev R_s_TurnOf (x0 : GConf) (x1 : Int) (r : Int) : Ex → St → Prop := RetC Try.prog Mo 85 Try.f85 [.agg (GConf.enc x0), il x1] (il r, [.undef, .undef])

theorem c_s_TurnOf__J1 (x0 : GConf) (x1 : Int) {r : Int} (v16 : Bool) (h : p_s_TurnOf__J1 x0 x1  v16 = some r) : SX Try.prog (R_s_TurnOf x0 x1 r) (at_ [1, 0, 1] (bodyOf Try.f85) []) .normal (mkS [(1, il x1), (2, .ptr (1, 1) 0 0), (16, bl v16)] [((1, 1), ⟨true, true, true, 0, [(GConf.enc x0)]⟩)] 1) := by
  unfold p_s_TurnOf__J1 at h
  rcases ite_some h with ⟨g1, h⟩ | ⟨g1, h⟩
  · have e := Option.some.inj h; subst e
    exact retT 100000 [.t true] (aa g1 tt) (by kernel_rfl)
  · obtain ⟨a303, ha303, h⟩ := bnd_some h
    have e := Option.some.inj h; subst e
    exact retT 100000 [.t false, .row (x1 : Int).toNat (GMConf.enc a303)] (aa g1 (aa (ixn ha303) (aa (ixr GMConf.enc ha303) tt))) (by kernel_rfl)

theorem c_s_TurnOf (x0 : GConf) (x1 : Int) {r : Int} (h : p_s_TurnOf x0 x1 = some r) : Fine Try.prog Mo (85, [.agg (GConf.enc x0), il x1], il r, [.undef, .undef]) := by
  refine fineT Try.func85 rfl (by kernel_rfl) ?_
  unfold p_s_TurnOf at h
  obtain ⟨r101, hr101, h⟩ := bnd_some h
  rcases ite_some h with ⟨g1, h⟩ | ⟨g1, h⟩
  · exact cutT [((1, 1), (1, 0))] 5 [.res (bl r101) [.undef], .t true, .k, .k, .k, .k, .k, .k, .k] (aa (c_s_ConfOk x0 hr101) (aa g1 tt)) (c_s_TurnOf__J1 x0 x1 _ h) (by kernel_rfl) (by kernel_rfl)
  · obtain ⟨r109, hr109, h⟩ := bnd_some h
    exact cutT [((1, 1), (1, 0))] 5 [.res (bl r101) [.undef], .t false, .k, .k, .k, .num x0.masters.length 0 0 [], .k, .k, .res (bl r109) [.undef, .undef, .undef], .k, .k] (aa (c_s_ConfOk x0 hr101) (aa g1 (aa (lenr GMConf.enc x0.masters) (aa (c_s_l1In x1 0 (subW (x0.masters.length : Int) 1) hr109) tt)))) (c_s_TurnOf__J1 x0 x1 _ h) (by kernel_rfl) (by kernel_rfl)

abbrev R_s_SpreadMost (x0 : GConf) (x1 : Int) (x2 : Int) (r : Int) : Ex → St → Prop := RetC Try.prog Mo 51 Try.f51 [.agg (GConf.enc x0), il x1, il x2] (il r, [.undef, .undef, .undef])

theorem c_s_SpreadMost__J1 (x0 : GConf) (x1 : Int) (x2 : Int) {r : Int} (v16 : Bool) (h : p_s_SpreadMost__J1 x0 x1 x2  v16 = some r) : SX Try.prog (R_s_SpreadMost x0 x1 x2 r) (at_ [1, 0, 1] (bodyOf Try.f51) []) .normal (mkS [(1, il x1), (2, il x2), (3, .ptr (1, 1) 0 0), (16, bl v16)] [((1, 1), ⟨true, true, true, 0, [(GConf.enc x0)]⟩)] 1) := by
  unfold p_s_SpreadMost__J1 at h
  rcases ite_some h with ⟨g1, h⟩ | ⟨g1, h⟩
  · have e := Option.some.inj h; subst e
    exact retT 100000 [.t true] (aa g1 tt) (by kernel_rfl)
  · obtain ⟨r302, hr302, h⟩ := bnd_some h
    obtain ⟨a306, ha306, h⟩ := bnd_some h
    obtain ⟨a313, ha313, h⟩ := bnd_some h
    have e := Option.some.inj h; subst e
    exact retT 100000 [.t false, .res (il r302) [.undef, .undef], .row (x2 : Int).toNat (GMConf.enc a306), .row (x1 : Int).toNat (GMConf.enc a313), .row (x2 : Int).toNat (GMConf.enc a306)] (aa g1 (aa (c_s_TurnOf x0 x1 hr302) (aa (ixn ha306) (aa (ixr GMConf.enc ha306) (aa (ixn ha313) (aa (ixr GMConf.enc ha313) (aa (ixn ha306) (aa (ixr GMConf.enc ha306) tt)))))))) (by kernel_rfl)

theorem c_s_SpreadMost (x0 : GConf) (x1 : Int) (x2 : Int) {r : Int} (h : p_s_SpreadMost x0 x1 x2 = some r) : Fine Try.prog Mo (51, [.agg (GConf.enc x0), il x1, il x2], il r, [.undef, .undef, .undef]) := by
  refine fineT Try.func51 rfl (by kernel_rfl) ?_
  unfold p_s_SpreadMost at h
  obtain ⟨r102, hr102, h⟩ := bnd_some h
  rcases ite_some h with ⟨g1, h⟩ | ⟨g1, h⟩
  · exact cutT [((1, 1), (1, 0))] 5 [.res (il r102) [.undef, .undef], .t true, .k, .k, .k, .k] (aa (c_s_TurnOf x0 x1 hr102) (aa g1 tt)) (c_s_SpreadMost__J1 x0 x1 x2 _ h) (by kernel_rfl) (by kernel_rfl)
  · obtain ⟨r107, hr107, h⟩ := bnd_some h
    exact cutT [((1, 1), (1, 0))] 5 [.res (il r102) [.undef, .undef], .t false, .k, .k, .res (il r107) [.undef, .undef], .k, .k] (aa (c_s_TurnOf x0 x1 hr102) (aa g1 (aa (c_s_TurnOf x0 x2 hr107) tt))) (c_s_SpreadMost__J1 x0 x1 x2 _ h) (by kernel_rfl) (by kernel_rfl)

abbrev R_i_CostOf (x0 : GConf) (r : Int) : Ex → St → Prop := RetC Try.prog Mo 122 Try.f122 [.agg (GConf.enc x0)] (il r, [.undef])

theorem c_i_CostOf__J1 (x0 : GConf) {r : Int} (v12 : Bool) (h : p_i_CostOf__J1 x0  v12 = some r) : SX Try.prog (R_i_CostOf x0 r) (at_ [1, 0, 1] (bodyOf Try.f122) []) .normal (mkS [(1, .ptr (1, 1) 0 0), (12, bl v12)] [((1, 1), ⟨true, true, true, 0, [(GConf.enc x0)]⟩)] 1) := by
  unfold p_i_CostOf__J1 at h
  rcases ite_some h with ⟨g1, h⟩ | ⟨g1, h⟩
  · have e := Option.some.inj h; subst e
    exact retT 100000 [.t true] (aa g1 tt) (by kernel_rfl)
  · have e := Option.some.inj h; subst e
    exact retT 100000 [.t false] (aa g1 tt) (by kernel_rfl)

theorem c_i_CostOf (x0 : GConf) {r : Int} (h : p_i_CostOf x0 = some r) : Fine Try.prog Mo (122, [.agg (GConf.enc x0)], il r, [.undef]) := by
  refine fineT Try.func122 rfl (by kernel_rfl) ?_
  unfold p_i_CostOf at h
  obtain ⟨r102, hr102, h⟩ := bnd_some h
  rcases ite_some h with ⟨g1, h⟩ | ⟨g1, h⟩
  · exact cutT [((1, 1), (1, 0))] 5 [.res (bl r102) [.undef, .undef, .undef], .t true, .k, .k, .k, .k] (aa (c_i_within x0.maxRetry 0 3 hr102) (aa g1 tt)) (c_i_CostOf__J1 x0 _ h) (by kernel_rfl) (by kernel_rfl)
  · obtain ⟨r107, hr107, h⟩ := bnd_some h
    exact cutT [((1, 1), (1, 0))] 5 [.res (bl r102) [.undef, .undef, .undef], .t false, .k, .k, .res (bl r107) [.undef, .undef, .undef], .k, .k] (aa (c_i_within x0.maxRetry 0 3 hr102) (aa g1 (aa (c_i_within x0.maxWait 0 3 hr107) tt))) (c_i_CostOf__J1 x0 _ h) (by kernel_rfl) (by kernel_rfl)

abbrev R_i_SlotOf (x0 : GConf) (r : Int) : Ex → St → Prop := RetC Try.prog Mo 114 Try.f114 [.agg (GConf.enc x0)] (il r, [.undef])

theorem c_i_SlotOf (x0 : GConf) {r : Int} (h : p_i_SlotOf x0 = some r) : Fine Try.prog Mo (114, [.agg (GConf.enc x0)], il r, [.undef]) := by
  refine fineT Try.func114 rfl (by kernel_rfl) ?_
  unfold p_i_SlotOf at h
  obtain ⟨r101, hr101, h⟩ := bnd_some h
  rcases ite_some h with ⟨g1, h⟩ | ⟨g1, h⟩
  · have e := Option.some.inj h; subst e
    exact retT 100000 [.res (il r101) [.undef], .t true, .k, .k, .k, .k, .k] (aa (c_i_CostOf x0 hr101) (aa g1 tt)) (by kernel_rfl)
  · obtain ⟨r106, hr106, h⟩ := bnd_some h
    rcases ite_some h with ⟨g2, h⟩ | ⟨g2, h⟩
    · have e := Option.some.inj h; subst e
      exact retT 100000 [.res (il r101) [.undef], .t false, .k, .k, .res (bl r106) [.undef, .undef, .undef], .k, .k, .t true] (aa (c_i_CostOf x0 hr101) (aa g1 (aa (c_i_within x0.lockMost 1 40 hr106) (aa g2 tt)))) (by kernel_rfl)
    · obtain ⟨r301, hr301, h⟩ := bnd_some h
      have e := Option.some.inj h; subst e
      exact retT 100000 [.res (il r101) [.undef], .t false, .k, .k, .res (bl r106) [.undef, .undef, .undef], .k, .k, .t false, .res (il r301) [.undef]] (aa (c_i_CostOf x0 hr101) (aa g1 (aa (c_i_within x0.lockMost 1 40 hr106) (aa g2 (aa (c_i_CostOf x0 hr301) tt))))) (by kernel_rfl)

abbrev R_i_prios (x0 : GConf) (r : Int) : Ex → St → Prop := RetC Try.prog Mo 124 Try.f124 [.agg (GConf.enc x0)] (il r, [.undef])

theorem c_i_prios__L1 (x0 : GConf) {r : Int} : ∀ (m : Nat) (v3 : Int) (v9 : Int), p_i_prios__L1 x0  m v3 v9 = some r → SX Try.prog (R_i_prios x0 r) (at_ [1, 1, 0, 1, 0] (bodyOf Try.f124) []) .normal (mkS [(3, il v3), (7, .tr (x0.masters.map GMConf.enc)), (8, il (x0.masters.length : Int)), (9, il v9)] [] 1) := by
  intro m
  induction m with
  | zero => intro v3 v9 h; cases h
  | succ m ih =>
    intro v3 v9 h
    replace h : p_i_prios__L1b x0  _ v3 v9 = some r := h
    unfold p_i_prios__L1b at h
    rcases ite_some h with ⟨g1, h⟩ | ⟨g1, h⟩
    · obtain ⟨a400, ha400, h⟩ := bnd_some h
      rcases ite_some h with ⟨g2, h⟩ | ⟨g2, h⟩
      · exact cutT [] 16 [.t true, .row (v9 : Int).toNat (GMConf.enc a400), .t true] (aa g1 (aa (ixn ha400) (aa (ixr GMConf.enc ha400) (aa g2 tt)))) (ih _ _ h) (by kernel_rfl) (by kernel_rfl)
      · exact cutT [] 16 [.t true, .row (v9 : Int).toNat (GMConf.enc a400), .t false] (aa g1 (aa (ixn ha400) (aa (ixr GMConf.enc ha400) (aa g2 tt)))) (ih _ _ h) (by kernel_rfl) (by kernel_rfl)
    · have e := Option.some.inj h; subst e
      exact retT 100000 [.t false] (aa g1 tt) (by kernel_rfl)

theorem c_i_prios (x0 : GConf) {r : Int} (h : p_i_prios x0 = some r) : Fine Try.prog Mo (124, [.agg (GConf.enc x0)], il r, [.undef]) := by
  refine fineT Try.func124 rfl (by kernel_rfl) ?_
  unfold p_i_prios at h
  exact cutT [] 8 [.num x0.masters.length 0 0 []] (aa (lenr GMConf.enc x0.masters) tt) (c_i_prios__L1 x0 _ _ _ h) (by kernel_rfl) (by kernel_rfl)

abbrev R_i_LeastEvery (x0 : GConf) (r : Int) : Ex → St → Prop := RetC Try.prog Mo 117 Try.f117 [.agg (GConf.enc x0)] (il r, [.undef])

theorem c_i_LeastEvery (x0 : GConf) {r : Int} (h : p_i_LeastEvery x0 = some r) : Fine Try.prog Mo (117, [.agg (GConf.enc x0)], il r, [.undef]) := by
  refine fineT Try.func117 rfl (by kernel_rfl) ?_
  unfold p_i_LeastEvery at h
  obtain ⟨r101, hr101, h⟩ := bnd_some h
  obtain ⟨r104, hr104, h⟩ := bnd_some h
  have e := Option.some.inj h; subst e
  exact retT 100000 [.res (il r101) [.undef], .res (il r104) [.undef]] (aa (c_i_SlotOf x0 hr101) (aa (c_i_prios x0 hr104) tt)) (by kernel_rfl)

abbrev R_i_ConfOk_1 (x0 : GMConf) (x1 : GConf) (r : Bool) : Ex → St → Prop := RetC Try.prog Mo 116 Try.f116 [.agg (GMConf.enc x0), .rp true (GConf.enc x1) 0] (bl r, [.undef, .undef])

theorem c_i_ConfOk_1 (x0 : GMConf) (x1 : GConf) {r : Bool} (h : p_i_ConfOk_1 x0 x1 = some r) : Fine Try.prog Mo (116, [.agg (GMConf.enc x0), .rp true (GConf.enc x1) 0], bl r, [.undef, .undef]) := by
  refine fineT Try.func116 rfl (by kernel_rfl) ?_
  unfold p_i_ConfOk_1 at h
  obtain ⟨r102, hr102, h⟩ := bnd_some h
  rcases ite_some h with ⟨g1, h⟩ | ⟨g1, h⟩
  · have e := Option.some.inj h; subst e
    exact retT 100000 [.res (bl r102) [.undef, .undef, .undef], .t true] (aa (c_i_within x0.weight 1 4 hr102) (aa g1 tt)) (by kernel_rfl)
  · rcases ite_some h with ⟨g2, h⟩ | ⟨g2, h⟩
    · obtain ⟨r403, hr403, h⟩ := bnd_some h
      obtain ⟨r404, hr404, h⟩ := bnd_some h
      rcases ite_some h with ⟨g3, h⟩ | ⟨g3, h⟩
      · have e := Option.some.inj h; subst e
        exact retT 100000 [.res (bl r102) [.undef, .undef, .undef], .t false, .t true, .res (il r403) [.undef], .res (bl r404) [.undef, .undef, .undef], .t true, .k, .k, .k, .k] (aa (c_i_within x0.weight 1 4 hr102) (aa g1 (aa g2 (aa (c_i_LeastEvery x1 hr403) (aa (c_i_within x0.every r403 1000 hr404) (aa g3 tt)))))) (by kernel_rfl)
      · obtain ⟨r409, hr409, h⟩ := bnd_some h
        have e := Option.some.inj h; subst e
        exact retT 100000 [.res (bl r102) [.undef, .undef, .undef], .t false, .t true, .res (il r403) [.undef], .res (bl r404) [.undef, .undef, .undef], .t false, .k, .k, .res (bl r409) [.undef, .undef, .undef], .k, .k] (aa (c_i_within x0.weight 1 4 hr102) (aa g1 (aa g2 (aa (c_i_LeastEvery x1 hr403) (aa (c_i_within x0.every r403 1000 hr404) (aa g3 (aa (c_i_within x0.cap 1 8 hr409) tt))))))) (by kernel_rfl)
    · rcases ite_some h with ⟨g3, h⟩ | ⟨g3, h⟩
      · have e := Option.some.inj h; subst e
        exact retT 100000 [.res (bl r102) [.undef, .undef, .undef], .t false, .t false, .t true, .k, .k, .k] (aa (c_i_within x0.weight 1 4 hr102) (aa g1 (aa g2 (aa g3 tt)))) (by kernel_rfl)
      · have e := Option.some.inj h; subst e
        exact retT 100000 [.res (bl r102) [.undef, .undef, .undef], .t false, .t false, .t false, .k, .k, .k] (aa (c_i_within x0.weight 1 4 hr102) (aa g1 (aa g2 (aa g3 tt)))) (by kernel_rfl)

abbrev R_slices_IndexFunc_MConf_MConf__i_ConfOk_1 (x0 : List GMConf) (x1c0 : GConf) (r : Int) : Ex → St → Prop := RetC Try.prog Mo 123 Try.f123 [.tr (x0.map GMConf.enc), .fn 116 [.rp true (GConf.enc x1c0) 0]] (il r, [.undef, .undef])

theorem c_slices_IndexFunc_MConf_MConf__i_ConfOk_1__L1 (x0 : List GMConf) (x1c0 : GConf) {r : Int} : ∀ (m : Nat) (v8 : Int), p_slices_IndexFunc_MConf_MConf__i_ConfOk_1__L1 x0 x1c0  m v8 = some r → SX Try.prog (R_slices_IndexFunc_MConf_MConf__i_ConfOk_1 x0 x1c0 r) (at_ [1, 0, 1, 0] (bodyOf Try.f123) []) .normal (mkS [(0, .tr (x0.map GMConf.enc)), (1, .fn 116 [.rp true (GConf.enc x1c0) 0]), (7, il (x0.length : Int)), (8, il v8)] [] 1) := by
  intro m
  induction m with
  | zero => intro v8 h; cases h
  | succ m ih =>
    intro v8 h
    replace h : p_slices_IndexFunc_MConf_MConf__i_ConfOk_1__L1b x0 x1c0  _ v8 = some r := h
    unfold p_slices_IndexFunc_MConf_MConf__i_ConfOk_1__L1b at h
    rcases ite_some h with ⟨g1, h⟩ | ⟨g1, h⟩
    · obtain ⟨a403, ha403, h⟩ := bnd_some h
      obtain ⟨r405, hr405, h⟩ := bnd_some h
      rcases ite_some h with ⟨g2, h⟩ | ⟨g2, h⟩
      · have e := Option.some.inj h; subst e
        exact retT 100000 [.t true, .row (v8 : Int).toNat (GMConf.enc a403), .res (bl r405) [.undef, .undef], .t true] (aa g1 (aa (ixn ha403) (aa (ixr GMConf.enc ha403) (aa (c_i_ConfOk_1 a403 x1c0 hr405) (aa g2 tt))))) (by kernel_rfl)
      · exact cutT [] 16 [.t true, .row (v8 : Int).toNat (GMConf.enc a403), .res (bl r405) [.undef, .undef], .t false] (aa g1 (aa (ixn ha403) (aa (ixr GMConf.enc ha403) (aa (c_i_ConfOk_1 a403 x1c0 hr405) (aa g2 tt))))) (ih _ h) (by kernel_rfl) (by kernel_rfl)
    · have e := Option.some.inj h; subst e
      exact retT 100000 [.t false] (aa g1 tt) (by kernel_rfl)

theorem c_slices_IndexFunc_MConf_MConf__i_ConfOk_1 (x0 : List GMConf) (x1c0 : GConf) {r : Int} (h : p_slices_IndexFunc_MConf_MConf__i_ConfOk_1 x0 x1c0 = some r) : Fine Try.prog Mo (123, [.tr (x0.map GMConf.enc), .fn 116 [.rp true (GConf.enc x1c0) 0]], il r, [.undef, .undef]) := by
  refine fineT Try.func123 rfl (by kernel_rfl) ?_
  unfold p_slices_IndexFunc_MConf_MConf__i_ConfOk_1 at h
  exact cutT [] 6 [.num x0.length 0 0 []] (aa (lenr GMConf.enc x0) tt) (c_slices_IndexFunc_MConf_MConf__i_ConfOk_1__L1 x0 x1c0 _ _ h) (by kernel_rfl) (by kernel_rfl)

abbrev R_slices_ContainsFunc_MConf_MConf__i_ConfOk_1 (x0 : List GMConf) (x1c0 : GConf) (r : Bool) : Ex → St → Prop := RetC Try.prog Mo 115 Try.f115 [.tr (x0.map GMConf.enc), .fn 116 [.rp true (GConf.enc x1c0) 0]] (bl r, [.undef, .undef])

theorem c_slices_ContainsFunc_MConf_MConf__i_ConfOk_1 (x0 : List GMConf) (x1c0 : GConf) {r : Bool} (h : p_slices_ContainsFunc_MConf_MConf__i_ConfOk_1 x0 x1c0 = some r) : Fine Try.prog Mo (115, [.tr (x0.map GMConf.enc), .fn 116 [.rp true (GConf.enc x1c0) 0]], bl r, [.undef, .undef]) := by
  refine fineT Try.func115 rfl (by kernel_rfl) ?_
  unfold p_slices_ContainsFunc_MConf_MConf__i_ConfOk_1 at h
  obtain ⟨r102, hr102, h⟩ := bnd_some h
  have e := Option.some.inj h; subst e
  exact retT 100000 [.res (il r102) [.undef, .undef]] (aa (c_slices_IndexFunc_MConf_MConf__i_ConfOk_1 x0 x1c0 hr102) tt) (by kernel_rfl)

abbrev R_i_ConfOk (x0 : GConf) (r : Bool) : Ex → St → Prop := RetC Try.prog Mo 98 Try.f98 [.agg (GConf.enc x0)] (bl r, [.undef])

theorem c_i_ConfOk (x0 : GConf) {r : Bool} (h : p_i_ConfOk x0 = some r) : Fine Try.prog Mo (98, [.agg (GConf.enc x0)], bl r, [.undef]) := by
  refine fineT Try.func98 rfl (by kernel_rfl) ?_
  unfold p_i_ConfOk at h
  obtain ⟨r103, hr103, h⟩ := bnd_some h
  rcases ite_some h with ⟨g1, h⟩ | ⟨g1, h⟩
  · have e := Option.some.inj h; subst e
    exact retT 100000 [.num x0.masters.length 0 0 [], .res (bl r103) [.undef, .undef, .undef], .t true, .k, .k, .k, .k, .k, .k, .k, .k, .k, .k, .k, .k, .k, .k] (aa (lenr GMConf.enc x0.masters) (aa (c_i_within (x0.masters.length : Int) 1 4 hr103) (aa g1 tt))) (by kernel_rfl)
  · obtain ⟨r108, hr108, h⟩ := bnd_some h
    rcases ite_some h with ⟨g2, h⟩ | ⟨g2, h⟩
    · have e := Option.some.inj h; subst e
      exact retT 100000 [.num x0.masters.length 0 0 [], .res (bl r103) [.undef, .undef, .undef], .t false, .k, .k, .res (bl r108) [.undef, .undef, .undef], .k, .k, .t true, .k, .k, .k, .k, .k, .k, .k, .k, .k] (aa (lenr GMConf.enc x0.masters) (aa (c_i_within (x0.masters.length : Int) 1 4 hr103) (aa g1 (aa (c_i_within x0.quantum 1 4 hr108) (aa g2 tt))))) (by kernel_rfl)
    · obtain ⟨r114, hr114, h⟩ := bnd_some h
      rcases ite_some h with ⟨g3, h⟩ | ⟨g3, h⟩
      · have e := Option.some.inj h; subst e
        exact retT 100000 [.num x0.masters.length 0 0 [], .res (bl r103) [.undef, .undef, .undef], .t false, .k, .k, .res (bl r108) [.undef, .undef, .undef], .k, .k, .t false, .k, .k, .res (bl r114) [.undef, .undef, .undef], .k, .k, .t true, .k, .k, .k, .k] (aa (lenr GMConf.enc x0.masters) (aa (c_i_within (x0.masters.length : Int) 1 4 hr103) (aa g1 (aa (c_i_within x0.quantum 1 4 hr108) (aa g2 (aa (c_i_within x0.maxSplit 1 12 hr114) (aa g3 tt))))))) (by kernel_rfl)
      · obtain ⟨r119, hr119, h⟩ := bnd_some h
        rcases ite_some h with ⟨g4, h⟩ | ⟨g4, h⟩
        · have e := Option.some.inj h; subst e
          exact retT 100000 [.num x0.masters.length 0 0 [], .res (bl r103) [.undef, .undef, .undef], .t false, .k, .k, .res (bl r108) [.undef, .undef, .undef], .k, .k, .t false, .k, .k, .res (bl r114) [.undef, .undef, .undef], .k, .k, .t false, .k, .res (il r119) [.undef], .k, .k, .t true] (aa (lenr GMConf.enc x0.masters) (aa (c_i_within (x0.masters.length : Int) 1 4 hr103) (aa g1 (aa (c_i_within x0.quantum 1 4 hr108) (aa g2 (aa (c_i_within x0.maxSplit 1 12 hr114) (aa g3 (aa (c_i_SlotOf x0 hr119) (aa g4 tt))))))))) (by kernel_rfl)
        · obtain ⟨r303, hr303, h⟩ := bnd_some h
          have e := Option.some.inj h; subst e
          exact retT 100000 [.num x0.masters.length 0 0 [], .res (bl r103) [.undef, .undef, .undef], .t false, .k, .k, .res (bl r108) [.undef, .undef, .undef], .k, .k, .t false, .k, .k, .res (bl r114) [.undef, .undef, .undef], .k, .k, .t false, .k, .res (il r119) [.undef], .k, .k, .t false, .res (bl r303) [.undef, .undef]] (aa (lenr GMConf.enc x0.masters) (aa (c_i_within (x0.masters.length : Int) 1 4 hr103) (aa g1 (aa (c_i_within x0.quantum 1 4 hr108) (aa g2 (aa (c_i_within x0.maxSplit 1 12 hr114) (aa g3 (aa (c_i_SlotOf x0 hr119) (aa g4 (aa (c_slices_ContainsFunc_MConf_MConf__i_ConfOk_1 x0.masters x0 hr303) tt)))))))))) (by kernel_rfl)

abbrev R_i_isMaster (x0 : GConf) (x1 : Int) (r : Bool) : Ex → St → Prop := RetC Try.prog Mo 99 Try.f99 [.agg (GConf.enc x0), il x1] (bl r, [.undef, .undef])

theorem c_i_isMaster (x0 : GConf) (x1 : Int) {r : Bool} (h : p_i_isMaster x0 x1 = some r) : Fine Try.prog Mo (99, [.agg (GConf.enc x0), il x1], bl r, [.undef, .undef]) := by
  refine fineT Try.func99 rfl (by kernel_rfl) ?_
  unfold p_i_isMaster at h
  obtain ⟨r105, hr105, h⟩ := bnd_some h
  have e := Option.some.inj h; subst e
  exact retT 100000 [.num x0.masters.length 0 0 [], .res (bl r105) [.undef, .undef, .undef]] (aa (lenr GMConf.enc x0.masters) (aa (c_i_within x1 0 (subW (x0.masters.length : Int) 1) hr105) tt)) (by kernel_rfl)

abbrev R_i_TurnOf (x0 : GConf) (x1 : Int) (r : Int) : Ex → St → Prop := RetC Try.prog Mo 88 Try.f88 [.agg (GConf.enc x0), il x1] (il r, [.undef, .undef])

theorem c_i_TurnOf__J1 (x0 : GConf) (x1 : Int) {r : Int} (v13 : Bool) (h : p_i_TurnOf__J1 x0 x1  v13 = some r) : SX Try.prog (R_i_TurnOf x0 x1 r) (at_ [1, 0, 1] (bodyOf Try.f88) []) .normal (mkS [(1, il x1), (2, .ptr (1, 1) 0 0), (13, bl v13)] [((1, 1), ⟨true, true, true, 0, [(GConf.enc x0)]⟩)] 1) := by
  unfold p_i_TurnOf__J1 at h
  rcases ite_some h with ⟨g1, h⟩ | ⟨g1, h⟩
  · have e := Option.some.inj h; subst e
    exact retT 100000 [.t true] (aa g1 tt) (by kernel_rfl)
  · obtain ⟨a303, ha303, h⟩ := bnd_some h
    have e := Option.some.inj h; subst e
    exact retT 100000 [.t false, .row (x1 : Int).toNat (GMConf.enc a303)] (aa g1 (aa (ixn ha303) (aa (ixr GMConf.enc ha303) tt))) (by kernel_rfl)

theorem c_i_TurnOf (x0 : GConf) (x1 : Int) {r : Int} (h : p_i_TurnOf x0 x1 = some r) : Fine Try.prog Mo (88, [.agg (GConf.enc x0), il x1], il r, [.undef, .undef]) := by
  refine fineT Try.func88 rfl (by kernel_rfl) ?_
  unfold p_i_TurnOf at h
  obtain ⟨r101, hr101, h⟩ := bnd_some h
  rcases ite_some h with ⟨g1, h⟩ | ⟨g1, h⟩
  · exact cutT [((1, 1), (1, 0))] 5 [.res (bl r101) [.undef], .t true, .k, .k, .k, .k] (aa (c_i_ConfOk x0 hr101) (aa g1 tt)) (c_i_TurnOf__J1 x0 x1 _ h) (by kernel_rfl) (by kernel_rfl)
  · obtain ⟨r106, hr106, h⟩ := bnd_some h
    exact cutT [((1, 1), (1, 0))] 5 [.res (bl r101) [.undef], .t false, .k, .k, .res (bl r106) [.undef, .undef], .k, .k] (aa (c_i_ConfOk x0 hr101) (aa g1 (aa (c_i_isMaster x0 x1 hr106) tt))) (c_i_TurnOf__J1 x0 x1 _ h) (by kernel_rfl) (by kernel_rfl)

abbrev R_i_areTurns (x0 : GConf) (x1 : Int) (x2 : Int) (r : Bool) : Ex → St → Prop := RetC Try.prog Mo 87 Try.f87 [.agg (GConf.enc x0), il x1, il x2] (bl r, [.undef, .undef, .undef])

theorem c_i_areTurns (x0 : GConf) (x1 : Int) (x2 : Int) {r : Bool} (h : p_i_areTurns x0 x1 x2 = some r) : Fine Try.prog Mo (87, [.agg (GConf.enc x0), il x1, il x2], bl r, [.undef, .undef, .undef]) := by
  refine fineT Try.func87 rfl (by kernel_rfl) ?_
  unfold p_i_areTurns at h
  obtain ⟨r102, hr102, h⟩ := bnd_some h
  rcases ite_some h with ⟨g1, h⟩ | ⟨g1, h⟩
  · obtain ⟨r107, hr107, h⟩ := bnd_some h
    have e := Option.some.inj h; subst e
    exact retT 100000 [.res (il r102) [.undef, .undef], .t true, .k, .k, .res (il r107) [.undef, .undef], .k, .k] (aa (c_i_TurnOf x0 x1 hr102) (aa g1 (aa (c_i_TurnOf x0 x2 hr107) tt))) (by kernel_rfl)
  · have e := Option.some.inj h; subst e
    exact retT 100000 [.res (il r102) [.undef, .undef], .t false, .k, .k, .k, .k] (aa (c_i_TurnOf x0 x1 hr102) (aa g1 tt)) (by kernel_rfl)

abbrev R_i_SpreadMost (x0 : GConf) (x1 : Int) (x2 : Int) (r : Int) : Ex → St → Prop := RetC Try.prog Mo 53 Try.f53 [.agg (GConf.enc x0), il x1, il x2] (il r, [.undef, .undef, .undef])

theorem c_i_SpreadMost (x0 : GConf) (x1 : Int) (x2 : Int) {r : Int} (h : p_i_SpreadMost x0 x1 x2 = some r) : Fine Try.prog Mo (53, [.agg (GConf.enc x0), il x1, il x2], il r, [.undef, .undef, .undef]) := by
  refine fineT Try.func53 rfl (by kernel_rfl) ?_
  unfold p_i_SpreadMost at h
  obtain ⟨r103, hr103, h⟩ := bnd_some h
  rcases ite_some h with ⟨g1, h⟩ | ⟨g1, h⟩
  · have e := Option.some.inj h; subst e
    exact retT 100000 [.res (bl r103) [.undef, .undef, .undef], .t true] (aa (c_i_areTurns x0 x1 x2 hr103) (aa g1 tt)) (by kernel_rfl)
  · obtain ⟨r302, hr302, h⟩ := bnd_some h
    obtain ⟨a306, ha306, h⟩ := bnd_some h
    obtain ⟨a313, ha313, h⟩ := bnd_some h
    have e := Option.some.inj h; subst e
    exact retT 100000 [.res (bl r103) [.undef, .undef, .undef], .t false, .res (il r302) [.undef, .undef], .row (x2 : Int).toNat (GMConf.enc a306), .row (x1 : Int).toNat (GMConf.enc a313), .row (x2 : Int).toNat (GMConf.enc a306)] (aa (c_i_areTurns x0 x1 x2 hr103) (aa g1 (aa (c_i_TurnOf x0 x1 hr302) (aa (ixn ha306) (aa (ixr GMConf.enc ha306) (aa (ixn ha313) (aa (ixr GMConf.enc ha313) (aa (ixn ha306) (aa (ixr GMConf.enc ha306) tt))))))))) (by kernel_rfl)

abbrev R_w_eqMConf (x0 : GMConf) (x1 : GMConf) (r : Bool) : Ex → St → Prop := RetC Try.prog Mo 107 Try.f107 [.agg (GMConf.enc x0), .agg (GMConf.enc x1)] (bl r, [.undef, .undef])

theorem c_w_eqMConf (x0 : GMConf) (x1 : GMConf) {r : Bool} (h : p_w_eqMConf x0 x1 = some r) : Fine Try.prog Mo (107, [.agg (GMConf.enc x0), .agg (GMConf.enc x1)], bl r, [.undef, .undef]) := by
  refine fineT Try.func107 rfl (by kernel_rfl) ?_
  unfold p_w_eqMConf at h
  rcases ite_some h with ⟨g1, h⟩ | ⟨g1, h⟩
  · have e := Option.some.inj h; subst e
    exact retT 100000 [.t true] (aa g1 tt) (by kernel_rfl)
  · rcases ite_some h with ⟨g2, h⟩ | ⟨g2, h⟩
    · have e := Option.some.inj h; subst e
      exact retT 100000 [.t false, .t true] (aa g1 (aa g2 tt)) (by kernel_rfl)
    · rcases ite_some h with ⟨g3, h⟩ | ⟨g3, h⟩
      · have e := Option.some.inj h; subst e
        exact retT 100000 [.t false, .t false, .t true] (aa g1 (aa g2 (aa g3 tt))) (by kernel_rfl)
      · rcases ite_some h with ⟨g4, h⟩ | ⟨g4, h⟩
        · have e := Option.some.inj h; subst e
          exact retT 100000 [.t false, .t false, .t false, .t true] (aa g1 (aa g2 (aa g3 (aa g4 tt)))) (by kernel_rfl)
        · have e := Option.some.inj h; subst e
          exact retT 100000 [.t false, .t false, .t false, .t false] (aa g1 (aa g2 (aa g3 (aa g4 tt)))) (by kernel_rfl)

abbrev R_w_eqMConfS (x0 : List GMConf) (x1 : List GMConf) (r : Bool) : Ex → St → Prop := RetC Try.prog Mo 89 Try.f89 [.tr (x0.map GMConf.enc), .tr (x1.map GMConf.enc)] (bl r, [.undef, .undef])

theorem c_w_eqMConfS__L1 (x0 : List GMConf) (x1 : List GMConf) {r : Bool} : ∀ (m : Nat) (v5 : Int), p_w_eqMConfS__L1 x0 x1  m v5 = some r → SX Try.prog (R_w_eqMConfS x0 x1 r) (at_ [1, 1, 0, 1, 0] (bodyOf Try.f89) []) .normal (mkS [(0, .tr (x0.map GMConf.enc)), (1, .tr (x1.map GMConf.enc)), (5, il v5)] [] 1) := by
  intro m
  induction m with
  | zero => intro v5 h; cases h
  | succ m ih =>
    intro v5 h
    replace h : p_w_eqMConfS__L1b x0 x1  _ v5 = some r := h
    unfold p_w_eqMConfS__L1b at h
    rcases ite_some h with ⟨g1, h⟩ | ⟨g1, h⟩
    · obtain ⟨a602, ha602, h⟩ := bnd_some h
      obtain ⟨a606, ha606, h⟩ := bnd_some h
      obtain ⟨r608, hr608, h⟩ := bnd_some h
      rcases ite_some h with ⟨g2, h⟩ | ⟨g2, h⟩
      · have e := Option.some.inj h; subst e
        exact retT 100000 [.num x0.length 0 0 [], .t true, .row (v5 : Int).toNat (GMConf.enc a602), .row (v5 : Int).toNat (GMConf.enc a606), .res (bl r608) [.undef, .undef], .t true] (aa (lenr GMConf.enc x0) (aa g1 (aa (ixn ha602) (aa (ixr GMConf.enc ha602) (aa (ixn ha606) (aa (ixr GMConf.enc ha606) (aa (c_w_eqMConf a602 a606 hr608) (aa g2 tt)))))))) (by kernel_rfl)
      · exact cutT [] 14 [.num x0.length 0 0 [], .t true, .row (v5 : Int).toNat (GMConf.enc a602), .row (v5 : Int).toNat (GMConf.enc a606), .res (bl r608) [.undef, .undef], .t false] (aa (lenr GMConf.enc x0) (aa g1 (aa (ixn ha602) (aa (ixr GMConf.enc ha602) (aa (ixn ha606) (aa (ixr GMConf.enc ha606) (aa (c_w_eqMConf a602 a606 hr608) (aa g2 tt)))))))) (ih _ h) (by kernel_rfl) (by kernel_rfl)
    · have e := Option.some.inj h; subst e
      exact retT 100000 [.num x0.length 0 0 [], .t false] (aa (lenr GMConf.enc x0) (aa g1 tt)) (by kernel_rfl)

theorem c_w_eqMConfS (x0 : List GMConf) (x1 : List GMConf) {r : Bool} (h : p_w_eqMConfS x0 x1 = some r) : Fine Try.prog Mo (89, [.tr (x0.map GMConf.enc), .tr (x1.map GMConf.enc)], bl r, [.undef, .undef]) := by
  refine fineT Try.func89 rfl (by kernel_rfl) ?_
  unfold p_w_eqMConfS at h
  rcases ite_some h with ⟨g1, h⟩ | ⟨g1, h⟩
  · have e := Option.some.inj h; subst e
    exact retT 100000 [.num x0.length 0 0 [], .num x1.length 0 0 [], .t true] (aa (lenr GMConf.enc x0) (aa (lenr GMConf.enc x1) (aa g1 tt))) (by kernel_rfl)
  · exact cutT [] 11 [.num x0.length 0 0 [], .num x1.length 0 0 [], .t false] (aa (lenr GMConf.enc x0) (aa (lenr GMConf.enc x1) (aa g1 tt))) (c_w_eqMConfS__L1 x0 x1 _ _ h) (by kernel_rfl) (by kernel_rfl)

abbrev R_w_eqConf (x0 : GConf) (x1 : GConf) (r : Bool) : Ex → St → Prop := RetC Try.prog Mo 54 Try.f54 [.agg (GConf.enc x0), .agg (GConf.enc x1)] (bl r, [.undef, .undef])

theorem c_w_eqConf (x0 : GConf) (x1 : GConf) {r : Bool} (h : p_w_eqConf x0 x1 = some r) : Fine Try.prog Mo (54, [.agg (GConf.enc x0), .agg (GConf.enc x1)], bl r, [.undef, .undef]) := by
  refine fineT Try.func54 rfl (by kernel_rfl) ?_
  unfold p_w_eqConf at h
  obtain ⟨r104, hr104, h⟩ := bnd_some h
  rcases ite_some h with ⟨g1, h⟩ | ⟨g1, h⟩
  · have e := Option.some.inj h; subst e
    exact retT 100000 [.res (bl r104) [.undef, .undef], .t true] (aa (c_w_eqMConfS x0.masters x1.masters hr104) (aa g1 tt)) (by kernel_rfl)
  · rcases ite_some h with ⟨g2, h⟩ | ⟨g2, h⟩
    · have e := Option.some.inj h; subst e
      exact retT 100000 [.res (bl r104) [.undef, .undef], .t false, .t true] (aa (c_w_eqMConfS x0.masters x1.masters hr104) (aa g1 (aa g2 tt))) (by kernel_rfl)
    · rcases ite_some h with ⟨g3, h⟩ | ⟨g3, h⟩
      · have e := Option.some.inj h; subst e
        exact retT 100000 [.res (bl r104) [.undef, .undef], .t false, .t false, .t true] (aa (c_w_eqMConfS x0.masters x1.masters hr104) (aa g1 (aa g2 (aa g3 tt)))) (by kernel_rfl)
      · rcases ite_some h with ⟨g4, h⟩ | ⟨g4, h⟩
        · have e := Option.some.inj h; subst e
          exact retT 100000 [.res (bl r104) [.undef, .undef], .t false, .t false, .t false, .t true] (aa (c_w_eqMConfS x0.masters x1.masters hr104) (aa g1 (aa g2 (aa g3 (aa g4 tt))))) (by kernel_rfl)
        · rcases ite_some h with ⟨g5, h⟩ | ⟨g5, h⟩
          · have e := Option.some.inj h; subst e
            exact retT 100000 [.res (bl r104) [.undef, .undef], .t false, .t false, .t false, .t false, .t true] (aa (c_w_eqMConfS x0.masters x1.masters hr104) (aa g1 (aa g2 (aa g3 (aa g4 (aa g5 tt)))))) (by kernel_rfl)
          · rcases ite_some h with ⟨g6, h⟩ | ⟨g6, h⟩
            · have e := Option.some.inj h; subst e
              exact retT 100000 [.res (bl r104) [.undef, .undef], .t false, .t false, .t false, .t false, .t false, .t true] (aa (c_w_eqMConfS x0.masters x1.masters hr104) (aa g1 (aa g2 (aa g3 (aa g4 (aa g5 (aa g6 tt))))))) (by kernel_rfl)
            · have e := Option.some.inj h; subst e
              exact retT 100000 [.res (bl r104) [.undef, .undef], .t false, .t false, .t false, .t false, .t false, .t false] (aa (c_w_eqMConfS x0.masters x1.masters hr104) (aa g1 (aa g2 (aa g3 (aa g4 (aa g5 (aa g6 tt))))))) (by kernel_rfl)

abbrev R_w_FnExactSpreadMost (x0 : GConf) (x1 : Int) (x2 : Int) (r : Bool) : Ex → St → Prop := RetC Try.prog Mo 11 Try.f11 [.agg (GConf.enc x0), il x1, il x2] (bl r, [.undef, .undef, .undef])

theorem c_w_FnExactSpreadMost (x0 : GConf) (x1 : Int) (x2 : Int) {r : Bool} (h : p_w_FnExactSpreadMost x0 x1 x2 = some r) : Fine Try.prog Mo (11, [.agg (GConf.enc x0), il x1, il x2], bl r, [.undef, .undef, .undef]) := by
  refine fineT Try.func11 rfl (by kernel_rfl) ?_
  unfold p_w_FnExactSpreadMost at h
  obtain ⟨r202, hr202, h⟩ := bnd_some h
  rcases ite_some h with ⟨g1, h⟩ | ⟨g1, h⟩
  · have e := Option.some.inj h; subst e
    exact retT 100000 [.res (il r202) [.undef, .undef], .t true] (aa (c_w_szConf x0 1048576 hr202) (aa g1 tt)) (by kernel_rfl)
  · obtain ⟨r501, hr501, h⟩ := bnd_some h
    obtain ⟨r504, hr504, h⟩ := bnd_some h
    obtain ⟨r601, hr601, h⟩ := bnd_some h
    obtain ⟨r703, hr703, h⟩ := bnd_some h
    rcases ite_some h with ⟨g2, h⟩ | ⟨g2, h⟩
    · have e := Option.some.inj h; subst e
      exact retT 100000 [.res (il r202) [.undef, .undef], .t false, .res (.agg [.own 115 (r501.masters.map GMConf.enc), il r501.quantum, il r501.maxWait, il r501.maxRetry, il r501.maxSplit, il r501.lockMost]) [.undef], .k, .res (il r504) [.undef, .undef, .undef], .res (.agg [.own 115 (r601.masters.map GMConf.enc), il r601.quantum, il r601.maxWait, il r601.maxRetry, il r601.maxSplit, il r601.lockMost]) [.undef], .k, .res (il r703) [.undef, .undef, .undef], .t true] (aa (c_w_szConf x0 1048576 hr202) (aa g1 (aa (c_w_toConf x0 hr501) (aa (lene GMConf.enc r501.masters) (aa (c_s_SpreadMost r501 x1 x2 hr504) (aa (c_w_toConf x0 hr601) (aa (lene GMConf.enc r601.masters) (aa (c_i_SpreadMost r601 x1 x2 hr703) (aa g2 tt))))))))) (by kernel_rfl)
    · obtain ⟨r1002, hr1002, h⟩ := bnd_some h
      obtain ⟨r1003, hr1003, h⟩ := bnd_some h
      rcases ite_some h with ⟨g3, h⟩ | ⟨g3, h⟩
      · have e := Option.some.inj h; subst e
        exact retT 100000 [.res (il r202) [.undef, .undef], .t false, .res (.agg [.own 115 (r501.masters.map GMConf.enc), il r501.quantum, il r501.maxWait, il r501.maxRetry, il r501.maxSplit, il r501.lockMost]) [.undef], .k, .res (il r504) [.undef, .undef, .undef], .res (.agg [.own 115 (r601.masters.map GMConf.enc), il r601.quantum, il r601.maxWait, il r601.maxRetry, il r601.maxSplit, il r601.lockMost]) [.undef], .k, .res (il r703) [.undef, .undef, .undef], .t false, .res (.agg [.own 115 (r1002.masters.map GMConf.enc), il r1002.quantum, il r1002.maxWait, il r1002.maxRetry, il r1002.maxSplit, il r1002.lockMost]) [.undef], .k, .k, .res (bl r1003) [.undef, .undef], .t true] (aa (c_w_szConf x0 1048576 hr202) (aa g1 (aa (c_w_toConf x0 hr501) (aa (lene GMConf.enc r501.masters) (aa (c_s_SpreadMost r501 x1 x2 hr504) (aa (c_w_toConf x0 hr601) (aa (lene GMConf.enc r601.masters) (aa (c_i_SpreadMost r601 x1 x2 hr703) (aa g2 (aa (c_w_toConf x0 hr1002) (aa (lene GMConf.enc r601.masters) (aa (lene GMConf.enc r1002.masters) (aa (c_w_eqConf r601 r1002 hr1003) (aa g3 tt)))))))))))))) (by kernel_rfl)
      · have e := Option.some.inj h; subst e
        exact retT 100000 [.res (il r202) [.undef, .undef], .t false, .res (.agg [.own 115 (r501.masters.map GMConf.enc), il r501.quantum, il r501.maxWait, il r501.maxRetry, il r501.maxSplit, il r501.lockMost]) [.undef], .k, .res (il r504) [.undef, .undef, .undef], .res (.agg [.own 115 (r601.masters.map GMConf.enc), il r601.quantum, il r601.maxWait, il r601.maxRetry, il r601.maxSplit, il r601.lockMost]) [.undef], .k, .res (il r703) [.undef, .undef, .undef], .t false, .res (.agg [.own 115 (r1002.masters.map GMConf.enc), il r1002.quantum, il r1002.maxWait, il r1002.maxRetry, il r1002.maxSplit, il r1002.lockMost]) [.undef], .k, .k, .res (bl r1003) [.undef, .undef], .t false] (aa (c_w_szConf x0 1048576 hr202) (aa g1 (aa (c_w_toConf x0 hr501) (aa (lene GMConf.enc r501.masters) (aa (c_s_SpreadMost r501 x1 x2 hr504) (aa (c_w_toConf x0 hr601) (aa (lene GMConf.enc r601.masters) (aa (c_i_SpreadMost r601 x1 x2 hr703) (aa g2 (aa (c_w_toConf x0 hr1002) (aa (lene GMConf.enc r601.masters) (aa (lene GMConf.enc r1002.masters) (aa (c_w_eqConf r601 r1002 hr1003) (aa g3 tt)))))))))))))) (by kernel_rfl)

abbrev R_s_l5Ints (x0 : List Int) (x1 : List Int) (r : Bool) : Ex → St → Prop := RetC Try.prog Mo 90 Try.f90 [.tr (x0.map encI), .tr (x1.map encI)] (bl r, [.undef, .undef])

theorem c_s_l5Ints__L1 (x0 : List Int) (x1 : List Int) {r : Bool} : ∀ (m : Nat) (v5 : Int), p_s_l5Ints__L1 x0 x1  m v5 = some r → SX Try.prog (R_s_l5Ints x0 x1 r) (at_ [1, 1, 0, 1, 0] (bodyOf Try.f90) []) .normal (mkS [(0, .tr (x0.map encI)), (1, .tr (x1.map encI)), (5, il v5)] [] 1) := by
  intro m
  induction m with
  | zero => intro v5 h; cases h
  | succ m ih =>
    intro v5 h
    replace h : p_s_l5Ints__L1b x0 x1  _ v5 = some r := h
    unfold p_s_l5Ints__L1b at h
    rcases ite_some h with ⟨g1, h⟩ | ⟨g1, h⟩
    · obtain ⟨a602, ha602, h⟩ := bnd_some h
      obtain ⟨a606, ha606, h⟩ := bnd_some h
      rcases ite_some h with ⟨g2, h⟩ | ⟨g2, h⟩
      · have e := Option.some.inj h; subst e
        exact retT 100000 [.num x0.length 0 0 [], .t true, .row (v5 : Int).toNat (encI a602), .row (v5 : Int).toNat (encI a606), .t true] (aa (lenr encI x0) (aa g1 (aa (ixn ha602) (aa (ixr encI ha602) (aa (ixn ha606) (aa (ixr encI ha606) (aa g2 tt))))))) (by kernel_rfl)
      · exact cutT [] 14 [.num x0.length 0 0 [], .t true, .row (v5 : Int).toNat (encI a602), .row (v5 : Int).toNat (encI a606), .t false] (aa (lenr encI x0) (aa g1 (aa (ixn ha602) (aa (ixr encI ha602) (aa (ixn ha606) (aa (ixr encI ha606) (aa g2 tt))))))) (ih _ h) (by kernel_rfl) (by kernel_rfl)
    · have e := Option.some.inj h; subst e
      exact retT 100000 [.num x0.length 0 0 [], .t false] (aa (lenr encI x0) (aa g1 tt)) (by kernel_rfl)

theorem c_s_l5Ints (x0 : List Int) (x1 : List Int) {r : Bool} (h : p_s_l5Ints x0 x1 = some r) : Fine Try.prog Mo (90, [.tr (x0.map encI), .tr (x1.map encI)], bl r, [.undef, .undef]) := by
  refine fineT Try.func90 rfl (by kernel_rfl) ?_
  unfold p_s_l5Ints at h
  rcases ite_some h with ⟨g1, h⟩ | ⟨g1, h⟩
  · have e := Option.some.inj h; subst e
    exact retT 100000 [.num x0.length 0 0 [], .num x1.length 0 0 [], .t true] (aa (lenr encI x0) (aa (lenr encI x1) (aa g1 tt))) (by kernel_rfl)
  · exact cutT [] 11 [.num x0.length 0 0 [], .num x1.length 0 0 [], .t false] (aa (lenr encI x0) (aa (lenr encI x1) (aa g1 tt))) (c_s_l5Ints__L1 x0 x1 _ _ h) (by kernel_rfl) (by kernel_rfl)

abbrev R_s_SameReq (x0 : GReq) (x1 : GReq) (r : Bool) : Ex → St → Prop := RetC Try.prog Mo 91 Try.f91 [.agg (GReq.enc x0), .agg (GReq.enc x1)] (bl r, [.undef, .undef])

theorem c_s_SameReq (x0 : GReq) (x1 : GReq) {r : Bool} (h : p_s_SameReq x0 x1 = some r) : Fine Try.prog Mo (91, [.agg (GReq.enc x0), .agg (GReq.enc x1)], bl r, [.undef, .undef]) := by
  refine fineT Try.func91 rfl (by kernel_rfl) ?_
  unfold p_s_SameReq at h
  rcases ite_some h with ⟨g1, h⟩ | ⟨g1, h⟩
  · rcases ite_some h with ⟨g2, h⟩ | ⟨g2, h⟩
    · rcases ite_some h with ⟨g3, h⟩ | ⟨g3, h⟩
      · rcases ite_some h with ⟨g4, h⟩ | ⟨g4, h⟩
        · rcases ite_some h with ⟨g5, h⟩ | ⟨g5, h⟩
          · obtain ⟨r138, hr138, h⟩ := bnd_some h
            have e := Option.some.inj h; subst e
            exact retT 100000 [.t true, .k, .k, .k, .k, .k, .t true, .k, .k, .k, .k, .k, .t true, .k, .k, .k, .k, .k, .t true, .k, .k, .k, .k, .k, .t true, .k, .k, .k, .k, .res (bl r138) [.undef, .undef], .k] (aa g1 (aa g2 (aa g3 (aa g4 (aa g5 (aa (c_s_l5Ints x0.data_ x1.data_ hr138) tt)))))) (by kernel_rfl)
          · have e := Option.some.inj h; subst e
            exact retT 100000 [.t true, .k, .k, .k, .k, .k, .t true, .k, .k, .k, .k, .k, .t true, .k, .k, .k, .k, .k, .t true, .k, .k, .k, .k, .k, .t false, .k, .k, .k, .k, .k] (aa g1 (aa g2 (aa g3 (aa g4 (aa g5 tt))))) (by kernel_rfl)
        · have e := Option.some.inj h; subst e
          exact retT 100000 [.t true, .k, .k, .k, .k, .k, .t true, .k, .k, .k, .k, .k, .t true, .k, .k, .k, .k, .k, .t false, .k, .k, .k, .k, .k, .k, .k, .k, .k, .k, .k] (aa g1 (aa g2 (aa g3 (aa g4 tt)))) (by kernel_rfl)
      · have e := Option.some.inj h; subst e
        exact retT 100000 [.t true, .k, .k, .k, .k, .k, .t true, .k, .k, .k, .k, .k, .t false, .k, .k, .k, .k, .k, .k, .k, .k, .k, .k, .k, .k, .k, .k, .k, .k, .k] (aa g1 (aa g2 (aa g3 tt))) (by kernel_rfl)
    · have e := Option.some.inj h; subst e
      exact retT 100000 [.t true, .k, .k, .k, .k, .k, .t false, .k, .k, .k, .k, .k, .k, .k, .k, .k, .k, .k, .k, .k, .k, .k, .k, .k, .k, .k, .k, .k, .k, .k] (aa g1 (aa g2 tt)) (by kernel_rfl)
  · have e := Option.some.inj h; subst e
    exact retT 100000 [.t false, .k, .k, .k, .k, .k, .k, .k, .k, .k, .k, .k, .k, .k, .k, .k, .k, .k, .k, .k, .k, .k, .k, .k, .k, .k, .k, .k, .k, .k] (aa g1 tt) (by kernel_rfl)

abbrev R_s_SameScript (x0 : GScript) (x1 : GScript) (r : Bool) : Ex → St → Prop := RetC Try.prog Mo 55 Try.f55 [.agg (GScript.enc x0), .agg (GScript.enc x1)] (bl r, [.undef, .undef])

theorem c_s_SameScript__L1 (x0 : GScript) (x1 : GScript) {r : Bool} : ∀ (m : Nat) (v5 : Int), p_s_SameScript__L1 x0 x1  m v5 = some r → SX Try.prog (R_s_SameScript x0 x1 r) (at_ [1, 1, 0, 1, 0] (bodyOf Try.f55) []) .normal (mkS [(2, .ptr (1, 1) 0 0), (3, .ptr (1, 2) 0 0), (5, il v5)] [((1, 1), ⟨true, true, true, 0, [(GScript.enc x0)]⟩), ((1, 2), ⟨true, true, true, 0, [(GScript.enc x1)]⟩)] 1) := by
  intro m
  induction m with
  | zero => intro v5 h; cases h
  | succ m ih =>
    intro v5 h
    replace h : p_s_SameScript__L1b x0 x1  _ v5 = some r := h
    unfold p_s_SameScript__L1b at h
    rcases ite_some h with ⟨g1, h⟩ | ⟨g1, h⟩
    · obtain ⟨a603, ha603, h⟩ := bnd_some h
      obtain ⟨a609, ha609, h⟩ := bnd_some h
      rcases ite_some h with ⟨g2, h⟩ | ⟨g2, h⟩
      · have e := Option.some.inj h; subst e
        exact retT 100000 [.num x0.posts.length 0 0 [], .t true, .row (v5 : Int).toNat (GPost.enc a603), .row (v5 : Int).toNat (GPost.enc a609), .t true, .k, .k, .k, .k, .k, .k, .k, .k, .k, .k, .k, .k, .k, .k, .k, .k, .k, .k, .k, .k, .k, .k, .k, .k, .k, .k, .k, .k, .k] (aa (lenr GPost.enc x0.posts) (aa g1 (aa (ixn ha603) (aa (ixr GPost.enc ha603) (aa (ixn ha609) (aa (ixr GPost.enc ha609) (aa g2 tt))))))) (by kernel_rfl)
      · rcases ite_some h with ⟨g3, h⟩ | ⟨g3, h⟩
        · have e := Option.some.inj h; subst e
          exact retT 100000 [.num x0.posts.length 0 0 [], .t true, .row (v5 : Int).toNat (GPost.enc a603), .row (v5 : Int).toNat (GPost.enc a609), .t false, .k, .k, .k, .row (v5 : Int).toNat (GPost.enc a603), .k, .k, .k, .k, .k, .k, .row (v5 : Int).toNat (GPost.enc a609), .k, .k, .k, .k, .t true, .k, .k, .k, .k, .k, .k, .k, .k, .k, .k, .k, .k, .k, .k, .k] (aa (lenr GPost.enc x0.posts) (aa g1 (aa (ixn ha603) (aa (ixr GPost.enc ha603) (aa (ixn ha609) (aa (ixr GPost.enc ha609) (aa g2 (aa (ixn ha603) (aa (ixr GPost.enc ha603) (aa (ixn ha609) (aa (ixr GPost.enc ha609) (aa g3 tt)))))))))))) (by kernel_rfl)
        · obtain ⟨r641, hr641, h⟩ := bnd_some h
          rcases ite_some h with ⟨g4, h⟩ | ⟨g4, h⟩
          · have e := Option.some.inj h; subst e
            exact retT 100000 [.num x0.posts.length 0 0 [], .t true, .row (v5 : Int).toNat (GPost.enc a603), .row (v5 : Int).toNat (GPost.enc a609), .t false, .k, .k, .k, .row (v5 : Int).toNat (GPost.enc a603), .k, .k, .k, .k, .k, .k, .row (v5 : Int).toNat (GPost.enc a609), .k, .k, .k, .k, .t false, .k, .k, .k, .row (v5 : Int).toNat (GPost.enc a603), .k, .k, .k, .k, .k, .k, .row (v5 : Int).toNat (GPost.enc a609), .k, .k, .k, .res (bl r641) [.undef, .undef], .k, .k, .t true] (aa (lenr GPost.enc x0.posts) (aa g1 (aa (ixn ha603) (aa (ixr GPost.enc ha603) (aa (ixn ha609) (aa (ixr GPost.enc ha609) (aa g2 (aa (ixn ha603) (aa (ixr GPost.enc ha603) (aa (ixn ha609) (aa (ixr GPost.enc ha609) (aa g3 (aa (ixn ha603) (aa (ixr GPost.enc ha603) (aa (ixn ha609) (aa (ixr GPost.enc ha609) (aa (c_s_SameReq a603.req a609.req hr641) (aa g4 tt)))))))))))))))))) (by kernel_rfl)
          · exact cutT [((1, 1), (1, 1)), ((1, 2), (1, 2))] 14 [.num x0.posts.length 0 0 [], .t true, .row (v5 : Int).toNat (GPost.enc a603), .row (v5 : Int).toNat (GPost.enc a609), .t false, .k, .k, .k, .row (v5 : Int).toNat (GPost.enc a603), .k, .k, .k, .k, .k, .k, .row (v5 : Int).toNat (GPost.enc a609), .k, .k, .k, .k, .t false, .k, .k, .k, .row (v5 : Int).toNat (GPost.enc a603), .k, .k, .k, .k, .k, .k, .row (v5 : Int).toNat (GPost.enc a609), .k, .k, .k, .res (bl r641) [.undef, .undef], .k, .k, .t false] (aa (lenr GPost.enc x0.posts) (aa g1 (aa (ixn ha603) (aa (ixr GPost.enc ha603) (aa (ixn ha609) (aa (ixr GPost.enc ha609) (aa g2 (aa (ixn ha603) (aa (ixr GPost.enc ha603) (aa (ixn ha609) (aa (ixr GPost.enc ha609) (aa g3 (aa (ixn ha603) (aa (ixr GPost.enc ha603) (aa (ixn ha609) (aa (ixr GPost.enc ha609) (aa (c_s_SameReq a603.req a609.req hr641) (aa g4 tt)))))))))))))))))) (ih _ h) (by kernel_rfl) (by kernel_rfl)
    · have e := Option.some.inj h; subst e
      exact retT 100000 [.num x0.posts.length 0 0 [], .t false] (aa (lenr GPost.enc x0.posts) (aa g1 tt)) (by kernel_rfl)

theorem c_s_SameScript__J2 (x0 : GScript) (x1 : GScript) {r : Bool} (v28 : Bool) (h : p_s_SameScript__J2 x0 x1  v28 = some r) : SX Try.prog (R_s_SameScript x0 x1 r) (at_ [1, 0, 1] (bodyOf Try.f55) []) .normal (mkS [(2, .ptr (1, 1) 0 0), (3, .ptr (1, 2) 0 0), (28, bl v28)] [((1, 1), ⟨true, true, true, 0, [(GScript.enc x0)]⟩), ((1, 2), ⟨true, true, true, 0, [(GScript.enc x1)]⟩)] 1) := by
  unfold p_s_SameScript__J2 at h
  rcases ite_some h with ⟨g1, h⟩ | ⟨g1, h⟩
  · have e := Option.some.inj h; subst e
    exact retT 100000 [.t true] (aa g1 tt) (by kernel_rfl)
  · exact cutT [((1, 1), (1, 1)), ((1, 2), (1, 2))] 6 [.t false] (aa g1 tt) (c_s_SameScript__L1 x0 x1 _ _ h) (by kernel_rfl) (by kernel_rfl)

theorem c_s_SameScript (x0 : GScript) (x1 : GScript) {r : Bool} (h : p_s_SameScript x0 x1 = some r) : Fine Try.prog Mo (55, [.agg (GScript.enc x0), .agg (GScript.enc x1)], bl r, [.undef, .undef]) := by
  refine fineT Try.func55 rfl (by kernel_rfl) ?_
  unfold p_s_SameScript at h
  obtain ⟨r104, hr104, h⟩ := bnd_some h
  rcases ite_some h with ⟨g1, h⟩ | ⟨g1, h⟩
  · exact cutT [((1, 1), (1, 0)), ((1, 2), (1, 1024))] 5 [.res (bl r104) [.undef, .undef], .t true, .k, .k, .k, .k, .k, .k, .k, .k, .k, .k, .k, .k, .k, .k] (aa (c_s_l5Ints x0.waits x1.waits hr104) (aa g1 tt)) (c_s_SameScript__J2 x0 x1 _ h) (by kernel_rfl) (by kernel_rfl)
  · obtain ⟨r111, hr111, h⟩ := bnd_some h
    rcases ite_some h with ⟨g2, h⟩ | ⟨g2, h⟩
    · exact cutT [((1, 1), (1, 0)), ((1, 2), (1, 1024))] 5 [.res (bl r104) [.undef, .undef], .t false, .k, .k, .k, .k, .res (bl r111) [.undef, .undef], .k, .k, .t true, .k, .k, .k, .k, .k, .k, .k] (aa (c_s_l5Ints x0.waits x1.waits hr104) (aa g1 (aa (c_s_l5Ints x0.says x1.says hr111) (aa g2 tt)))) (c_s_SameScript__J2 x0 x1 _ h) (by kernel_rfl) (by kernel_rfl)
    · exact cutT [((1, 1), (1, 0)), ((1, 2), (1, 1024))] 5 [.res (bl r104) [.undef, .undef], .t false, .k, .k, .k, .k, .res (bl r111) [.undef, .undef], .k, .k, .t false, .k, .k, .num x0.posts.length 0 0 [], .k, .k, .k, .num x1.posts.length 0 0 [], .k, .k] (aa (c_s_l5Ints x0.waits x1.waits hr104) (aa g1 (aa (c_s_l5Ints x0.says x1.says hr111) (aa g2 (aa (lenr GPost.enc x0.posts) (aa (lenr GPost.enc x1.posts) tt)))))) (c_s_SameScript__J2 x0 x1 _ h) (by kernel_rfl) (by kernel_rfl)

abbrev R_slices_Equal_int_int (x0 : List Int) (x1 : List Int) (r : Bool) : Ex → St → Prop := RetC Try.prog Mo 92 Try.f92 [.tr (x0.map encI), .tr (x1.map encI)] (bl r, [.undef, .undef])

theorem c_slices_Equal_int_int__L1 (x0 : List Int) (x1 : List Int) {r : Bool} : ∀ (m : Nat) (v13 : Int), p_slices_Equal_int_int__L1 x0 x1  m v13 = some r → SX Try.prog (R_slices_Equal_int_int x0 x1 r) (at_ [1, 1, 0, 1, 0] (bodyOf Try.f92) []) .normal (mkS [(0, .tr (x0.map encI)), (1, .tr (x1.map encI)), (12, il (x0.length : Int)), (13, il v13)] [] 1) := by
  intro m
  induction m with
  | zero => intro v13 h; cases h
  | succ m ih =>
    intro v13 h
    replace h : p_slices_Equal_int_int__L1b x0 x1  _ v13 = some r := h
    unfold p_slices_Equal_int_int__L1b at h
    rcases ite_some h with ⟨g1, h⟩ | ⟨g1, h⟩
    · obtain ⟨a602, ha602, h⟩ := bnd_some h
      obtain ⟨a606, ha606, h⟩ := bnd_some h
      rcases ite_some h with ⟨g2, h⟩ | ⟨g2, h⟩
      · have e := Option.some.inj h; subst e
        exact retT 100000 [.t true, .row (v13 : Int).toNat (encI a602), .row (v13 : Int).toNat (encI a606), .t true] (aa g1 (aa (ixn ha602) (aa (ixr encI ha602) (aa (ixn ha606) (aa (ixr encI ha606) (aa g2 tt)))))) (by kernel_rfl)
      · exact cutT [] 16 [.t true, .row (v13 : Int).toNat (encI a602), .row (v13 : Int).toNat (encI a606), .t false] (aa g1 (aa (ixn ha602) (aa (ixr encI ha602) (aa (ixn ha606) (aa (ixr encI ha606) (aa g2 tt)))))) (ih _ h) (by kernel_rfl) (by kernel_rfl)
    · have e := Option.some.inj h; subst e
      exact retT 100000 [.t false] (aa g1 tt) (by kernel_rfl)

theorem c_slices_Equal_int_int (x0 : List Int) (x1 : List Int) {r : Bool} (h : p_slices_Equal_int_int x0 x1 = some r) : Fine Try.prog Mo (92, [.tr (x0.map encI), .tr (x1.map encI)], bl r, [.undef, .undef]) := by
  refine fineT Try.func92 rfl (by kernel_rfl) ?_
  unfold p_slices_Equal_int_int at h
  rcases ite_some h with ⟨g1, h⟩ | ⟨g1, h⟩
  · have e := Option.some.inj h; subst e
    exact retT 100000 [.num x0.length 0 0 [], .num x1.length 0 0 [], .t true] (aa (lenr encI x0) (aa (lenr encI x1) (aa g1 tt))) (by kernel_rfl)
  · exact cutT [] 11 [.num x0.length 0 0 [], .num x1.length 0 0 [], .t false, .num x0.length 0 0 []] (aa (lenr encI x0) (aa (lenr encI x1) (aa g1 (aa (lenr encI x0) tt)))) (c_slices_Equal_int_int__L1 x0 x1 _ _ h) (by kernel_rfl) (by kernel_rfl)

abbrev R_i_SameReq (x0 : GReq) (x1 : GReq) (r : Bool) : Ex → St → Prop := RetC Try.prog Mo 95 Try.f95 [.agg (GReq.enc x0), .agg (GReq.enc x1)] (bl r, [.undef, .undef])

theorem c_i_SameReq (x0 : GReq) (x1 : GReq) {r : Bool} (h : p_i_SameReq x0 x1 = some r) : Fine Try.prog Mo (95, [.agg (GReq.enc x0), .agg (GReq.enc x1)], bl r, [.undef, .undef]) := by
  refine fineT Try.func95 rfl (by kernel_rfl) ?_
  unfold p_i_SameReq at h
  rcases ite_some h with ⟨g1, h⟩ | ⟨g1, h⟩
  · rcases ite_some h with ⟨g2, h⟩ | ⟨g2, h⟩
    · rcases ite_some h with ⟨g3, h⟩ | ⟨g3, h⟩
      · rcases ite_some h with ⟨g4, h⟩ | ⟨g4, h⟩
        · rcases ite_some h with ⟨g5, h⟩ | ⟨g5, h⟩
          · obtain ⟨r138, hr138, h⟩ := bnd_some h
            have e := Option.some.inj h; subst e
            exact retT 100000 [.t true, .k, .k, .k, .k, .k, .t true, .k, .k, .k, .k, .k, .t true, .k, .k, .k, .k, .k, .t true, .k, .k, .k, .k, .k, .t true, .k, .k, .k, .k, .res (bl r138) [.undef, .undef], .k] (aa g1 (aa g2 (aa g3 (aa g4 (aa g5 (aa (c_slices_Equal_int_int x0.data_ x1.data_ hr138) tt)))))) (by kernel_rfl)
          · have e := Option.some.inj h; subst e
            exact retT 100000 [.t true, .k, .k, .k, .k, .k, .t true, .k, .k, .k, .k, .k, .t true, .k, .k, .k, .k, .k, .t true, .k, .k, .k, .k, .k, .t false, .k, .k, .k, .k, .k] (aa g1 (aa g2 (aa g3 (aa g4 (aa g5 tt))))) (by kernel_rfl)
        · have e := Option.some.inj h; subst e
          exact retT 100000 [.t true, .k, .k, .k, .k, .k, .t true, .k, .k, .k, .k, .k, .t true, .k, .k, .k, .k, .k, .t false, .k, .k, .k, .k, .k, .k, .k, .k, .k, .k, .k] (aa g1 (aa g2 (aa g3 (aa g4 tt)))) (by kernel_rfl)
      · have e := Option.some.inj h; subst e
        exact retT 100000 [.t true, .k, .k, .k, .k, .k, .t true, .k, .k, .k, .k, .k, .t false, .k, .k, .k, .k, .k, .k, .k, .k, .k, .k, .k, .k, .k, .k, .k, .k, .k] (aa g1 (aa g2 (aa g3 tt))) (by kernel_rfl)
    · have e := Option.some.inj h; subst e
      exact retT 100000 [.t true, .k, .k, .k, .k, .k, .t false, .k, .k, .k, .k, .k, .k, .k, .k, .k, .k, .k, .k, .k, .k, .k, .k, .k, .k, .k, .k, .k, .k, .k] (aa g1 (aa g2 tt)) (by kernel_rfl)
  · have e := Option.some.inj h; subst e
    exact retT 100000 [.t false, .k, .k, .k, .k, .k, .k, .k, .k, .k, .k, .k, .k, .k, .k, .k, .k, .k, .k, .k, .k, .k, .k, .k, .k, .k, .k, .k, .k, .k] (aa g1 tt) (by kernel_rfl)

abbrev R_i_SameScript_1 (x0 : GPost) (x1 : GPost) (r : Bool) : Ex → St → Prop := RetC Try.prog Mo 94 Try.f94 [.agg (GPost.enc x0), .agg (GPost.enc x1)] (bl r, [.undef, .undef])

theorem c_i_SameScript_1 (x0 : GPost) (x1 : GPost) {r : Bool} (h : p_i_SameScript_1 x0 x1 = some r) : Fine Try.prog Mo (94, [.agg (GPost.enc x0), .agg (GPost.enc x1)], bl r, [.undef, .undef]) := by
  refine fineT Try.func94 rfl (by kernel_rfl) ?_
  unfold p_i_SameScript_1 at h
  rcases ite_some h with ⟨g1, h⟩ | ⟨g1, h⟩
  · rcases ite_some h with ⟨g2, h⟩ | ⟨g2, h⟩
    · obtain ⟨r117, hr117, h⟩ := bnd_some h
      have e := Option.some.inj h; subst e
      exact retT 100000 [.t true, .k, .k, .k, .k, .k, .t true, .k, .k, .k, .k, .res (bl r117) [.undef, .undef], .k] (aa g1 (aa g2 (aa (c_i_SameReq x0.req x1.req hr117) tt))) (by kernel_rfl)
    · have e := Option.some.inj h; subst e
      exact retT 100000 [.t true, .k, .k, .k, .k, .k, .t false, .k, .k, .k, .k, .k] (aa g1 (aa g2 tt)) (by kernel_rfl)
  · have e := Option.some.inj h; subst e
    exact retT 100000 [.t false, .k, .k, .k, .k, .k, .k, .k, .k, .k, .k, .k] (aa g1 tt) (by kernel_rfl)

abbrev R_slices_EqualFunc_Post_Post_Post_Post__i_SameScript_1 (x0 : List GPost) (x1 : List GPost) (r : Bool) : Ex → St → Prop := RetC Try.prog Mo 93 Try.f93 [.tr (x0.map GPost.enc), .tr (x1.map GPost.enc), .fn 94 []] (bl r, [.undef, .undef, .undef])

theorem c_slices_EqualFunc_Post_Post_Post_Post__i_SameScript_1__L1 (x0 : List GPost) (x1 : List GPost) {r : Bool} : ∀ (m : Nat) (v17 : Int), p_slices_EqualFunc_Post_Post_Post_Post__i_SameScript_1__L1 x0 x1  m v17 = some r → SX Try.prog (R_slices_EqualFunc_Post_Post_Post_Post__i_SameScript_1 x0 x1 r) (at_ [1, 1, 0, 1, 0] (bodyOf Try.f93) []) .normal (mkS [(1, .tr (x1.map GPost.enc)), (2, .fn 94 []), (15, .tr (x0.map GPost.enc)), (16, il (x0.length : Int)), (17, il v17)] [] 1) := by
  intro m
  induction m with
  | zero => intro v17 h; cases h
  | succ m ih =>
    intro v17 h
    replace h : p_slices_EqualFunc_Post_Post_Post_Post__i_SameScript_1__L1b x0 x1  _ v17 = some r := h
    unfold p_slices_EqualFunc_Post_Post_Post_Post__i_SameScript_1__L1b at h
    rcases ite_some h with ⟨g1, h⟩ | ⟨g1, h⟩
    · obtain ⟨a501, ha501, h⟩ := bnd_some h
      obtain ⟨a602, ha602, h⟩ := bnd_some h
      obtain ⟨r703, hr703, h⟩ := bnd_some h
      rcases ite_some h with ⟨g2, h⟩ | ⟨g2, h⟩
      · have e := Option.some.inj h; subst e
        exact retT 100000 [.t true, .row (v17 : Int).toNat (GPost.enc a501), .row (v17 : Int).toNat (GPost.enc a602), .res (bl r703) [.undef, .undef], .t true] (aa g1 (aa (ixn ha501) (aa (ixr GPost.enc ha501) (aa (ixn ha602) (aa (ixr GPost.enc ha602) (aa (c_i_SameScript_1 a501 a602 hr703) (aa g2 tt))))))) (by kernel_rfl)
      · exact cutT [] 18 [.t true, .row (v17 : Int).toNat (GPost.enc a501), .row (v17 : Int).toNat (GPost.enc a602), .res (bl r703) [.undef, .undef], .t false] (aa g1 (aa (ixn ha501) (aa (ixr GPost.enc ha501) (aa (ixn ha602) (aa (ixr GPost.enc ha602) (aa (c_i_SameScript_1 a501 a602 hr703) (aa g2 tt))))))) (ih _ h) (by kernel_rfl) (by kernel_rfl)
    · have e := Option.some.inj h; subst e
      exact retT 100000 [.t false] (aa g1 tt) (by kernel_rfl)

theorem c_slices_EqualFunc_Post_Post_Post_Post__i_SameScript_1 (x0 : List GPost) (x1 : List GPost) {r : Bool} (h : p_slices_EqualFunc_Post_Post_Post_Post__i_SameScript_1 x0 x1 = some r) : Fine Try.prog Mo (93, [.tr (x0.map GPost.enc), .tr (x1.map GPost.enc), .fn 94 []], bl r, [.undef, .undef, .undef]) := by
  refine fineT Try.func93 rfl (by kernel_rfl) ?_
  unfold p_slices_EqualFunc_Post_Post_Post_Post__i_SameScript_1 at h
  rcases ite_some h with ⟨g1, h⟩ | ⟨g1, h⟩
  · have e := Option.some.inj h; subst e
    exact retT 100000 [.num x0.length 0 0 [], .num x1.length 0 0 [], .t true] (aa (lenr GPost.enc x0) (aa (lenr GPost.enc x1) (aa g1 tt))) (by kernel_rfl)
  · exact cutT [] 11 [.num x0.length 0 0 [], .num x1.length 0 0 [], .t false, .num x0.length 0 0 []] (aa (lenr GPost.enc x0) (aa (lenr GPost.enc x1) (aa g1 (aa (lenr GPost.enc x0) tt)))) (c_slices_EqualFunc_Post_Post_Post_Post__i_SameScript_1__L1 x0 x1 _ _ h) (by kernel_rfl) (by kernel_rfl)

abbrev R_i_SameScript (x0 : GScript) (x1 : GScript) (r : Bool) : Ex → St → Prop := RetC Try.prog Mo 56 Try.f56 [.agg (GScript.enc x0), .agg (GScript.enc x1)] (bl r, [.undef, .undef])

theorem c_i_SameScript (x0 : GScript) (x1 : GScript) {r : Bool} (h : p_i_SameScript x0 x1 = some r) : Fine Try.prog Mo (56, [.agg (GScript.enc x0), .agg (GScript.enc x1)], bl r, [.undef, .undef]) := by
  refine fineT Try.func56 rfl (by kernel_rfl) ?_
  unfold p_i_SameScript at h
  obtain ⟨r104, hr104, h⟩ := bnd_some h
  rcases ite_some h with ⟨g1, h⟩ | ⟨g1, h⟩
  · obtain ⟨r110, hr110, h⟩ := bnd_some h
    rcases ite_some h with ⟨g2, h⟩ | ⟨g2, h⟩
    · obtain ⟨r117, hr117, h⟩ := bnd_some h
      have e := Option.some.inj h; subst e
      exact retT 100000 [.res (bl r104) [.undef, .undef], .t true, .k, .k, .k, .k, .res (bl r110) [.undef, .undef], .k, .t true, .k, .k, .k, .k, .res (bl r117) [.undef, .undef, .undef], .k] (aa (c_slices_Equal_int_int x0.waits x1.waits hr104) (aa g1 (aa (c_slices_Equal_int_int x0.says x1.says hr110) (aa g2 (aa (c_slices_EqualFunc_Post_Post_Post_Post__i_SameScript_1 x0.posts x1.posts hr117) tt))))) (by kernel_rfl)
    · have e := Option.some.inj h; subst e
      exact retT 100000 [.res (bl r104) [.undef, .undef], .t true, .k, .k, .k, .k, .res (bl r110) [.undef, .undef], .k, .t false, .k, .k, .k, .k, .k] (aa (c_slices_Equal_int_int x0.waits x1.waits hr104) (aa g1 (aa (c_slices_Equal_int_int x0.says x1.says hr110) (aa g2 tt)))) (by kernel_rfl)
  · have e := Option.some.inj h; subst e
    exact retT 100000 [.res (bl r104) [.undef, .undef], .t false, .k, .k, .k, .k, .k, .k, .k, .k, .k, .k, .k] (aa (c_slices_Equal_int_int x0.waits x1.waits hr104) (aa g1 tt)) (by kernel_rfl)

abbrev R_w_FnExactSameScript (x0 : GScript) (x1 : GScript) (r : Bool) : Ex → St → Prop := RetC Try.prog Mo 12 Try.f12 [.agg (GScript.enc x0), .agg (GScript.enc x1)] (bl r, [.undef, .undef])

theorem c_w_FnExactSameScript (x0 : GScript) (x1 : GScript) {r : Bool} (h : p_w_FnExactSameScript x0 x1 = some r) : Fine Try.prog Mo (12, [.agg (GScript.enc x0), .agg (GScript.enc x1)], bl r, [.undef, .undef]) := by
  refine fineT Try.func12 rfl (by kernel_rfl) ?_
  unfold p_w_FnExactSameScript at h
  obtain ⟨r202, hr202, h⟩ := bnd_some h
  rcases ite_some h with ⟨g1, h⟩ | ⟨g1, h⟩
  · have e := Option.some.inj h; subst e
    exact retT 100000 [.res (il r202) [.undef, .undef], .t true] (aa (c_w_szScript x0 1048576 hr202) (aa g1 tt)) (by kernel_rfl)
  · obtain ⟨r502, hr502, h⟩ := bnd_some h
    rcases ite_some h with ⟨g2, h⟩ | ⟨g2, h⟩
    · have e := Option.some.inj h; subst e
      exact retT 100000 [.res (il r202) [.undef, .undef], .t false, .res (il r502) [.undef, .undef], .t true] (aa (c_w_szScript x0 1048576 hr202) (aa g1 (aa (c_w_szScript x1 r202 hr502) (aa g2 tt)))) (by kernel_rfl)
    · obtain ⟨r801, hr801, h⟩ := bnd_some h
      obtain ⟨r803, hr803, h⟩ := bnd_some h
      obtain ⟨r804, hr804, h⟩ := bnd_some h
      obtain ⟨r901, hr901, h⟩ := bnd_some h
      obtain ⟨r1001, hr1001, h⟩ := bnd_some h
      obtain ⟨r1102, hr1102, h⟩ := bnd_some h
      rcases ite_some h with ⟨g3, h⟩ | ⟨g3, h⟩
      · have e := Option.some.inj h; subst e
        exact retT 100000 [.res (il r202) [.undef, .undef], .t false, .res (il r502) [.undef, .undef], .t false, .res (.agg [.own 108 (r801.posts.map GPost.enc), .own 3 (r801.waits.map encI), .own 3 (r801.says.map encI)]) [.undef], .res (.agg [.own 108 (r803.posts.map GPost.enc), .own 3 (r803.waits.map encI), .own 3 (r803.says.map encI)]) [.undef], .k, .k, .k, .k, .k, .k, .res (bl r804) [.undef, .undef], .res (.agg [.own 108 (r901.posts.map GPost.enc), .own 3 (r901.waits.map encI), .own 3 (r901.says.map encI)]) [.undef], .res (.agg [.own 108 (r1001.posts.map GPost.enc), .own 3 (r1001.waits.map encI), .own 3 (r1001.says.map encI)]) [.undef], .k, .k, .k, .k, .k, .k, .res (bl r1102) [.undef, .undef], .t true] (aa (c_w_szScript x0 1048576 hr202) (aa g1 (aa (c_w_szScript x1 r202 hr502) (aa g2 (aa (c_w_toScript x0 hr801) (aa (c_w_toScript x1 hr803) (aa (lene GPost.enc r801.posts) (aa (lene encI r801.waits) (aa (lene encI r801.says) (aa (lene GPost.enc r803.posts) (aa (lene encI r803.waits) (aa (lene encI r803.says) (aa (c_s_SameScript r801 r803 hr804) (aa (c_w_toScript x0 hr901) (aa (c_w_toScript x1 hr1001) (aa (lene GPost.enc r901.posts) (aa (lene encI r901.waits) (aa (lene encI r901.says) (aa (lene GPost.enc r1001.posts) (aa (lene encI r1001.waits) (aa (lene encI r1001.says) (aa (c_i_SameScript r901 r1001 hr1102) (aa g3 tt))))))))))))))))))))))) (by kernel_rfl)
      · obtain ⟨r1402, hr1402, h⟩ := bnd_some h
        obtain ⟨r1403, hr1403, h⟩ := bnd_some h
        rcases ite_some h with ⟨g4, h⟩ | ⟨g4, h⟩
        · have e := Option.some.inj h; subst e
          exact retT 100000 [.res (il r202) [.undef, .undef], .t false, .res (il r502) [.undef, .undef], .t false, .res (.agg [.own 108 (r801.posts.map GPost.enc), .own 3 (r801.waits.map encI), .own 3 (r801.says.map encI)]) [.undef], .res (.agg [.own 108 (r803.posts.map GPost.enc), .own 3 (r803.waits.map encI), .own 3 (r803.says.map encI)]) [.undef], .k, .k, .k, .k, .k, .k, .res (bl r804) [.undef, .undef], .res (.agg [.own 108 (r901.posts.map GPost.enc), .own 3 (r901.waits.map encI), .own 3 (r901.says.map encI)]) [.undef], .res (.agg [.own 108 (r1001.posts.map GPost.enc), .own 3 (r1001.waits.map encI), .own 3 (r1001.says.map encI)]) [.undef], .k, .k, .k, .k, .k, .k, .res (bl r1102) [.undef, .undef], .t false, .res (.agg [.own 108 (r1402.posts.map GPost.enc), .own 3 (r1402.waits.map encI), .own 3 (r1402.says.map encI)]) [.undef], .k, .k, .k, .k, .k, .k, .res (bl r1403) [.undef, .undef], .t true] (aa (c_w_szScript x0 1048576 hr202) (aa g1 (aa (c_w_szScript x1 r202 hr502) (aa g2 (aa (c_w_toScript x0 hr801) (aa (c_w_toScript x1 hr803) (aa (lene GPost.enc r801.posts) (aa (lene encI r801.waits) (aa (lene encI r801.says) (aa (lene GPost.enc r803.posts) (aa (lene encI r803.waits) (aa (lene encI r803.says) (aa (c_s_SameScript r801 r803 hr804) (aa (c_w_toScript x0 hr901) (aa (c_w_toScript x1 hr1001) (aa (lene GPost.enc r901.posts) (aa (lene encI r901.waits) (aa (lene encI r901.says) (aa (lene GPost.enc r1001.posts) (aa (lene encI r1001.waits) (aa (lene encI r1001.says) (aa (c_i_SameScript r901 r1001 hr1102) (aa g3 (aa (c_w_toScript x0 hr1402) (aa (lene GPost.enc r901.posts) (aa (lene encI r901.waits) (aa (lene encI r901.says) (aa (lene GPost.enc r1402.posts) (aa (lene encI r1402.waits) (aa (lene encI r1402.says) (aa (c_w_eqScript r901 r1402 hr1403) (aa g4 tt)))))))))))))))))))))))))))))))) (by kernel_rfl)
        · obtain ⟨r1602, hr1602, h⟩ := bnd_some h
          obtain ⟨r1603, hr1603, h⟩ := bnd_some h
          rcases ite_some h with ⟨g5, h⟩ | ⟨g5, h⟩
          · have e := Option.some.inj h; subst e
            exact retT 100000 [.res (il r202) [.undef, .undef], .t false, .res (il r502) [.undef, .undef], .t false, .res (.agg [.own 108 (r801.posts.map GPost.enc), .own 3 (r801.waits.map encI), .own 3 (r801.says.map encI)]) [.undef], .res (.agg [.own 108 (r803.posts.map GPost.enc), .own 3 (r803.waits.map encI), .own 3 (r803.says.map encI)]) [.undef], .k, .k, .k, .k, .k, .k, .res (bl r804) [.undef, .undef], .res (.agg [.own 108 (r901.posts.map GPost.enc), .own 3 (r901.waits.map encI), .own 3 (r901.says.map encI)]) [.undef], .res (.agg [.own 108 (r1001.posts.map GPost.enc), .own 3 (r1001.waits.map encI), .own 3 (r1001.says.map encI)]) [.undef], .k, .k, .k, .k, .k, .k, .res (bl r1102) [.undef, .undef], .t false, .res (.agg [.own 108 (r1402.posts.map GPost.enc), .own 3 (r1402.waits.map encI), .own 3 (r1402.says.map encI)]) [.undef], .k, .k, .k, .k, .k, .k, .res (bl r1403) [.undef, .undef], .t false, .res (.agg [.own 108 (r1602.posts.map GPost.enc), .own 3 (r1602.waits.map encI), .own 3 (r1602.says.map encI)]) [.undef], .k, .k, .k, .k, .k, .k, .res (bl r1603) [.undef, .undef], .t true] (aa (c_w_szScript x0 1048576 hr202) (aa g1 (aa (c_w_szScript x1 r202 hr502) (aa g2 (aa (c_w_toScript x0 hr801) (aa (c_w_toScript x1 hr803) (aa (lene GPost.enc r801.posts) (aa (lene encI r801.waits) (aa (lene encI r801.says) (aa (lene GPost.enc r803.posts) (aa (lene encI r803.waits) (aa (lene encI r803.says) (aa (c_s_SameScript r801 r803 hr804) (aa (c_w_toScript x0 hr901) (aa (c_w_toScript x1 hr1001) (aa (lene GPost.enc r901.posts) (aa (lene encI r901.waits) (aa (lene encI r901.says) (aa (lene GPost.enc r1001.posts) (aa (lene encI r1001.waits) (aa (lene encI r1001.says) (aa (c_i_SameScript r901 r1001 hr1102) (aa g3 (aa (c_w_toScript x0 hr1402) (aa (lene GPost.enc r901.posts) (aa (lene encI r901.waits) (aa (lene encI r901.says) (aa (lene GPost.enc r1402.posts) (aa (lene encI r1402.waits) (aa (lene encI r1402.says) (aa (c_w_eqScript r901 r1402 hr1403) (aa g4 (aa (c_w_toScript x1 hr1602) (aa (lene GPost.enc r1001.posts) (aa (lene encI r1001.waits) (aa (lene encI r1001.says) (aa (lene GPost.enc r1602.posts) (aa (lene encI r1602.waits) (aa (lene encI r1602.says) (aa (c_w_eqScript r1001 r1602 hr1603) (aa g5 tt))))))))))))))))))))))))))))))))))))))))) (by kernel_rfl)
          · have e := Option.some.inj h; subst e
            exact retT 100000 [.res (il r202) [.undef, .undef], .t false, .res (il r502) [.undef, .undef], .t false, .res (.agg [.own 108 (r801.posts.map GPost.enc), .own 3 (r801.waits.map encI), .own 3 (r801.says.map encI)]) [.undef], .res (.agg [.own 108 (r803.posts.map GPost.enc), .own 3 (r803.waits.map encI), .own 3 (r803.says.map encI)]) [.undef], .k, .k, .k, .k, .k, .k, .res (bl r804) [.undef, .undef], .res (.agg [.own 108 (r901.posts.map GPost.enc), .own 3 (r901.waits.map encI), .own 3 (r901.says.map encI)]) [.undef], .res (.agg [.own 108 (r1001.posts.map GPost.enc), .own 3 (r1001.waits.map encI), .own 3 (r1001.says.map encI)]) [.undef], .k, .k, .k, .k, .k, .k, .res (bl r1102) [.undef, .undef], .t false, .res (.agg [.own 108 (r1402.posts.map GPost.enc), .own 3 (r1402.waits.map encI), .own 3 (r1402.says.map encI)]) [.undef], .k, .k, .k, .k, .k, .k, .res (bl r1403) [.undef, .undef], .t false, .res (.agg [.own 108 (r1602.posts.map GPost.enc), .own 3 (r1602.waits.map encI), .own 3 (r1602.says.map encI)]) [.undef], .k, .k, .k, .k, .k, .k, .res (bl r1603) [.undef, .undef], .t false] (aa (c_w_szScript x0 1048576 hr202) (aa g1 (aa (c_w_szScript x1 r202 hr502) (aa g2 (aa (c_w_toScript x0 hr801) (aa (c_w_toScript x1 hr803) (aa (lene GPost.enc r801.posts) (aa (lene encI r801.waits) (aa (lene encI r801.says) (aa (lene GPost.enc r803.posts) (aa (lene encI r803.waits) (aa (lene encI r803.says) (aa (c_s_SameScript r801 r803 hr804) (aa (c_w_toScript x0 hr901) (aa (c_w_toScript x1 hr1001) (aa (lene GPost.enc r901.posts) (aa (lene encI r901.waits) (aa (lene encI r901.says) (aa (lene GPost.enc r1001.posts) (aa (lene encI r1001.waits) (aa (lene encI r1001.says) (aa (c_i_SameScript r901 r1001 hr1102) (aa g3 (aa (c_w_toScript x0 hr1402) (aa (lene GPost.enc r901.posts) (aa (lene encI r901.waits) (aa (lene encI r901.says) (aa (lene GPost.enc r1402.posts) (aa (lene encI r1402.waits) (aa (lene encI r1402.says) (aa (c_w_eqScript r901 r1402 hr1403) (aa g4 (aa (c_w_toScript x1 hr1602) (aa (lene GPost.enc r1001.posts) (aa (lene encI r1001.waits) (aa (lene encI r1001.says) (aa (lene GPost.enc r1602.posts) (aa (lene encI r1602.waits) (aa (lene encI r1602.says) (aa (c_w_eqScript r1001 r1602 hr1603) (aa g5 tt))))))))))))))))))))))))))))))))))))))))) (by kernel_rfl)

abbrev R_s_l1Once (x0 : GL1Cur) (x1 : Int) (r : Bool × GL1Cur) : Ex → St → Prop := RetC Try.prog Mo 109 Try.f109 [.agg [.tr (x0.b.map encU), il x0.i, il x0.h], il x1] (bl r.1, [.agg [.tr (r.2.b.map encU), il r.2.i, il r.2.h], .undef])

theorem c_s_l1Once (x0 : GL1Cur) (x1 : Int) {r : Bool × GL1Cur} (h : p_s_l1Once x0 x1 = some r) : Fine Try.prog Mo (109, [.agg [.tr (x0.b.map encU), il x0.i, il x0.h], il x1], bl r.1, [.agg [.tr (r.2.b.map encU), il r.2.i, il r.2.h], .undef]) := by
  refine fineT Try.func109 rfl (by kernel_rfl) ?_
  unfold p_s_l1Once at h
  obtain ⟨r102, hr102, h⟩ := bnd_some h
  have e := Option.some.inj h; subst e
  exact retT 100000 [.res (il r102.1) [.agg [.tr (r102.2.b.map encU), il r102.2.i, il r102.2.h], .undef]] (aa (c_s_l1Below x0 x1 hr102) tt) (by kernel_rfl)

abbrev R_s_l6Conf (x0 : GL1Cur) (r : GConf × GL1Cur) : Ex → St → Prop := RetC Try.prog Mo 108 Try.f108 [.agg [.tr (x0.b.map encU), il x0.i, il x0.h]] (.agg [.own 115 (r.1.masters.map GMConf.enc), il r.1.quantum, il r.1.maxWait, il r.1.maxRetry, il r.1.maxSplit, il r.1.lockMost], [.agg [.tr (r.2.b.map encU), il r.2.i, il r.2.h]])

end Go.Proofs.Ytolbhpampnjinaa.Ev
