/- The functions that the law of BusyOf reaches, each by an equation over Lean data; no condition but those in each line. -/
import Derived.Test.YtolbhpampnjinaaEvM3
import Derived.KernelRfl
namespace Go.Proofs.Ytolbhpampnjinaa.Ev
open Go Go.Proofs
set_option linter.unusedVariables false
set_option linter.unusedSimpArgs false
structure Wave where
  (cycle addr kind who data frm : Int) (ready : Bool) (resp got : Int)
  deriving DecidableEq
def Wave.enc (w : Wave) : List V := [il w.cycle, il w.addr, il w.kind, il w.who, il w.data, il w.frm, .lit (.bool w.ready), il w.resp, il w.got]
def Mo : Hints := ⟨fun f => [], fun _ => false⟩
theorem mo (f : FuncId) : Mo.modes f = [] := rfl
theorem st25 : elemT Try.prog 25 = some 91 := by kernel_rfl
theorem st22 : elemT Try.prog 22 = some 93 := by kernel_rfl
theorem sz91 : sizeT Try.prog 91 = 9 := by kernel_rfl
theorem sz93 : sizeT Try.prog 93 = 9 := by kernel_rfl
theorem sz3 : sizeT Try.prog 3 = 1 := by kernel_rfl
theorem sz4 : sizeT Try.prog 4 = 1 := by kernel_rfl
theorem fd91_0 : fieldT Try.prog 91 0 = some 0 := by kernel_rfl
theorem fd91_1 : fieldT Try.prog 91 1 = some 1 := by kernel_rfl
theorem fd91_2 : fieldT Try.prog 91 2 = some 2 := by kernel_rfl
theorem fd91_3 : fieldT Try.prog 91 3 = some 3 := by kernel_rfl
theorem fd91_4 : fieldT Try.prog 91 4 = some 4 := by kernel_rfl
theorem fd91_5 : fieldT Try.prog 91 5 = some 5 := by kernel_rfl
theorem fd91_6 : fieldT Try.prog 91 6 = some 6 := by kernel_rfl
theorem fd91_7 : fieldT Try.prog 91 7 = some 7 := by kernel_rfl
theorem fd91_8 : fieldT Try.prog 91 8 = some 8 := by kernel_rfl
theorem oc3 (x : V) : ofCells Try.prog 3 [x] = some x := by kernel_rfl
theorem oc4 (x : V) : ofCells Try.prog 4 [x] = some x := by kernel_rfl
theorem oc93 (x : List V) : ofCells Try.prog 93 x = some (.agg x) := by kernel_rfl
theorem oc91 (x : List V) : ofCells Try.prog 91 x = some (.agg x) := by kernel_rfl
theorem zt91 : zeroT Try.prog 91 = some [il 0, il 0, il 0, il 0, il 0, il 0, bl false, il 0, il 0] := by kernel_rfl
theorem by91 : Try.prog.bytesOf 91 = 72 := by kernel_rfl
theorem neB {x y : Operand} {a b : Bool} : binX Try.prog .neq 4 x y (.lit (.bool a)) (.lit (.bool b)) = some (.lit (.bool (a != b))) := binX_neB Try.underlying4
attribute [local simp] mo st25 st22 sz91 sz93 sz3 sz4 fd91_0 fd91_1 fd91_2 fd91_3 fd91_4 fd91_5 fd91_6 fd91_7 fd91_8 oc3 oc4 oc93 oc91 zt91 by91 neB
section
variable {E : CallF} {ex : FuncId → Bool}
set_option maxHeartbeats 4000000 in
theorem f67_ev (hex : ex 67 = false) (a b : Wave) : evL Try.prog Mo E ex 67 [.agg a.enc, .agg b.enc] = some (bl (decide (a = b)), [.undef, .undef]) := by
  refine evL_run hex Try.func67 rfl (by simp; rfl) ?_
  obtain ⟨a0, a1, a2, a3, a4, a5, a6, a7, a8⟩ := a
  obtain ⟨b0, b1, b2, b3, b4, b5, b6, b7, b8⟩ := b
  simp [Wave.enc, RetC, Try.f67]
  repeat' split
  all_goals simp_all
theorem f64_ev (hex : ex 64 = false) (w : Wave) : evL Try.prog Mo E ex 64 [.agg w.enc] = some (.agg w.enc, [.undef]) := by
  refine evL_body (n := 50) hex ?_
  cases w
  kernel_rfl
set_option maxHeartbeats 4000000 in
theorem f15_ev (hex : ex 15 = false) (rows : List (List V)) (n : Int) : evL Try.prog Mo E ex 15 [.tr rows, il n] = some (il (if IntKind.i64.wrap (n - rows.length) < 0 then -1 else IntKind.i64.wrap (n - rows.length)), [.undef, .undef]) := by
  refine evL_run hex Try.func15 rfl (by simp; rfl) ?_
  simp [RetC, Try.f15, st22]
  by_cases h : IntKind.i64.wrap (n - rows.length) < 0 <;> simp [h] <;> omega
noncomputable def f17loop : Code := loopAt Try.f17 0
set_option maxHeartbeats 4000000 in
theorem f17_loop (h64 : ex 64 = false) (xs : List Wave) (hl : xs.length < 1048577) : ∀ (m k : Nat) (rows : List (List V)) (id : Id) (s : St) (Q : Ex → St → Prop), k + m = xs.length → id.1 ≤ s.ep → s.env 0 = .tr (xs.map Wave.enc) → s.env 3 = .sl id 0 xs.length → s.env 4 = il k →
    s.heap id = some ⟨false, true, true, 91, rows⟩ → rows.length = xs.length → (∀ r ∈ rows, r.length = 9) → rows.take k = (xs.take k).map Wave.enc → 
    (∀ s', s'.env 3 = .sl id 0 xs.length → s'.heap id = some ⟨false, true, true, 91, xs.map Wave.enc⟩ → Q (.exit 0) s') → Cw Try.prog Mo (evL Try.prog Mo E ex) f17loop s Q := by
  intro m
  induction m with
  | zero =>
    intro k rows id s Q hk hid h0 h3 h4 hb hrl hr9 htk hQ
    have hc : ¬ ((k : Int) < xs.length) := by omega
    have hkx : k = xs.length := by omega
    refine Cw.loopC ?_
    simp [h0, h3, h4, hc]
    apply hQ
    · simp [h3]
    · simp only [hb]
      rw [List.take_of_length_le (by omega), List.take_of_length_le (by omega)] at htk
      rw [htk]
  | succ m ih =>
    intro k rows id s Q hk hid h0 h3 h4 hb hrl hr9 htk hQ
    have hkl : k < xs.length := by omega
    have hc : ((k : Int) < xs.length) := by omega
    have hx : xs[k]? = some xs[k] := List.getElem?_eq_getElem hkl
    have hy : rows[k]? = some rows[k] := List.getElem?_eq_getElem (by omega)
    have hy9 : rows[k].length = 9 := hr9 _ (List.getElem_mem _)
    generalize hyy : rows[k] = y at hy hy9
    have hdy : y.drop 9 = [] := List.drop_eq_nil_of_le (by omega)
    have w1 : IntKind.i64.wrap ((k : Int) + 1) = ((k + 1 : Nat) : Int) := by rw [wrap_of (by omega) (by omega)]; rfl
    have h64e := f64_ev (E := E) h64 xs[k]
    simp only [Wave.enc] at h64e
    refine Cw.loopC ?_
    simp [h0, h3, h4, hc, hy, hy9, hkl, hb, Wave.enc, w1, h64e]
    refine ih (k + 1) (rows.set k xs[k].enc) id _ _ (by omega) (by simp; omega) (by simp [h0]) (by simp [h3]) (by simp) (by simp [Wave.enc, hdy]) (by simp [hrl]) ?_ ?_ hQ
    · intro r hr
      rcases List.mem_or_eq_of_mem_set hr with h | h
      · exact hr9 r h
      · rw [h]; rfl
    · rw [List.take_add_one, List.take_add_one, List.map_append, List.take_set_of_le (Nat.le_refl _), htk, hx, List.getElem?_set_self (by omega)]
      rfl
set_option maxHeartbeats 4000000 in
theorem f17_ev (h17 : ex 17 = false) (h64 : ex 64 = false) (xs : List Wave) (hl : xs.length < 1048577) : evL Try.prog Mo E ex 17 [.tr (xs.map Wave.enc)] = some (.own 91 (xs.map Wave.enc), [.undef]) := by
  refine evL_run h17 Try.func17 rfl (by simp; rfl) ?_
  have hb : xs.length * 72 ≤ 70368744177664 := by omega
  have hb2 : xs.length ≤ 9223372036854775807 := by omega
  simp [hb, hb2]
  refine f17_loop h64 xs hl xs.length 0 (List.replicate xs.length [il 0, il 0, il 0, il 0, il 0, il 0, bl false, il 0, il 0]) (2, 2048) _ _ (by omega) (by simp) (by simp) (by simp) (by simp) (by simp [emptyV]) (by simp) (by simp) (by simp) (fun s' h3 hb => ?_)
  have ht : (xs.map Wave.enc).take xs.length = xs.map Wave.enc := List.take_of_length_le (by simp)
  simp [h3, hb, RetC, Try.f17, St.whole, ht]
/-! countOf -/
noncomputable def f65loop : Code := loopAt Try.f65 0
set_option maxHeartbeats 4000000 in
theorem f65_loop {g : FuncId} {caps : List V} (hcaps : caps = [] ∨ ∃ row, caps = [.rp true row 0]) {p : Wave → Bool} (hg : ∀ w : Wave, evL Try.prog Mo E ex g (.agg w.enc :: caps) = some (bl (p w), List.replicate (caps.length + 1) .undef)) (xs : List Wave) (hl : xs.length < 4611686018427387904) : ∀ (m k : Nat) (n : Int) (s : St) (Q : Ex → St → Prop), k + m = xs.length → -4611686018427387904 ≤ n → n + m < 4611686018427387904 → s.env 1 = .fn g caps → s.env 8 = .tr (xs.map Wave.enc) → s.env 9 = il xs.length → s.env 5 = il n → s.env 10 = il k →
    (∀ s', s'.env 5 = il (n + ((xs.drop k).countP p : Nat)) → Q (.exit 0) s') → Cw Try.prog Mo (evL Try.prog Mo E ex) f65loop s Q := by
  intro m
  induction m with
  | zero =>
    intro k n s Q hk hn1 hn2 h1 h8 h9 h5 h10 hQ
    have hc : ¬ ((k : Int) < xs.length) := by omega
    refine Cw.loopC ?_
    simp [h1, h8, h9, h5, h10, hc]
    apply hQ
    simp [h5]
    rw [List.drop_eq_nil_of_le (by omega)]; simp
  | succ m ih =>
    intro k n s Q hk hn1 hn2 h1 h8 h9 h5 h10 hQ
    have hkl : k < xs.length := by omega
    have hc : ((k : Int) < xs.length) := by omega
    have hdr : xs.drop k = xs[k] :: xs.drop (k + 1) := List.drop_eq_getElem_cons hkl
    have w1 : IntKind.i64.wrap ((k : Int) + 1) = ((k + 1 : Nat) : Int) := by rw [wrap_of (by omega) (by omega)]; rfl
    have w2 : IntKind.i64.wrap (n + 1) = n + 1 := wrap_of (by omega) (by omega)
    have hge := hg xs[k]
    simp only [Wave.enc] at hge
    refine Cw.loopC ?_
    by_cases hp : p xs[k] = true
    · have hnext : ∀ s1 : St, s1.env 1 = .fn g caps → s1.env 8 = .tr (xs.map Wave.enc) → s1.env 9 = il xs.length → s1.env 5 = il (n + 1) → s1.env 10 = il ((k + 1 : Nat) : Int) → Cw Try.prog Mo (evL Try.prog Mo E ex) f65loop s1 Q := fun s1 e1 e8 e9 e5 e10 =>
        ih (k + 1) (n + 1) s1 Q (by omega) (by omega) (by omega) e1 e8 e9 e5 e10 (fun s' h => hQ s' (by rw [h, hdr, List.countP_cons]; simp [hp]; omega))
      rcases hcaps with rfl | ⟨row, rfl⟩
      · simp at hge
        simp [h1, h8, h9, h5, h10, hc, hkl, Wave.enc, w1, w2, hge, hp]
        exact hnext _ (by simp [h1]) (by simp [h8]) (by simp [h9]) (by simp) (by simp)
      · simp [List.replicate] at hge
        simp [h1, h8, h9, h5, h10, hc, hkl, Wave.enc, w1, w2, hge, hp]
        exact hnext _ (by simp [h1]) (by simp [h8]) (by simp [h9]) (by simp) (by simp)
    · have hp : p xs[k] = false := by simpa using hp
      have hnext : ∀ s1 : St, s1.env 1 = .fn g caps → s1.env 8 = .tr (xs.map Wave.enc) → s1.env 9 = il xs.length → s1.env 5 = il n → s1.env 10 = il ((k + 1 : Nat) : Int) → Cw Try.prog Mo (evL Try.prog Mo E ex) f65loop s1 Q := fun s1 e1 e8 e9 e5 e10 =>
        ih (k + 1) n s1 Q (by omega) (by omega) (by omega) e1 e8 e9 e5 e10 (fun s' h => hQ s' (by rw [h, hdr, List.countP_cons]; simp [hp]))
      rcases hcaps with rfl | ⟨row, rfl⟩
      · simp at hge
        simp [h1, h8, h9, h5, h10, hc, hkl, Wave.enc, w1, w2, hge, hp]
        exact hnext _ (by simp [h1]) (by simp [h8]) (by simp [h9]) (by simp [h5]) (by simp)
      · simp [List.replicate] at hge
        simp [h1, h8, h9, h5, h10, hc, hkl, Wave.enc, w1, w2, hge, hp]
        exact hnext _ (by simp [h1]) (by simp [h8]) (by simp [h9]) (by simp [h5]) (by simp)
set_option maxHeartbeats 4000000 in
theorem f65_ev (h65 : ex 65 = false) {g : FuncId} {caps : List V} (hcaps : caps = [] ∨ ∃ row, caps = [.rp true row 0]) {p : Wave → Bool} (hg : ∀ w : Wave, evL Try.prog Mo E ex g (.agg w.enc :: caps) = some (bl (p w), List.replicate (caps.length + 1) .undef)) (xs : List Wave) (hl : xs.length < 4611686018427387904) :
    evL Try.prog Mo E ex 65 [.tr (xs.map Wave.enc), .fn g caps] = some (il (xs.countP p : Nat), [.undef, .undef]) := by
  refine evL_run h65 Try.func65 rfl (by simp; rfl) ?_
  simp
  refine f65_loop hcaps hg xs hl xs.length 0 0 _ _ (by omega) (by omega) (by omega) (by simp) (by simp) (by simp) (by simp) (by simp) (fun s' h5 => ?_)
  simp [h5, RetC, Try.f65]
theorem f66_ev (h66 : ex 66 = false) (w : Wave) : evL Try.prog Mo E ex 66 [.agg w.enc] = some (bl (decide (w.data ≥ 0)), [.undef]) := by
  refine evL_body (n := 50) h66 ?_
  cases w
  kernel_rfl
set_option maxHeartbeats 4000000 in
theorem f18_ev (h18 : ex 18 = false) (h65 : ex 65 = false) (h66 : ex 66 = false) (xs : List Wave) (hl : xs.length < 4611686018427387904) :
    evL Try.prog Mo E ex 18 [.tr (xs.map Wave.enc)] = some (il (xs.countP (fun w => decide (w.data ≥ 0)) : Nat), [.undef]) := by
  refine evL_run h18 Try.func18 rfl (by simp; rfl) ?_
  have h := f65_ev (E := E) h65 (g := 66) (caps := []) (.inl rfl) (p := fun w => decide (w.data ≥ 0)) (f66_ev h66) xs hl
  simp [h, RetC, Try.f18]
noncomputable def f16loop : Code := loopAt Try.f16 0
set_option maxHeartbeats 4000000 in
theorem f16_loop (xs : List Wave) (hl : xs.length < 4611686018427387904) : ∀ (m k : Nat) (n : Int) (s : St) (Q : Ex → St → Prop), k + m = xs.length → -4611686018427387904 ≤ n → n + m < 4611686018427387904 → s.env 0 = .tr (xs.map Wave.enc) → s.env 3 = il n → s.env 4 = il k →
    (∀ s', s'.env 3 = il (n + ((xs.drop k).countP (fun w => decide (w.data ≥ 0)) : Nat)) → Q (.exit 0) s') → Cw Try.prog Mo (evL Try.prog Mo E ex) f16loop s Q := by
  intro m
  induction m with
  | zero =>
    intro k n s Q hk hn1 hn2 h0 h3 h4 hQ
    have hc : ¬ ((k : Int) < xs.length) := by omega
    refine Cw.loopC ?_
    simp [h0, h3, h4, hc]
    apply hQ
    simp [h3]
    rw [List.drop_eq_nil_of_le (by omega)]; simp
  | succ m ih =>
    intro k n s Q hk hn1 hn2 h0 h3 h4 hQ
    have hkl : k < xs.length := by omega
    have hc : ((k : Int) < xs.length) := by omega
    have hx : xs[k]? = some xs[k] := List.getElem?_eq_getElem hkl
    have hdr : xs.drop k = xs[k] :: xs.drop (k + 1) := List.drop_eq_getElem_cons hkl
    have w1 : IntKind.i64.wrap ((k : Int) + 1) = ((k + 1 : Nat) : Int) := by rw [wrap_of (by omega) (by omega)]; rfl
    have w2 : IntKind.i64.wrap (n + 1) = n + 1 := wrap_of (by omega) (by omega)
    refine Cw.loopC ?_
    by_cases hd : 0 ≤ xs[k].data
    · simp [h0, h3, h4, hc, hkl, Wave.enc, hd, w1, w2]
      refine ih (k + 1) (n + 1) _ _ (by omega) (by omega) (by omega) (by simp [h0]) (by simp ) (by simp ) (fun s' h => hQ s' ?_)
      rw [h, hdr, List.countP_cons]
      simp [hd]; omega
    · simp [h0, h3, h4, hc, hkl, Wave.enc, hd, w1, w2]
      refine ih (k + 1) n _ _ (by omega) (by omega) (by omega) (by simp [h0]) (by simp [h3]) (by simp ) (fun s' h => hQ s' ?_)
      rw [h, hdr, List.countP_cons]
      simp [hd]
set_option maxHeartbeats 4000000 in
theorem f16_ev (hex : ex 16 = false) (xs : List Wave) (hl : xs.length < 4611686018427387904) : evL Try.prog Mo E ex 16 [.tr (xs.map Wave.enc)] = some (il (xs.countP (fun w => decide (w.data ≥ 0)) : Nat), [.undef]) := by
  refine evL_run hex Try.func16 rfl (by simp; rfl) ?_
  simp
  refine f16_loop xs hl xs.length 0 0 _ _ (by omega) (by omega) (by omega) (by simp ) (by simp ) (by simp ) (fun s' h3 => ?_)
  simp [h3, RetC, Try.f16]
noncomputable def f19loop : Code := loopAt Try.f19 0
set_option maxHeartbeats 4000000 in
theorem f19_loop (h67 : ex 67 = false) (xs ys : List Wave) (hl : xs.length < 4611686018427387904) (hxy : xs.length = ys.length) : ∀ (m k : Nat) (s : St) (Q : Ex → St → Prop), k + m = xs.length → s.env 0 = .tr (xs.map Wave.enc) → s.env 1 = .tr (ys.map Wave.enc) → s.env 5 = il k →
    (∀ s', xs.drop k = ys.drop k → Q (.exit 0) s') → (∀ s', xs.drop k ≠ ys.drop k → s'.env 4 = bl false → Q .ret s') → Cw Try.prog Mo (evL Try.prog Mo E ex) f19loop s Q := by
  intro m
  induction m with
  | zero =>
    intro k s Q hk h0 h1 h5 hQ hR
    have hc : ¬ ((k : Int) < xs.length) := by omega
    refine Cw.loopC ?_
    simp [h0, h1, h5, hc]
    apply hQ
    rw [List.drop_eq_nil_of_le (by omega), List.drop_eq_nil_of_le (by omega)]
  | succ m ih =>
    intro k s Q hk h0 h1 h5 hQ hR
    have hkl : k < xs.length := by omega
    have hkl2 : k < ys.length := by omega
    have hc : ((k : Int) < xs.length) := by omega
    have hdr : xs.drop k = xs[k] :: xs.drop (k + 1) := List.drop_eq_getElem_cons hkl
    have hdr2 : ys.drop k = ys[k] :: ys.drop (k + 1) := List.drop_eq_getElem_cons hkl2
    have w1 : IntKind.i64.wrap ((k : Int) + 1) = ((k + 1 : Nat) : Int) := by rw [wrap_of (by omega) (by omega)]; rfl
    have hge := f67_ev (E := E) h67 xs[k] ys[k]
    simp only [Wave.enc] at hge
    refine Cw.loopC ?_
    simp [h0, h1, h5, hc, hkl, hkl2, Wave.enc, w1, hge]
    by_cases he : xs[k] = ys[k]
    · rw [if_pos he]
      refine ih (k + 1) _ _ (by omega) (by simp [h0]) (by simp [h1]) (by simp) (fun s' h => hQ s' (by rw [hdr, hdr2, he, h])) (fun s' h h4 => hR s' (fun hh => h (by rw [hdr, hdr2] at hh; exact (List.cons.inj hh).2)) h4)
    · rw [if_neg he]
      exact hR _ (fun hh => he (by rw [hdr, hdr2] at hh; exact (List.cons.inj hh).1)) (by simp)
set_option maxHeartbeats 4000000 in
theorem f19_ev (h19 : ex 19 = false) (h67 : ex 67 = false) (xs ys : List Wave) (hl : xs.length < 1048577) : evL Try.prog Mo E ex 19 [.tr (xs.map Wave.enc), .tr (ys.map Wave.enc)] = some (bl (decide (xs = ys)), [.undef, .undef]) := by
  refine evL_run h19 Try.func19 rfl (by simp; rfl) ?_
  by_cases hxy : xs.length = ys.length
  · simp [hxy]
    refine f19_loop h67 xs ys (by omega) hxy xs.length 0 _ _ (by omega) (by simp) (by simp) (by simp) (fun s' h => ?_) (fun s' h h4 => ?_)
    · simp only [List.drop_zero] at h
      simp [h, RetC, Try.f19]
    · simp only [List.drop_zero] at h
      simp [h, h4, RetC, Try.f19]
  · have hne : xs ≠ ys := fun h => hxy (by rw [h])
    have hc : ¬ ((xs.length : Int) = ys.length) := by omega
    simp [hc, hne, RetC, Try.f19]
set_option maxHeartbeats 4000000 in
theorem f3_ev (hex : ∀ f, f ≤ 140 → ex f = false) (xs : List Wave) (hl : xs.length ≤ 9223372036854775807) : evL Try.prog Mo E ex 3 [.tr (xs.map Wave.enc)] = some (bl true, [.undef]) := by
  have h15 := f15_ev (E := E) (hex 15 (by decide)) (xs.map Wave.enc) 1048576
  have hw : IntKind.i64.wrap (1048576 - (xs.length : Int)) = 1048576 - xs.length := wrap_of (by omega) (by omega)
  rw [List.length_map, hw] at h15
  refine evL_run (hex 3 (by decide)) Try.func3 rfl (by simp; rfl) ?_
  by_cases hc : (1048576 : Int) - xs.length < 0
  · rw [if_pos hc] at h15
    simp [h15, RetC, Try.f3]
  · rw [if_neg hc] at h15
    have hl2 : xs.length < 1048577 := by omega
    have h17 := f17_ev (E := E) (hex 17 (by decide)) (hex 64 (by decide)) xs hl2
    have h16 := f16_ev (E := E) (hex 16 (by decide)) xs (by omega)
    have h18 := f18_ev (E := E) (hex 18 (by decide)) (hex 65 (by decide)) (hex 66 (by decide)) xs (by omega)
    have h19 := f19_ev (E := E) (hex 19 (by decide)) (hex 67 (by decide)) xs xs hl2
    have ht : (xs.map Wave.enc).take xs.length = xs.map Wave.enc := List.take_of_length_le (by simp)
    simp [h15, hc, h17, h16, h18, h19, ht, RetC, Try.f3]
end
theorem funcsOk_of {P : Program} (hm : P.follows .mixedOrders = true) (h : P.funcs.toList.all (fun fn => (match fn.body with | some c => codeDst fn.ntmps c | none => true) && !(fn.name == "runtime.NumGoroutine")) = true) : FuncsOk P := by
  rw [List.all_eq_true] at h
  refine ⟨hm, fun f fn c hf hc => ?_, fun f fn hf => ?_⟩
  · have := h fn (Array.mem_toList_iff.2 (Array.mem_of_getElem? hf))
    rw [hc] at this
    simp only [Bool.and_eq_true] at this
    exact this.1
  · have := h fn (Array.mem_toList_iff.2 (Array.mem_of_getElem? hf))
    simp only [Bool.and_eq_true, Bool.not_eq_true'] at this
    exact this.2
theorem funcsOk : FuncsOk Try.prog := funcsOk_of (by kernel_rfl) (by kernel_rfl)
end Go.Proofs.Ytolbhpampnjinaa.Ev
