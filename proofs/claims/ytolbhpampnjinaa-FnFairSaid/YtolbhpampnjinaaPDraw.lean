/- What is drawn from a code: no draw fails, and each number lies in its bounds. No condition but those in each line. -/
import Derived.Test.YtolbhpampnjinaaPConf
namespace Go.Proofs.Ytolbhpampnjinaa.Ev
open Go Go.Proofs Go.RowKit
set_option linter.unusedVariables false
set_option linter.unusedSimpArgs false
/-- A cursor stands in its code. -/
def CurOk (c : GL1Cur) : Prop := 0 ≤ c.i ∧ c.i ≤ (c.b.length : Int) ∧ c.b.length < 4611686018427387904
theorem and255 (a : Int) : 0 ≤ andW a 255 ∧ andW a 255 ≤ 255 := by
  have h : ((BitVec.ofInt IntKind.i64.bits a &&& BitVec.ofInt IntKind.i64.bits 255).toNat) ≤ 255 := by
    rw [BitVec.toNat_and]
    have : (BitVec.ofInt IntKind.i64.bits 255).toNat = 255 := by decide
    rw [this]
    exact Nat.and_le_right
  unfold andW
  generalize (BitVec.ofInt IntKind.i64.bits a &&& BitVec.ofInt IntKind.i64.bits 255).toNat = n at *
  rw [wrap64 (by omega) (by omega)]
  omega
theorem l1Byte_ok {c : GL1Cur} (h : CurOk c) : ∃ r c', p_s_l1Byte c = some (r, c') ∧ CurOk c' ∧ 0 ≤ r ∧ r ≤ 255 := by
  obtain ⟨h1, h2, h3⟩ := h
  unfold p_s_l1Byte
  by_cases hc : c.i < (c.b.length : Int)
  · obtain ⟨k, hk⟩ : ∃ k : Nat, c.i = k := ⟨c.i.toNat, by omega⟩
    have hk2 : k < c.b.length := by omega
    rw [if_pos (by simpa using hc), hk, idx_get hk2, Option.bind_some]
    refine ⟨_, _, rfl, ⟨?_, ?_, h3⟩, and255 _⟩
    · show 0 ≤ addW (k : Int) 1
      rw [addW_nat (by omega)]; omega
    · show addW (k : Int) 1 ≤ _
      rw [addW_nat (by omega)]; show ((k + 1 : Nat) : Int) ≤ (c.b.length : Int); omega
  · rw [if_neg (by simpa using hc)]
    exact ⟨_, _, rfl, ⟨h1, h2, h3⟩, and255 _⟩
theorem remW_lt {a n : Int} (h0 : 0 ≤ a) (hn : 0 < n) : 0 ≤ remW a n ∧ remW a n < n := by
  unfold remW
  rw [Int.tmod_eq_emod_of_nonneg h0]
  exact ⟨Int.emod_nonneg _ (by omega), Int.emod_lt_of_pos _ hn⟩
theorem nzI_of {n : Int} (h : n ≠ 0) : nzI n = some () := by unfold nzI; rw [if_neg h]
theorem l1Below_ok {c : GL1Cur} (n : Int) (h : CurOk c) : ∃ r c', p_s_l1Below c n = some (r, c') ∧ CurOk c' ∧ 0 ≤ r ∧ (0 < n → r < n) ∧ (n ≤ 0 → r = 0) := by
  unfold p_s_l1Below
  by_cases h0 : n ≤ 0
  · rw [if_pos (by simpa using h0)]
    exact ⟨_, _, rfl, h, by omega, fun _ => by omega, fun _ => rfl⟩
  · rw [if_neg (by simpa using h0)]
    by_cases h1 : n ≤ 256
    · rw [if_pos (by simpa using h1)]
      obtain ⟨r, c', hr, hc, h2, h3⟩ := l1Byte_ok h
      rw [hr, Option.bind_some, nzI_of (by omega), Option.bind_some]
      have := remW_lt h2 (by omega : 0 < n)
      exact ⟨_, _, rfl, hc, this.1, fun _ => this.2, fun _ => by omega⟩
    · rw [if_neg (by simpa using h1)]
      obtain ⟨r, c', hr, hc, h2, h3⟩ := l1Byte_ok h
      obtain ⟨r2, c2, hr2, hc2, h22, h32⟩ := l1Byte_ok hc
      obtain ⟨r3, c3, hr3, hc3, h23, h33⟩ := l1Byte_ok hc2
      obtain ⟨r4, c4, hr4, hc4, h24, h34⟩ := l1Byte_ok hc3
      rw [hr, Option.bind_some, hr2, Option.bind_some, hr3, Option.bind_some, hr4, Option.bind_some, nzI_of (by omega), Option.bind_some]
      have e : addW (addW (addW (mulW r 16777216) (mulW r2 65536)) (mulW r3 256)) r4 = r * 16777216 + r2 * 65536 + r3 * 256 + r4 := by
        rw [mulW_of (by omega) (by omega), mulW_of (by omega) (by omega), mulW_of (by omega) (by omega), addW_of (a := r * 16777216) (by omega) (by omega), addW_of (a := r * 16777216 + r2 * 65536) (by omega) (by omega), addW_of (by omega) (by omega)]
      have := remW_lt (by rw [e]; omega : 0 ≤ addW (addW (addW (mulW r 16777216) (mulW r2 65536)) (mulW r3 256)) r4) (by omega : 0 < n)
      exact ⟨_, _, rfl, hc4, this.1, fun _ => this.2, fun _ => by omega⟩
theorem l1New_ok (x : List Int) (hl : x.length < 1048577) : ∃ c, p_s_l1New x = some c ∧ CurOk c := by
  unfold p_s_l1New
  have key : ∀ (m k : Nat) (v : Int), k ≤ x.length → x.length - k < m → ∃ c, p_s_l1New__L1 x m v k = some c ∧ CurOk c := by
    intro m
    induction m with
    | zero => intro k _ _ h; omega
    | succ m ih =>
      intro k v hk hm
      have e : p_s_l1New__L1 x (m + 1) v k = p_s_l1New__L1b x (p_s_l1New__L1 x m) v k := rfl
      rw [e]
      unfold p_s_l1New__L1b p_s_l1New__J2
      by_cases hc : k < x.length
      · rw [if_pos (by simpa using hc)]
        by_cases h4 : (k : Int) < 4000
        · rw [if_pos (by simpa using h4), idx_get hc, Option.bind_some, addW_nat (by omega)]
          exact ih (k + 1) _ (by omega) (by omega)
        · rw [if_neg (by simpa using h4)]
          exact ⟨_, rfl, by simp [CurOk]; omega⟩
      · rw [if_neg (by simpa using hc)]
        exact ⟨_, rfl, by simp [CurOk]; omega⟩
  exact key FU 0 _ (Nat.zero_le _) (by have := FU_big; omega)
theorem l1Once_ok {c : GL1Cur} (n : Int) (h : CurOk c) : ∃ r c', p_s_l1Once c n = some (r, c') ∧ CurOk c' := by
  unfold p_s_l1Once
  obtain ⟨r, c', hr, hc, _⟩ := l1Below_ok n h
  rw [hr]
  exact ⟨_, _, rfl, hc⟩
theorem idx_in {α : Type} {xs : List α} {i : Int} (h0 : 0 ≤ i) (h1 : i < (xs.length : Int)) : ∃ a, idx xs i = some a ∧ a ∈ xs := by
  obtain ⟨k, rfl⟩ : ∃ k : Nat, i = k := ⟨i.toNat, by omega⟩
  have hk : k < xs.length := by omega
  exact ⟨_, idx_get hk, List.getElem_mem hk⟩
theorem l1PickInt_ok {c : GL1Cur} (xs : List Int) (hx : xs ≠ []) (h : CurOk c) : ∃ r c', p_s_l1PickInt c xs = some (r, c') ∧ CurOk c' ∧ r ∈ xs := by
  unfold p_s_l1PickInt
  obtain ⟨r, c', hr, hc, h0, h1, _⟩ := l1Below_ok (xs.length : Int) h
  have hl : 0 < xs.length := List.length_pos_iff.2 hx
  obtain ⟨a, ha, hm⟩ := idx_in h0 (h1 (by omega))
  rw [hr, Option.bind_some, ha]
  exact ⟨_, _, rfl, hc, hm⟩
theorem setO_of {α : Type} (xs : List α) (i : Int) (a : α) : setO xs i a = some (xs.set i.toNat a) := rfl
theorem l6Conf_ok {x0 : GL1Cur} (h : CurOk x0) : ∃ g c', p_s_l6Conf x0 = some (g, c') ∧ CurOk c' ∧ 1 ≤ g.masters.length ∧ g.masters.length ≤ 4 := by
  unfold p_s_l6Conf
  obtain ⟨r1, c1, e1, h1, -⟩ := l1Below_ok 3 h
  rw [e1, Option.bind_some]
  obtain ⟨r2, c2, e2, h2, -⟩ := l1Below_ok 3 h1
  rw [e2, Option.bind_some]
  obtain ⟨r3, c3, e3, h3, -⟩ := l1Below_ok 3 h2
  rw [e3, Option.bind_some]
  obtain ⟨r4, c4, e4, h4, -⟩ := l1Below_ok 6 h3
  rw [e4, Option.bind_some]
  obtain ⟨r5, c5, e5, h5, -⟩ := l1Below_ok 12 h4
  rw [e5, Option.bind_some]
  obtain ⟨r6, c6, e6, h6, b6, b7, -⟩ := l1Below_ok 4 h5
  rw [e6, Option.bind_some]
  have b8 := b7 (by omega)
  simp only
  have key : ∀ (m k : Nat) (c : GL1Cur) (g : GConf), CurOk c → k < m → 1 ≤ g.masters.length + k → g.masters.length + k ≤ 4 → ∃ g' c', p_s_l6Conf__L1 x0 m c g (k : Int) = some (g', c') ∧ CurOk c' ∧ 1 ≤ g'.masters.length ∧ g'.masters.length ≤ 4 := by
    intro m
    induction m with
    | zero => intro k _ _ _ h; omega
    | succ m ih =>
      intro k c g hc hm hl1 hl2
      have e : p_s_l6Conf__L1 x0 (m + 1) c g (k : Int) = p_s_l6Conf__L1b x0 (p_s_l6Conf__L1 x0 m) c g (k : Int) := rfl
      rw [e]
      unfold p_s_l6Conf__L1b
      cases k with
      | succ k =>
        rw [if_pos (by simp)]
        obtain ⟨r1, c1, e1, h1, -⟩ := l1Below_ok 3 hc
        rw [e1, Option.bind_some, appI_of (by simp; omega) (by simp; omega), Option.bind_some, subW_of (by omega) (by omega)]
        rw [show ((k + 1 : Nat) : Int) - 1 = (k : Int) by omega]
        exact ih k c1 _ h1 (by omega) (by simp; omega) (by simp; omega)
      | zero =>
        rw [if_neg (by simp)]
        obtain ⟨r1, c1, e1, h1⟩ := l1Once_ok 2 hc
        rw [e1, Option.bind_some]
        cases r1 with
        | false => exact ⟨_, _, rfl, h1, by omega, by omega⟩
        | true =>
          simp only [if_true]
          obtain ⟨r2, c2, e2, h2, b2, b3, -⟩ := l1Below_ok (g.masters.length : Int) h1
          have b4 := b3 (by omega)
          rw [e2, Option.bind_some]
          obtain ⟨a, ha, -⟩ := idx_in b2 b4
          simp only [ha, Option.bind_some, setO_of, s_SlotOf_eq]
          obtain ⟨r3, c3, e3, h3, -⟩ := l1Below_ok 30 h2
          rw [e3, Option.bind_some]
          obtain ⟨a2, ha2, -⟩ := idx_in (xs := g.masters.set r2.toNat (GMConf.mk a.weight true a.every a.cap)) b2 (by simpa using b4)
          simp only [ha2, Option.bind_some]
          obtain ⟨r4, c4, e4, h4, -⟩ := l1Below_ok 4 h3
          rw [e4, Option.bind_some]
          obtain ⟨a3, ha3, -⟩ := idx_in (xs := (g.masters.set r2.toNat (GMConf.mk a.weight true a.every a.cap)).set r2.toNat (GMConf.mk a2.weight a2.prio (addW (mulW 2 (slotG (GConf.mk (g.masters.set r2.toNat (GMConf.mk a.weight true a.every a.cap)) g.quantum g.maxWait g.maxRetry g.maxSplit g.lockMost))) r3) a2.cap)) b2 (by simpa using b4)
          simp only [ha3, Option.bind_some]
          exact ⟨_, _, rfl, h4, by simp; omega, by simp; omega⟩
  have e0 : addW 1 r6 = ((r6.toNat + 1 : Nat) : Int) := by rw [addW_of (by omega) (by omega)]; omega
  rw [e0]
  exact key FU (r6.toNat + 1) _ _ h6 (by have := FU_big; omega) (by simp) (by simp; omega)
theorem l6Any_ok {c : GL1Cur} (h : CurOk c) : ∃ g c', p_s_l6Any c = some (g, c') ∧ CurOk c' ∧ g.masters.length ≤ 4 := by
  unfold p_s_l6Any
  obtain ⟨g, c1, e1, h1, l1, l2⟩ := l6Conf_ok h
  obtain ⟨r, c2, e2, h2, -⟩ := l1Below_ok 14 h1
  obtain ⟨a, ha, -⟩ := idx_in (xs := g.masters) (i := 0) (by omega) (by omega)
  obtain ⟨p1, c3, e3, h3, -⟩ := l1PickInt_ok [0, 5] (by simp) h2
  obtain ⟨p2, c4, e4, h4, -⟩ := l1PickInt_ok [0, 5, 4] (by simp) h2
  obtain ⟨p3, c5, e5, h5, -⟩ := l1PickInt_ok [-1, 4, 3] (by simp) h2
  obtain ⟨p4, c6, e6, h6, -⟩ := l1PickInt_ok [0, 13] (by simp) h2
  simp only [e1, e2, Option.bind_some, ha, e3, e4, e5, e6, setO_of]
  repeat' split
  all_goals refine ⟨_, _, rfl, by assumption, ?_⟩
  all_goals first | omega | (simp; done) | (simp; omega)
theorem l11Draw_ok {c : GL1Cur} (h : CurOk c) : ∃ w g c', p_s_l11Draw c = some (w, g, c') ∧ g.masters.length ≤ 4 := by
  unfold p_s_l11Draw
  have key : ∀ (c0 c : GL1Cur) (g : GConf), CurOk c → g.masters.length ≤ 4 → ∃ w g' c', p_s_l11Draw__J1 c0 c g = some (w, g', c') ∧ g'.masters.length ≤ 4 := by
    intro c0 c g hc hl
    unfold p_s_l11Draw__J1
    obtain ⟨r1, c1, e1, h1, -⟩ := l1Below_ok (maxI 1 (g.masters.length : Int)) hc
    simp only [e1, Option.bind_some, s_TurnOf_eq g r1 (by omega)]
    obtain ⟨r2, c2, e2, h2, -⟩ := l1Below_ok (addW (turnG g r1) 1) h1
    simp only [e2, Option.bind_some]
    obtain ⟨r3, c3, e3, h3, -⟩ := l1Below_ok 14 h2
    simp only [e3, Option.bind_some]
    obtain ⟨p1, c4, e4, h4, -⟩ := l1PickInt_ok [-1, 4] (by simp) h3
    obtain ⟨p2, c5, e5, h5, -⟩ := l1PickInt_ok [-1, 17] (by simp) h3
    simp only [e4, e5, Option.bind_some]
    repeat' split
    all_goals exact ⟨_, _, _, rfl, hl⟩
  obtain ⟨g, c1, e1, h1, l1, l2⟩ := l6Conf_ok h
  obtain ⟨r, c2, e2, h2⟩ := l1Once_ok 14 h1
  simp only [e1, e2, Option.bind_some]
  cases r with
  | true =>
    obtain ⟨g2, c3, e3, h3, l3⟩ := l6Any_ok h2
    simp only [e3, Option.bind_some, if_true]
    exact key _ _ _ h3 l3
  | false =>
    simp only [Bool.false_eq_true, if_false]
    exact key _ _ _ h2 l2
theorem DrawWrrOk_ok (x : List Int) (hl : x.length < 1048577) : ∃ w g, p_s_DrawWrrOk x = some (w, g) ∧ g.masters.length ≤ 4 := by
  unfold p_s_DrawWrrOk
  obtain ⟨c, e, h⟩ := l1New_ok x hl
  obtain ⟨w, g, c2, e2, h2⟩ := l11Draw_ok h
  rw [e, Option.bind_some, e2, Option.bind_some]
  exact ⟨_, _, rfl, h2⟩
theorem DrawApbTick_ok (x : List Int) (hl : x.length < 1048577) : ∃ s l, p_s_DrawApbTick x = some (GApb.mk s l) ∧ (-1 ≤ s ∧ s ≤ 3) ∧ (-1 ≤ l ∧ l ≤ 4) := by
  unfold p_s_DrawApbTick p_s_DrawApbOk
  obtain ⟨c, e, h⟩ := l1New_ok x hl
  obtain ⟨r1, c1, e1, h1, b1, b2, -⟩ := l1Below_ok 5 h
  obtain ⟨r2, c2, e2, h2, b3, b4, -⟩ := l1Below_ok 6 h1
  simp only [e, e1, e2, Option.bind_some]
  have := b2 (by omega)
  have := b4 (by omega)
  rw [subW_of (by omega) (by omega), subW_of (by omega) (by omega)]
  exact ⟨_, _, rfl, by omega, by omega⟩
theorem DrawApbStates_ok (x : List Int) (hl : x.length < 1048577) : ∃ n, p_s_DrawApbStates x = some n ∧ (-1 ≤ n ∧ n ≤ 4) := by
  unfold p_s_DrawApbStates
  obtain ⟨c, e, h⟩ := l1New_ok x hl
  obtain ⟨r1, c1, e1, h1, b1, b2, -⟩ := l1Below_ok 6 h
  simp only [e, e1, Option.bind_some]
  have := b2 (by omega)
  rw [subW_of (by omega) (by omega)]
  exact ⟨_, rfl, by omega⟩
end Go.Proofs.Ytolbhpampnjinaa.Ev
