/- The program's Served answers as the reference's for every list and number; the law's own guard on the list's length is the only bound. -/
import Derived.Test.YtcekicodehlidaaPFnExactServedx2
namespace Go.Proofs.Ytcekicodehlidaa.WFnExactServed
open Go.RowKit Go.Proofs.Ytcekicodehlidaa.PFnExactServed Go.Proofs.YtcekicodehlidaaW.PrintWords Go.Proofs.YtcekicodehlidaaW.PrintLast Go.Proofs.YtcekicodehlidaaW.PrintMore
set_option linter.unusedVariables false
set_option linter.unusedSimpArgs false

theorem wr1 {i : Nat} (h : i < 9223372036854775807) : wrap64 ((i : Int) + 1) = ((i + 1 : Nat) : Int) := by unfold wrap64; omega
def cv (x : S46) : S44 := ⟨x.f0, x.f1, x.f2, x.f3, x.f4, x.f5, x.f6⟩
theorem take_set {α : Type} (l : List α) (i : Nat) (a : α) (h : i < l.length) : (l.set i a).take (i + 1) = l.take i ++ [a] := by
  rw [List.take_succ_eq_append_getElem (by simpa using h)]
  simp [List.take_set_of_le]
theorem rd_at44 (l : List S44) (i : Nat) (h : i < l.length) : rd_T44 l (i : Int) = l[i] := by
  simp [rd_T44, List.getD_eq_getElem?_getD, h]
theorem rd_at46 (l : List S46) (i : Nat) (h : i < l.length) : rd_T46 l (i : Int) = l[i] := by
  simp [rd_T46, List.getD_eq_getElem?_getD, h]
theorem to_l0 (x0 : List S46) (hx : x0.length ≤ 1048576) (d : Nat) : ∀ (k i : Nat) (x3 : List S44), i + d = x0.length → d < k → x3.length = x0.length →
    laws_toDoneS.l0 k x0 x3 (i : Int) = some (x3.take i ++ (x0.drop i).map cv) := by
  induction d with
  | zero =>
    intro k i x3 hi hk hl
    obtain ⟨k, rfl⟩ : ∃ m, k = m + 1 := ⟨k - 1, by omega⟩
    simp only [laws_toDoneS.l0]
    rw [if_neg (by omega), List.take_of_length_le (by omega), List.drop_eq_nil_of_le (by omega)]
    simp
  | succ d ih =>
    intro k i x3 hi hk hl
    obtain ⟨k, rfl⟩ : ∃ m, k = m + 1 := ⟨k - 1, by omega⟩
    simp only [laws_toDoneS.l0]
    rw [if_pos (by omega), if_pos (by omega)]
    simp only [laws_toDone.f, Option.bind_some]
    rw [if_pos (by omega), wr1 (by omega), Int.toNat_natCast, ih k (i + 1) _ (by omega) (by omega) (by simpa using hl), rd_at46 x0 i (by omega)]
    rw [take_set _ _ _ (by omega), List.append_assoc]
    congr 2
    rw [List.drop_eq_getElem_cons (show i < x0.length by omega)]
    rfl
theorem to_f (x0 : List S46) (hx : x0.length ≤ 1048576) (k : Nat) (hk : x0.length < k) : laws_toDoneS.f k x0 = some (x0.map cv) := by
  unfold laws_toDoneS.f
  rw [if_pos (by omega), if_pos (by omega)]
  have := to_l0 x0 hx x0.length k 0 (List.replicate ((x0.length : Int)).toNat z44) (by omega) hk (by simp)
  simpa using this
theorem eq_one (x : S44) : laws_eqDone.f x.f0 x.f1 x.f2 x.f3 x.f4 x.f5 x.f6 x.f0 x.f1 x.f2 x.f3 x.f4 x.f5 x.f6 = some true := by
  unfold laws_eqDone.f; simp
theorem eq_l0 (l : List S44) (hx : l.length ≤ 1048576) (d : Nat) : ∀ (k i : Nat), i + d = l.length → d < k → laws_eqDoneS.l0 k l l (i : Int) = some true := by
  induction d with
  | zero =>
    intro k i hi hk
    obtain ⟨k, rfl⟩ : ∃ m, k = m + 1 := ⟨k - 1, by omega⟩
    simp only [laws_eqDoneS.l0]
    rw [if_neg (by omega)]
  | succ d ih =>
    intro k i hi hk
    obtain ⟨k, rfl⟩ : ∃ m, k = m + 1 := ⟨k - 1, by omega⟩
    simp only [laws_eqDoneS.l0]
    rw [if_pos (by omega), if_pos (by omega), if_pos (by omega), eq_one]
    simp only [Option.bind_some, if_true]
    rw [wr1 (by omega)]
    exact ih k (i + 1) (by omega) (by omega)
theorem eq_f (l : List S44) (hx : l.length ≤ 1048576) (k : Nat) (hk : l.length < k) : laws_eqDoneS.f k l l = some true := by
  unfold laws_eqDoneS.f
  rw [if_pos rfl]
  exact eq_l0 l hx l.length k 0 (by omega) hk
theorem sz_f (l : List S46) (hl : l.length ≤ 9223372036854775807) : (1048576 < l.length ∧ laws_szDoneS.f l 1048576 = some (-1)) ∨ (l.length ≤ 1048576 ∧ ∃ r, laws_szDoneS.f l 1048576 = some r ∧ ¬ r < 0) := by
  unfold laws_szDoneS.f
  have e : wrap64 (1048576 - (l.length : Int)) = 1048576 - (l.length : Int) := by unfold wrap64; omega
  rw [e]
  by_cases h : 1048576 < l.length
  · exact .inl ⟨h, by rw [if_pos (by omega)]⟩
  · exact .inr ⟨by omega, _, by rw [if_neg (by omega)], by omega⟩


theorem both_l0 (l : List S44) (hx : l.length ≤ 1048576) (a : Int) (b : Int) (c0 : Int) (d : Nat) : ∀ (k i : Nat) (p : Int), i + d = l.length → d < k →
    ∃ r, spec_Served.l0 k l a b c0 p (i : Int) = some r ∧ impl_Served.l0 k a b c0 p l (l.length : Int) (i : Int) = some r := by
  induction d with
  | zero =>
    intro k i p hi hk
    obtain ⟨k, rfl⟩ : ∃ m, k = m + 1 := ⟨k - 1, by omega⟩
    simp only [spec_Served.l0, impl_Served.l0]
    rw [if_neg (by omega), if_neg (by omega)]
    exact ⟨_, rfl, rfl⟩
  | succ d ih =>
    intro k i p hi hk
    obtain ⟨k, rfl⟩ : ∃ m, k = m + 1 := ⟨k - 1, by omega⟩
    simp only [spec_Served.l0, impl_Served.l0]
    rw [if_pos (show (i : Int) < (l.length : Int) by omega), if_pos (show 0 ≤ (i : Int) by omega), if_pos (show (i : Int) < (l.length : Int) by omega), if_pos (show 0 ≤ (i : Int) by omega), if_pos (show (i : Int) < (l.length : Int) by omega), wr1 (by omega)]
    repeat' split
    all_goals first | exact ih k (i + 1) _ (by omega) (by omega) | (exfalso; simp_all; done) | (exfalso; omega)

theorem pure (l : List S46) (a : Int) (b : Int) (c0 : Int) (hl : l.length ≤ 9223372036854775807) : ∃ k, laws_FnExactServed.f k l a b c0 = some true := by
  refine ⟨1048577, ?_⟩
  unfold laws_FnExactServed.f
  rcases sz_f l hl with ⟨_, h⟩ | ⟨h1, r, h, hr⟩
  · rw [h]; rfl
  · rw [h]
    simp only [Option.bind_some]
    rw [if_neg hr, to_f l h1 _ (by omega)]
    simp only [Option.bind_some]
    have hm : (l.map cv).length ≤ 1048576 := by simpa using h1
    obtain ⟨v, hs, hi⟩ := both_l0 (l.map cv) hm a b c0 (l.map cv).length 1048577 0 0 (by omega) (by omega)
    unfold spec_Served.f impl_Served.f
    have hs' : spec_Served.l0 1048577 (l.map cv) a b c0 0 0 = some v := hs
    have hi' : impl_Served.l0 1048577 a b c0 0 (l.map cv) ((l.map cv).length : Int) 0 = some v := hi
    rw [hs', hi']
    simp only [Option.bind_some, if_true]
    rw [eq_f _ hm _ (by omega)]
    rfl
theorem walk (W : World) (A : Option Addr) (c : Nat) (l : List S46) (hc : l.length ≤ c) (hC : Kd.C k46 W A l.length l) (hQ : l.length ≤ 9223372036854775807 ∧ ∀ x ∈ l, True) (a : Int) (wa : (Lit.int .i64 a).wf = true) (b : Int) (wb : (Lit.int .i64 b).wf = true) (c0 : Int) (wc0 : (Lit.int .i64 c0).wf = true) :
    Calls Try.prog 7 #[.slice A l.length c, .int .i64 a, .int .i64 b, .int .i64 c0] W fun e w' => e = .returned (.bool true) ∧ Below W.heap.size W w' := by
  obtain ⟨k, h⟩ := pure l a b c0 hQ.1
  refine (laws_FnExactServed.calls k A c l a b c0 true W hC hc h).mono ?_
  rintro e w' ⟨rfl, hb⟩
  exact ⟨rfl, hb⟩
end Go.Proofs.Ytcekicodehlidaa.WFnExactServed
