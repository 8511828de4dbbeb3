/- Loops over lists, numbers in range: plain facts on which the laws' proofs rest. No condition but those in each line. -/
import Derived.Test.YtolbhpampnjinaaPR
namespace Go.Proofs.Ytolbhpampnjinaa.Ev
open Go Go.Proofs
set_option linter.unusedVariables false
set_option linter.unusedSimpArgs false
theorem wrap64 {n : Int} (h1 : -9223372036854775808 ≤ n) (h2 : n < 9223372036854775808) : IntKind.i64.wrap n = n := w64_of h1 h2
theorem addW_of {a b : Int} (h1 : -9223372036854775808 ≤ a + b) (h2 : a + b < 9223372036854775808) : addW a b = a + b := wrap64 h1 h2
theorem subW_of {a b : Int} (h1 : -9223372036854775808 ≤ a - b) (h2 : a - b < 9223372036854775808) : subW a b = a - b := wrap64 h1 h2
theorem mulW_of {a b : Int} (h1 : -9223372036854775808 ≤ a * b) (h2 : a * b < 9223372036854775808) : mulW a b = a * b := wrap64 h1 h2
theorem addW_nat {k : Nat} (h : k < 4611686018427387904) : addW (k : Int) 1 = ((k + 1 : Nat) : Int) := by rw [addW_of (by omega) (by omega)]; rfl
theorem ok_i64 {n : Int} (h : (Lit.int .i64 n).wf = true) : -9223372036854775808 ≤ n ∧ n < 9223372036854775808 := by
  simp [Lit.wf, IntKind.min, IntKind.max, IntKind.signed, IntKind.bits] at h
  omega
section
variable {α β σ ρ : Type}
theorem idx_get {xs : List α} {k : Nat} (h : k < xs.length) : idx xs (k : Int) = some xs[k] := by
  simp [idx, h]
theorem FU_big : 4611686018427387904 < FU := by decide
/-- A walk along a list. -/
def runL (step : α → σ → Option (σ ⊕ ρ)) (fin : σ → Option ρ) : List α → σ → Option ρ
  | [], s => fin s
  | a :: l, s => (step a s).bind fun r => match r with | .inl s' => runL step fin l s' | .inr x => some x
def goL (k : σ → Option ρ) : σ ⊕ ρ → Option ρ
  | .inl s => k s
  | .inr x => some x
theorem loop_list (xs : List α) (hl : xs.length < 4611686018427387904) (step : α → σ → Option (σ ⊕ ρ)) (fin : σ → Option ρ) (L : Nat → σ → Int → Option ρ)
    (hL : ∀ m s i, L (m + 1) s i = if decide (i < (xs.length : Int)) = true then (idx xs i).bind fun a => (step a s).bind (goL fun s' => L m s' (addW i 1)) else fin s) :
    ∀ (m k : Nat) (s : σ), k ≤ xs.length → xs.length - k < m → L m s k = runL step fin (xs.drop k) s := by
  intro m
  induction m with
  | zero => intro k s _ h; omega
  | succ m ih =>
    intro k s hk hm
    rw [hL]
    by_cases hc : k < xs.length
    · have h1 : decide ((k : Int) < (xs.length : Int)) = true := by simpa using hc
      rw [if_pos h1, idx_get hc, Option.bind_some, List.drop_eq_getElem_cons hc]
      simp only [runL]
      congr 1
      funext r
      cases r with
      | inl s' =>
        simp only [goL]
        rw [addW_nat (by omega)]
        exact ih (k + 1) s' (by omega) (by omega)
      | inr x => rfl
    · have h1 : ¬ decide ((k : Int) < (xs.length : Int)) = true := by simpa using hc
      rw [if_neg h1, List.drop_eq_nil_of_le (by omega)]
      rfl
theorem loop_all (xs : List α) (hl : xs.length < 4611686018427387904) (step : α → σ → Option (σ ⊕ ρ)) (fin : σ → Option ρ) (L : Nat → σ → Int → Option ρ)
    (hL : ∀ m s i, L (m + 1) s i = if decide (i < (xs.length : Int)) = true then (idx xs i).bind fun a => (step a s).bind (goL fun s' => L m s' (addW i 1)) else fin s) (s : σ) :
    L FU s 0 = runL step fin xs s := by
  have := loop_list xs hl step fin L hL FU 0 s (Nat.zero_le _) (by have := FU_big; omega)
  simpa using this
/-- .. of what keeps going. -/
theorem runL_fold (step : α → σ → Option (σ ⊕ ρ)) (fin : σ → Option ρ) (f : σ → α → σ) (I : List α → σ → Prop) (h : ∀ a l s, I (a :: l) s → step a s = some (.inl (f s a)) ∧ I l (f s a)) : ∀ (xs : List α) (s : σ), I xs s → runL step fin xs s = fin (xs.foldl f s) := by
  intro xs
  induction xs with
  | nil => intro s _; rfl
  | cons a l ih =>
    intro s hi
    obtain ⟨h1, h2⟩ := h a l s hi
    simp only [runL, h1, Option.bind_some, List.foldl_cons]
    exact ih _ h2
def nextE (k : Option ρ) : Option ρ → Option ρ
  | none => k
  | some x => some x
/-- Two lists, side by side. -/
theorem loop_zip (xs : List α) (ys : List β) (hl : xs.length < 4611686018427387904) (hxy : xs.length = ys.length) (e : α → β → Option (Option ρ)) (fin : ρ) (L : Nat → Int → Option ρ)
    (hL : ∀ m i, L (m + 1) i = if decide (i < (xs.length : Int)) = true then (idx xs i).bind fun a => (idx ys i).bind fun b => (e a b).bind (nextE (L m (addW i 1))) else some fin)
    (q : α → β → Bool) (out : ρ) (hq : ∀ a b, a ∈ xs → b ∈ ys → e a b = some (if q a b then none else some out)) : ∀ (m k : Nat), k ≤ xs.length → xs.length - k < m → L m k = some (if ((xs.drop k).zip (ys.drop k)).all (fun p => q p.1 p.2) then fin else out) := by
  intro m
  induction m with
  | zero => intro k _ h; omega
  | succ m ih =>
    intro k hk hm
    rw [hL]
    by_cases hc : k < xs.length
    · have h1 : decide ((k : Int) < (xs.length : Int)) = true := by simpa using hc
      have hc2 : k < ys.length := by omega
      rw [if_pos h1, idx_get hc, Option.bind_some, idx_get hc2, Option.bind_some, hq _ _ (List.getElem_mem hc) (List.getElem_mem hc2), List.drop_eq_getElem_cons hc, List.drop_eq_getElem_cons hc2]
      simp only [Option.bind_some, List.zip_cons_cons, List.all_cons]
      by_cases hb : q xs[k] ys[k] = true
      · rw [if_pos hb, addW_nat (by omega)]
        simp only [nextE, hb, Bool.true_and]
        exact ih (k + 1) (by omega) (by omega)
      · rw [if_neg hb]
        simp [nextE, hb]
    · have h1 : ¬ decide ((k : Int) < (xs.length : Int)) = true := by simpa using hc
      rw [if_neg h1, List.drop_eq_nil_of_le (by omega)]
      rfl
theorem zip_all_eq [DecidableEq α] : ∀ {xs ys : List α}, xs.length = ys.length → ((xs.zip ys).all fun p => decide (p.1 = p.2)) = decide (xs = ys) := by
  intro xs
  induction xs with
  | nil => intro ys h; cases ys with
    | nil => rfl
    | cons y ys => simp at h
  | cons x xs ih => intro ys h; cases ys with
    | nil => simp at h
    | cons y ys =>
      simp only [List.zip_cons_cons, List.all_cons, ih (by simpa using h)]
      by_cases h1 : x = y <;> by_cases h2 : xs = ys <;> simp [h1, h2]
/-- Two lists are compared, cell by cell. -/
theorem eq_list [DecidableEq α] (xs ys : List α) (hl : xs.length < 4611686018427387904) (e : α → α → Option (Option Bool)) (L : Nat → Int → Option Bool)
    (hL : ∀ m i, L (m + 1) i = if decide (i < (xs.length : Int)) = true then (idx xs i).bind fun a => (idx ys i).bind fun b => (e a b).bind (nextE (L m (addW i 1))) else some true)
    (he : ∀ a b, e a b = some (if a = b then none else some false)) :
    (if decide ((xs.length : Int) ≠ (ys.length : Int)) = true then some false else L FU 0) = some (decide (xs = ys)) := by
  by_cases hxy : xs.length = ys.length
  · have h1 : ¬ decide ((xs.length : Int) ≠ (ys.length : Int)) = true := by simp [hxy]
    rw [if_neg h1]
    have := loop_zip xs ys hl hxy e true L hL (fun a b => decide (a = b)) false (fun a b _ _ => by rw [he]; by_cases h : a = b <;> simp [h]) FU 0 (Nat.zero_le _) (by have := FU_big; omega)
    simp only [List.drop_zero] at this
    rw [zip_all_eq hxy] at this
    rw [show ((0 : Nat) : Int) = 0 from rfl] at this
    rw [this]
    by_cases h : xs = ys <;> simp [h]
  · have h1 : decide ((xs.length : Int) ≠ (ys.length : Int)) = true := by simp; omega
    rw [if_pos h1]
    have : xs ≠ ys := fun h => hxy (by rw [h])
    simp [this]
/-- A list is turned into another one, cell by cell. -/
theorem map_list (xs : List α) (g : α → β) (hl : xs.length < 4611686018427387904) (f : α → Option β) (hf : ∀ a ∈ xs, f a = some (g a)) (L : Nat → List β → Int → Option (List β))
    (hL : ∀ m v i, L (m + 1) v i = if decide (i < (xs.length : Int)) = true then (idx xs i).bind fun a => (f a).bind fun b => (idx v i).bind fun _ => (setO v i b).bind fun y => L m y (addW i 1) else some v) (v : List β) (hv : v.length = xs.length) : L FU v 0 = some (xs.map g) := by
  have key : ∀ (m k : Nat) (v : List β), k ≤ xs.length → xs.length - k < m → v.length = xs.length → v.take k = (xs.take k).map g → L m v k = some (xs.map g) := by
    intro m
    induction m with
    | zero => intro k v _ h; omega
    | succ m ih =>
      intro k v hk hm hv ht
      rw [hL]
      by_cases hc : k < xs.length
      · have h1 : decide ((k : Int) < (xs.length : Int)) = true := by simpa using hc
        have hc2 : k < v.length := by omega
        rw [if_pos h1, idx_get hc, Option.bind_some, hf _ (List.getElem_mem hc), Option.bind_some, idx_get hc2, Option.bind_some]
        simp only [setO, Option.bind_some]
        rw [addW_nat (by omega)]
        refine ih (k + 1) _ (by omega) (by omega) (by simp [hv]) ?_
        rw [Int.toNat_natCast, List.take_add_one, List.take_add_one, List.map_append, List.take_set_of_le (Nat.le_refl _), ht, List.getElem?_set_self hc2, List.getElem?_eq_getElem hc]
        rfl
      · have h1 : ¬ decide ((k : Int) < (xs.length : Int)) = true := by simpa using hc
        rw [if_neg h1]
        rw [List.take_of_length_le (by omega), List.take_of_length_le (by omega)] at ht
        rw [ht]
  have := key FU 0 v (Nat.zero_le _) (by have := FU_big; omega) hv (by simp)
  simpa using this
theorem mkI_of {sz n : Nat} {z : α} (h1 : n * sz ≤ 70368744177664) (h2 : n ≤ 9223372036854775807) : mkI sz (n : Int) z = some (List.replicate n z) := by
  simp [mkI, h1, h2]
theorem appI_of {sz : Nat} {xs ys : List α} (h1 : (xs.length + ys.length) * sz ≤ 140737488355328) (h2 : xs.length + ys.length ≤ 9223372036854775807) : appI sz xs ys = some (xs ++ ys) := by
  unfold appI
  rw [if_pos ⟨h1, h2⟩]
/-- How many of a list. -/
theorem count_list (xs : List α) (hl : xs.length < 4611686018427387904) (p : α → Bool) (L : Nat → Int → Int → Option Int)
    (hL : ∀ m n i, L (m + 1) n i = if decide (i < (xs.length : Int)) = true then (idx xs i).bind fun a => (if p a = true then L m (addW n 1) (addW i 1) else L m n (addW i 1)) else some n) : L FU 0 0 = some (xs.countP p : Int) := by
  have key : ∀ (m k : Nat) (n : Int), k ≤ xs.length → xs.length - k < m → 0 ≤ n → n ≤ k → L m n k = some (n + ((xs.drop k).countP p : Nat)) := by
    intro m
    induction m with
    | zero => intro k n _ h; omega
    | succ m ih =>
      intro k n hk hm hn1 hn2
      rw [hL]
      by_cases hc : k < xs.length
      · have h1 : decide ((k : Int) < (xs.length : Int)) = true := by simpa using hc
        rw [if_pos h1, idx_get hc, Option.bind_some, List.drop_eq_getElem_cons hc, List.countP_cons, addW_nat (by omega)]
        by_cases hp : p xs[k] = true
        · rw [if_pos hp, addW_of (by omega) (by omega), ih (k + 1) (n + 1) (by omega) (by omega) (by omega) (by omega), if_pos hp]
          simp only [Option.some.injEq]
          omega
        · rw [if_neg hp, ih (k + 1) n (by omega) (by omega) (by omega) (by omega), if_neg hp]
          rfl
      · have h1 : ¬ decide ((k : Int) < (xs.length : Int)) = true := by simpa using hc
        rw [if_neg h1, List.drop_eq_nil_of_le (by omega)]
        simp
  have := key FU 0 0 (Nat.zero_le _) (by have := FU_big; omega) (by omega) (by omega)
  simpa using this
end
theorem ite_same {β : Type} {c : Prop} [Decidable c] {x : β} : (if c then x else x) = x := by split <;> rfl
end Go.Proofs.Ytolbhpampnjinaa.Ev
