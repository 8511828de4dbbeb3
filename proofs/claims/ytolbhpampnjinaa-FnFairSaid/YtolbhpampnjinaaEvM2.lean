/- A pure evaluator of the translated program's code, and that it is sound (part 2). Conditions: those in each line. -/
import Derived.Test.YtolbhpampnjinaaEvM1
import Derived.Orders
import Derived.Tactics
/- The boundary of a call: what is handed over and received. No condition. -/
namespace Go.Proofs.Ytolbhpampnjinaa.Ev
open Go Go.RowKit
set_option linter.unusedVariables false
set_option linter.unusedSimpArgs false

theorem Rd.okm {w : World} {ok ok' : Nat → Prop} {v : Value} {x : V} (h : Rd w ok v x) (hok : ∀ g, ok g → ok' g) : Rd w ok' v x := h.mono (fun _ _ _ => rfl) hok
theorem En.ext {w : World} {ok ok' : Nat → Prop} {ρ ρ' : Rho} {v : Value} {x : V} (h : En w ok ρ v x) (hok : ∀ g, ok g → ok' g) (hρ : ∀ id i, ρ id = some i → ρ' id = some i) : En w ok' ρ' v x := by
  induction h with
  | undef => exact .undef
  | lit h => exact .lit h
  | tr h => exact .tr (h.okm hok)
  | vw h => exact .vw (h.okm hok)
  | rp h => exact .rp (h.okm hok)
  | ptr h => exact .ptr (hρ _ _ h)
  | sl h hc => exact .sl (hρ _ _ h) hc
  | sle h =>
    obtain ⟨i, hi⟩ := Option.isSome_iff_exists.1 h
    exact .sle (by rw [hρ _ _ hi]; rfl)
  | fn hl hr ih => exact .fn hl ih
  | agg hl hc hr ih => exact .agg hl hc ih
  | tup hl hr ih => exact .tup hl ih
/-- .. and into a world that has what is looked at. -/
theorem En.world {w w' : World} {ok : Nat → Prop} {ρ : Rho} {v : Value} {x : V} (h : En w ok ρ v x) (hw : ∀ g, ok g → w'.heap[g]? = w.heap[g]?) : En w' ok ρ v x := by
  induction h with
  | undef => exact .undef
  | lit h => exact .lit h
  | tr h => exact .tr (h.mono (fun g hg _ => hw g hg) (fun _ h => h))
  | vw h => exact .vw (h.mono (fun g hg _ => hw g hg) (fun _ h => h))
  | rp h => exact .rp (h.mono (fun g hg _ => hw g hg) (fun _ h => h))
  | ptr h => exact .ptr h
  | sl h hc => exact .sl h hc
  | sle h => exact .sle h
  | fn hl hr ih => exact .fn hl ih
  | agg hl hc hr ih => exact .agg hl hc ih
  | tup hl hr ih => exact .tup hl ih
theorem BlkR.ext {P : Program} {w : World} {ok ok' : Nat → Prop} {ρ ρ' : Rho} {i : Option Info} {F : List Nat} {b : Blk} (h : BlkR P w ok ρ i F b) (hok : ∀ g, ok g → ok' g) (hρ : ∀ id i, ρ id = some i → ρ' id = some i) : BlkR P w ok' ρ' i F b := by
  unfold BlkR at h ⊢
  split at h
  · obtain ⟨h1, g, cur, e, row, hi, hg, hr, hs, he, h1c, rfl⟩ := h
    exact ⟨h1, g, cur, e, row, hi, hg, hr, hs, fun k v x hv hx => (he k v x hv hx).ext hok hρ, h1c, rfl⟩
  · rcases h with h | ⟨g, o, c, cur, hi, hg, hl, hm, hu, hz, fp, rfl, h1, h2⟩
    · exact .inl h
    · refine .inr ⟨g, o, c, cur, hi, hg, hl, hm, hu, hz, fp, rfl, h1, fun hc => ⟨(h2 hc).1, fun k x hx => ?_⟩⟩
      obtain ⟨v, hv, hr⟩ := (h2 hc).2 k x hx
      exact ⟨v, hv, hr.okm hok⟩
  · obtain ⟨h0, h⟩ := h
    refine ⟨h0, ?_⟩
    rcases h with h | ⟨g, o, c, sz, hi, hu, hr⟩
    · exact .inl h
    · exact .inr ⟨g, o, c, sz, hi, hu, hr.okm hok⟩
theorem BlkR.world {P : Program} {w w' : World} {ok : Nat → Prop} {ρ : Rho} {i : Option Info} {F : List Nat} {b : Blk} (h : BlkR P w ok ρ i F b) (hw : ∀ g, ok g → w'.heap[g]? = w.heap[g]?) (hF : ∀ g ∈ F, w'.heap[g]? = w.heap[g]?) : BlkR P w' ok ρ i F b := by
  unfold BlkR at h ⊢
  split at h
  · obtain ⟨h1, g, cur, e, row, hi, hg, hr, hs, he, h1c, rfl⟩ := h
    exact ⟨h1, g, cur, e, row, hi, by rw [hF g List.mem_cons_self]; exact hg, hr, hs, fun k v x hv hx => (he k v x hv hx).world hw, h1c, rfl⟩
  · rcases h with h | ⟨g, o, c, cur, hi, hg, hl, hm, hu, hz, fp, rfl, h1, h2⟩
    · exact .inl h
    · refine .inr ⟨g, o, c, cur, hi, by rw [hF g List.mem_cons_self]; exact hg, hl, hm, hu, hz, fp, rfl, fun hc => (h1 hc).frame fun k hk => hF k (List.mem_cons_of_mem _ hk), fun hc => ⟨(h2 hc).1, fun k x hx => ?_⟩⟩
      obtain ⟨v, hv, hr⟩ := (h2 hc).2 k x hx
      exact ⟨v, hv, hr.mono (fun g hg _ => hw g hg) (fun _ h => h)⟩
  · obtain ⟨h0, h⟩ := h
    refine ⟨h0, ?_⟩
    rcases h with h | ⟨g, o, c, sz, hi, hu, hr⟩
    · exact .inl h
    · exact .inr ⟨g, o, c, sz, hi, hu, hr.mono (fun g hg _ => hw g hg) (fun _ h => h)⟩

/-- The state in a world, what may be looked at being given. -/
structure RelG (P : Program) (B : Nat) (io : Nat → Prop) (w : World) (tmps : Array Value) (s : St) (ρ : Rho) (F : Id → List Nat) (fl : List Nat) (ok : Nat → Prop) : Prop where
  env : ∀ (t : Nat) (v : Value), tmps[t]? = some v → En w ok ρ v (s.env t)
  out : ∀ t, tmps.size ≤ t → s.env t = .undef
  heap : ∀ id b, s.heap id = some b → BlkR P w ok ρ (ρ id) (F id) b
  mine : ∀ id b, s.heap id = some b → b.own = true → ∀ g ∈ F id, g < w.heap.size
  top : ∀ id b, s.heap id = some b → b.own = true → HasCap (ρ id) → ∀ g, (F id).head? = some g → io g ∨ B ≤ g
  apart : ∀ id id' b b', s.heap id = some b → b.own = true → s.heap id' = some b' → b'.own = true → id ≠ id' → ∀ g ∈ F id, g ∉ F id'
  once : ∀ id b, s.heap id = some b → b.own = true → (F id).Nodup
  dom : ∀ id, (ρ id).isSome = true → id.1 ≤ s.ep
  base : B ≤ w.heap.size
  flMine : ∀ g ∈ fl, g < w.heap.size
  flApart : ∀ id b, s.heap id = some b → b.own = true → ∀ g ∈ F id, g ∉ fl
  flOnce : fl.Nodup

/-- A cell that is handed over. -/
inductive Giv (P : Program) (w : World) (ok top : Nat → Prop) : Value → V → List Nat → Prop
  | lit {v : Value} (h : scalar v = true) : Giv P w ok top v (.lit v) []
  | tr {v : Value} {rows : List (List V)} (h : Rd w ok v (.tr rows)) : Giv P w ok top v (.tr rows) []
  | own {v : Value} {e : TypeId} {rows : List (List V)} {fp : List Nat} (h : OwT P w e v rows fp) (ht : ∀ g, fp.head? = some g → top g) : Giv P w ok top v (.own e rows) fp
inductive GivL (P : Program) (w : World) (ok top : Nat → Prop) : List Value → List V → List Nat → Prop
  | nil : GivL P w ok top [] [] []
  | cons {v : Value} {x : V} {vs : List Value} {xs : List V} {f1 f2 : List Nat} (h : Giv P w ok top v x f1) (hs : GivL P w ok top vs xs f2) : GivL P w ok top (v :: vs) (x :: xs) (f1 ++ f2)
theorem GivL.length {P : Program} {w : World} {ok top : Nat → Prop} {vs : List Value} {xs : List V} {fp : List Nat} (h : GivL P w ok top vs xs fp) : vs.length = xs.length := by
  induction h with
  | nil => rfl
  | cons _ _ ih => simp [ih]
/-- A value that is handed over. -/
def GivO (P : Program) (w : World) (ok top : Nat → Prop) (u : Value) : V → List Nat → Prop
  | .agg cs, fp => ∃ us : Array Value, u = .agg us ∧ GivL P w ok top us.toList cs fp
  | .obx cs, fp => ∃ g cur e fp', u = .pointer (some ⟨g, 0, none⟩) ∧ w.heap[g]? = some (.cells cur e (0, 0)) ∧ GivL P w ok top cur.toList cs fp' ∧ fp = g :: fp' ∧ top g
  | x, fp => Giv P w ok top u x fp

section
variable {P : Program} {B : Nat} {io : Nat → Prop} {w w' : World} {tmps : Array Value} {s s' : St} {ρ ρ' : Rho} {F F' : Id → List Nat} {fl fl' : List Nat} {ok ok' top : Nat → Prop}

theorem Rel.toG (h : Rel P B io w tmps s ρ F fl) : RelG P B io w tmps s ρ F fl (okS s ρ w) := { h with }
theorem RelG.toRel (h : RelG P B io w tmps s ρ F fl ok) (hok : ∀ g, ok g → okS s ρ w g) : Rel P B io w tmps s ρ F fl :=
  { h with
    env := fun t v hv => (h.env t v hv).ext hok (fun _ _ h => h)
    heap := fun id b hb => (h.heap id b hb).ext hok (fun _ _ h => h) }
theorem RelG.less (h : RelG P B io w tmps s ρ F fl ok) (hs : fl'.Sublist fl) : RelG P B io w tmps s ρ F fl' ok :=
  { h with
    flMine := fun g hg => h.flMine g (hs.subset hg)
    flApart := fun id b hb ho g hg hg' => h.flApart id b hb ho g hg (hs.subset hg')
    flOnce := h.flOnce.sublist hs }
theorem RelG.perm (h : RelG P B io w tmps s ρ F fl ok) (hs : fl'.Perm fl) : RelG P B io w tmps s ρ F fl' ok :=
  { h with
    flMine := fun g hg => h.flMine g (hs.mem_iff.1 hg)
    flApart := fun id b hb ho g hg hg' => h.flApart id b hb ho g hg (hs.mem_iff.1 hg')
    flOnce := hs.nodup_iff.2 h.flOnce }
theorem RelG.put (h : RelG P B io w tmps s ρ F fl ok) {p : Nat} {x : V} {u : Value} (hp : tmps[p]? = some u) (hx : En w ok ρ u x) : RelG P B io w tmps (s.put (some p) x) ρ F fl ok :=
  { h with
    env := fun t v hv => by
      simp only [St.put, upd]
      split
      · rename_i e; subst e; rw [hp] at hv; injection hv with hv; subst hv; exact hx
      · exact h.env t v hv
    out := fun t ht => by
      simp only [St.put, upd]
      split
      · rename_i e; subst e
        have := (Array.getElem?_eq_some_iff.1 hp).1
        omega
      · exact h.out t ht }

/-- One own block more. -/
theorem RelG.add {fp : List Nat} (h : RelG P B io w tmps s ρ F (fp ++ fl) ok) {id : Id} (hs : s.heap id = none) (hep : id.1 ≤ s.ep) (hρ : ∀ id' i, ρ id' = some i → ρ' id' = some i) (hρn : ∀ id', id' ≠ id → ρ' id' = ρ id') {b : Blk} (hB : BlkR P w ok ρ' (ρ' id) fp b)
    (htop : HasCap (ρ' id) → ∀ g, fp.head? = some g → io g ∨ B ≤ g) : RelG P B io w tmps (s.setB id b) ρ' (upd F id fp) fl ok := by
  have hno := List.nodup_append.1 h.flOnce
  refine ⟨fun t v hv => (h.env t v hv).ext (fun _ h => h) hρ, h.out, fun id' b' hb => ?_, fun id' b' hb ho g hg => ?_, fun id' b' hb ho hcc g hg => ?_, fun id1 id2 b1 b2 hb1 ho1 hb2 ho2 hne g hg1 hg2 => ?_, fun id' b' hb ho => ?_, fun id' hi => ?_, h.base,
    fun g hg => h.flMine g (List.mem_append_right _ hg), fun id' b' hb ho g hg hg' => ?_, hno.2.1⟩
  · by_cases e : id' = id
    · subst e; rw [setB_self] at hb; injection hb with hb; subst hb; rw [upd_self]; exact hB
    · rw [setB_ne e] at hb; rw [hρn id' e, upd_ne e]; exact (h.heap id' b' hb).ext (fun _ h => h) hρ
  · by_cases e : id' = id
    · subst e; rw [upd_self] at hg; exact h.flMine g (List.mem_append_left _ hg)
    · rw [setB_ne e] at hb; rw [upd_ne e] at hg; exact h.mine id' b' hb ho g hg
  · by_cases e : id' = id
    · subst e; rw [upd_self] at hg; exact htop hcc g hg
    · rw [setB_ne e] at hb; rw [upd_ne e] at hg; rw [hρn id' e] at hcc; exact h.top id' b' hb ho hcc g hg
  · by_cases e1 : id1 = id
    · subst e1
      rw [upd_self] at hg1
      rw [setB_ne (Ne.symm hne)] at hb2
      rw [upd_ne (Ne.symm hne)] at hg2
      exact h.flApart id2 b2 hb2 ho2 g hg2 (List.mem_append_left _ hg1)
    · rw [setB_ne e1] at hb1
      rw [upd_ne e1] at hg1
      by_cases e2 : id2 = id
      · subst e2
        rw [upd_self] at hg2
        exact h.flApart id1 b1 hb1 ho1 g hg1 (List.mem_append_left _ hg2)
      · rw [setB_ne e2] at hb2; rw [upd_ne e2] at hg2
        exact h.apart id1 id2 b1 b2 hb1 ho1 hb2 ho2 hne g hg1 hg2
  · by_cases e : id' = id
    · subst e; rw [upd_self]; exact hno.1
    · rw [setB_ne e] at hb; rw [upd_ne e]; exact h.once id' b' hb ho
  · by_cases e : id' = id
    · subst e; exact hep
    · rw [hρn id' e] at hi; exact h.dom id' hi
  · by_cases e : id' = id
    · subst e; rw [upd_self] at hg; exact hno.2.2 g hg g hg' rfl
    · rw [setB_ne e] at hb; rw [upd_ne e] at hg; exact h.flApart id' b' hb ho g hg (List.mem_append_right _ hg')

/-- What a taken value leaves. -/
structure Took (P : Program) (B : Nat) (io : Nat → Prop) (w : World) (tmps : Array Value) (s : St) (ρ : Rho) (fl : List Nat) (ok top : Nat → Prop) (J : Id → Prop) (s' : St) (ρ' : Rho) (F' : Id → List Nat) : Prop where
  rel : RelG P B io w tmps s' ρ' F' fl ok
  ext : ∀ id i, ρ id = some i → ρ' id = some i
  dom : ∀ id, (ρ' id).isSome = true → (ρ id).isSome = true ∨ J id
  env : s'.env = s.env
  ep : s'.ep = s.ep
  heap : ∀ id, ¬ J id → s'.heap id = s.heap id
  tops : ∀ g, Ev.tops s' ρ' g → Ev.tops s ρ g ∨ top g

theorem Took.trans {fl1 : List Nat} {J K : Id → Prop} {s1 s2 : St} {ρ1 ρ2 : Rho} {F1 F2 : Id → List Nat} (h1 : Took P B io w tmps s ρ fl1 ok top J s1 ρ1 F1) (h2 : Took P B io w tmps s1 ρ1 fl ok top K s2 ρ2 F2) : Took P B io w tmps s ρ fl ok top (fun id => J id ∨ K id) s2 ρ2 F2 where
  rel := h2.rel
  ext := fun id i h => h2.ext id i (h1.ext id i h)
  dom := fun id h => by
    rcases h2.dom id h with h | h
    · rcases h1.dom id h with h | h
      · exact .inl h
      · exact .inr (.inl h)
    · exact .inr (.inr h)
  env := h2.env.trans h1.env
  ep := h2.ep.trans h1.ep
  heap := fun id h => (h2.heap id fun hk => h (.inr hk)).trans (h1.heap id fun hj => h (.inl hj))
  tops := fun g h => by
    rcases h2.tops g h with h | h
    · exact h1.tops g h
    · exact .inr h
theorem Took.mono {J K : Id → Prop} {s1 : St} {ρ1 : Rho} {F1 : Id → List Nat} (h : Took P B io w tmps s ρ fl ok top J s1 ρ1 F1) (hJ : ∀ id, J id → K id) : Took P B io w tmps s ρ fl ok top K s1 ρ1 F1 :=
  { h with
    dom := fun id hi => (h.dom id hi).imp (fun h => h) (hJ id)
    heap := fun id hk => h.heap id fun hj => hk (hJ id hj) }
theorem Took.refl (h : RelG P B io w tmps s ρ F fl ok) : Took P B io w tmps s ρ fl ok top (fun _ => False) s ρ F :=
  ⟨h, fun _ _ h => h, fun _ h => .inl h, rfl, rfl, fun _ _ => rfl, fun _ h => .inl h⟩

theorem tops_set {id : Id} {b : Blk} (hρn : ∀ id', id' ≠ id → ρ' id' = ρ id') {g : Nat} (h : tops (s.setB id b) ρ' g) : tops s ρ g ∨ (b.own = true ∧ ∃ o c sz, ρ' id = some (.blk g o c sz)) := by
  obtain ⟨id', b', o, c, sz, hb, ho, hρ⟩ := h
  by_cases e : id' = id
  · subst e; rw [setB_self] at hb; injection hb with hb; subst hb; exact .inr ⟨ho, o, c, sz, hρ⟩
  · rw [setB_ne e] at hb; rw [hρn id' e] at hρ; exact .inl ⟨id', b', o, c, sz, hb, ho, hρ⟩

theorem own_take {fp : List Nat} (h : RelG P B io w tmps s ρ F (fp ++ fl) ok) {u : Value} {e : TypeId} {rows : List (List V)} (hO : OwT P w e u rows fp) (ht : ∀ g, fp.head? = some g → top g) (htop : ∀ g, top g → io g ∨ B ≤ g) {id : Id} (hid : ρ id = none) (hs : s.heap id = none) (hep : id.1 ≤ s.ep) :
    ∃ ρ' F', Took P B io w tmps s ρ fl ok top (fun id' => id' = id) (s.setB id ⟨false, true, true, e, rows⟩) ρ' F' ∧ En w ok ρ' u (.sl id 0 rows.length) := by
  rcases hO with ⟨A, rfl, rfl, rfl⟩ | ⟨g, o, c, cur, fp', rfl, hg, hl, hm, hun, hz, hO, rfl⟩
  · refine ⟨upd ρ id (some .emp), upd F id [], ⟨h.add hs hep (ext_new hid) (fun id' e => upd_ne e) (by rw [upd_self]; exact .mkEmp rfl rfl rfl rfl rfl) (fun _ g hg => by simp at hg), ext_new hid, fun id' hi => ?_, rfl, rfl, fun id' e => setB_ne e, fun g hg => ?_⟩, .sle (by rw [upd_self]; rfl)⟩
    · by_cases e : id' = id
      · exact .inr e
      · rw [upd_ne e] at hi; exact .inl hi
    · rcases tops_set (fun id' e => upd_ne e) hg with h1 | ⟨_, o, c, sz, h1⟩
      · exact .inl h1
      · rw [upd_self] at h1; cases h1
  · refine ⟨upd ρ id (some (.blk g o c (P.cellsOf e))), upd F id (g :: fp'), ⟨h.add hs hep (ext_new hid) (fun id' e => upd_ne e) (by
      rw [upd_self]
      exact .mkRow rfl rfl rfl hg hl hm hun hz rfl (fun _ => hO) (fun hf => by cases hf)) (fun _ g' hg' => htop g' (ht g' hg')), ext_new hid, fun id' hi => ?_, rfl, rfl, fun id' e => setB_ne e, fun g' hg' => ?_⟩, ?_⟩
    · by_cases e : id' = id
      · exact .inr e
      · rw [upd_ne e] at hi; exact .inl hi
    · rcases tops_set (fun id' e => upd_ne e) hg' with h1 | ⟨_, o', c', sz, h1⟩
      · exact .inl h1
      · rw [upd_self] at h1
        injection h1 with h1
        injection h1 with h1
        subst h1
        exact .inr (ht _ rfl)
    · have := En.sl (w := w) (ok := ok) (off := 0) (len := rows.length) (upd_self ρ id (some (.blk g o c (P.cellsOf e)))) (by omega)
      simpa using this

theorem takeCell_ok {fp : List Nat} (h : RelG P B io w tmps s ρ F (fp ++ fl) ok) {u : Value} {x y : V} (hg : Giv P w ok top u x fp) (htop : ∀ g, top g → io g ∨ B ≤ g) {id : Id} (hid : ρ id = none) (hs : s.heap id = none) (hep : id.1 ≤ s.ep) (ht : s.takeCell id x = some (y, s')) :
    ∃ ρ' F', Took P B io w tmps s ρ fl ok top (fun id' => id' = id) s' ρ' F' ∧ En w ok ρ' u y ∧ cellish y = true := by
  cases hg with
  | lit hsc =>
    simp only [St.takeCell, Option.some.injEq, Prod.mk.injEq] at ht
    obtain ⟨rfl, rfl⟩ := ht
    exact ⟨ρ, F, (Took.refl h).mono (fun _ h => h.elim), .lit hsc, rfl⟩
  | tr hr =>
    simp only [St.takeCell, Option.some.injEq, Prod.mk.injEq] at ht
    obtain ⟨rfl, rfl⟩ := ht
    exact ⟨ρ, F, (Took.refl h).mono (fun _ h => h.elim), .tr hr, rfl⟩
  | own hO htp =>
    simp only [St.takeCell, Option.some.injEq, Prod.mk.injEq] at ht
    obtain ⟨rfl, rfl⟩ := ht
    obtain ⟨ρ', F', h1, h2⟩ := own_take h hO htp htop hid hs hep
    exact ⟨ρ', F', h1, h2, rfl⟩

theorem takeCells_ok {e : Nat} : ∀ (xs : List V) {us : List Value} {k : Nat} {fp fl : List Nat} {s s' : St} {ρ : Rho} {F : Id → List Nat} {ys : List V}, RelG P B io w tmps s ρ F (fp ++ fl) ok → GivL P w ok top us xs fp → (∀ g, top g → io g ∨ B ≤ g) → e ≤ s.ep →
    (∀ j, k ≤ j → j < k + xs.length → ρ (e, j) = none ∧ s.heap (e, j) = none) → s.takeCells e k xs = some (ys, s') →
    ∃ ρ' F', Took P B io w tmps s ρ fl ok top (fun id => id.1 = e ∧ k ≤ id.2 ∧ id.2 < k + xs.length) s' ρ' F' ∧ us.length = ys.length ∧ (∀ y ∈ ys, cellish y = true) ∧ (∀ (j : Nat) (u : Value) (y : V), us[j]? = some u → ys[j]? = some y → En w ok ρ' u y) := by
  intro xs
  induction xs with
  | nil =>
    intro us k fp fl s s' ρ F ys h hg htop hep hnew ht
    cases hg
    simp only [St.takeCells, Option.some.injEq, Prod.mk.injEq] at ht
    obtain ⟨rfl, rfl⟩ := ht
    exact ⟨ρ, F, (Took.refl h).mono (fun _ h => h.elim), rfl, by simp, fun j u y hu => by simp at hu⟩
  | cons x xs ih =>
    intro us k fp fl s s' ρ F ys h hg htop hep hnew ht
    cases hg with
    | @cons u _ us _ f1 f2 hg hgs =>
      simp only [St.takeCells] at ht
      obtain ⟨⟨y, s1⟩, h1, ht⟩ := Option.bind_eq_some_iff.1 ht
      obtain ⟨⟨zs, s2⟩, h2, ht⟩ := Option.map_eq_some_iff.1 ht
      simp only [Prod.mk.injEq] at ht
      obtain ⟨rfl, rfl⟩ := ht
      simp only at h2
      obtain ⟨hn1, hn2⟩ := hnew k (Nat.le_refl _) (by simp)
      obtain ⟨ρ1, F1, t1, e1, c1⟩ := takeCell_ok (fl := f2 ++ fl) (by rw [← List.append_assoc]; exact h) hg htop hn1 hn2 hep h1
      obtain ⟨ρ2, F2, t2, l2, c2, e2⟩ := ih t1.rel hgs htop (by rw [t1.ep]; exact hep) (fun j hj hlt => by
        obtain ⟨a1, a2⟩ := hnew j (by omega) (by simp only [List.length_cons]; omega)
        have hne : ¬ ((e, j) : Id) = (e, k) := fun hh => by injection hh with _ hh; omega
        refine ⟨?_, by rw [t1.heap _ hne]; exact a2⟩
        cases hr : ρ1 (e, j) with
        | none => rfl
        | some i =>
          rcases t1.dom (e, j) (by rw [hr]; rfl) with hh | hh
          · rw [a1] at hh; cases hh
          · exact absurd hh hne) h2
      refine ⟨ρ2, F2, (t1.trans t2).mono (fun id hid => ?_), by simp [l2], fun z hz => ?_, fun j u' z hu hz => ?_⟩
      · rcases hid with rfl | ⟨a, b, c⟩
        · exact ⟨rfl, Nat.le_refl _, by simp⟩
        · exact ⟨a, by omega, by simp only [List.length_cons]; omega⟩
      · rcases List.mem_cons.1 hz with rfl | hz
        · exact c1
        · exact c2 z hz
      · cases j with
        | zero =>
          have a1 : u = u' := by simpa using hu
          have a2 : y = z := by simpa using hz
          subst a1; subst a2
          exact e1.ext (fun _ h => h) t2.ext
        | succ j => exact e2 j u' z (by simpa using hu) (by simpa using hz)

theorem takeOne_ok {fp : List Nat} (h : RelG P B io w tmps s ρ F (fp ++ fl) ok) {u : Value} {x y : V} (hg : GivO P w ok top u x fp) (htop : ∀ g, top g → io g ∨ B ≤ g) {e k : Nat} (hep : e ≤ s.ep) (hnew : ∀ j, k ≤ j → j < k + 64 → ρ (e, j) = none ∧ s.heap (e, j) = none) (ht : s.takeOne e k x = some (y, s')) :
    ∃ ρ' F', Took P B io w tmps s ρ fl ok top (fun id => id.1 = e ∧ k ≤ id.2 ∧ id.2 < k + 64) s' ρ' F' ∧ En w ok ρ' u y := by
  have one : ∀ {x}, Giv P w ok top u x fp → s.takeCell (e, k) x = some (y, s') → ∃ ρ' F', Took P B io w tmps s ρ fl ok top (fun id => id.1 = e ∧ k ≤ id.2 ∧ id.2 < k + 64) s' ρ' F' ∧ En w ok ρ' u y := by
    intro x hg ht
    obtain ⟨a1, a2⟩ := hnew k (Nat.le_refl _) (by omega)
    obtain ⟨ρ', F', h1, h2, _⟩ := takeCell_ok h hg htop a1 a2 hep ht
    exact ⟨ρ', F', h1.mono (fun id hid => by subst hid; exact ⟨rfl, Nat.le_refl _, by omega⟩), h2⟩
  unfold St.takeOne at ht
  split at ht
  · rename_i cs
    split at ht
    · rename_i hl
      obtain ⟨⟨ys, s1⟩, h1, ht⟩ := Option.map_eq_some_iff.1 ht
      simp only [Prod.mk.injEq] at ht
      obtain ⟨rfl, rfl⟩ := ht
      obtain ⟨us, rfl, hgl⟩ := hg
      obtain ⟨ρ', F', t, l, c, en⟩ := takeCells_ok cs h hgl htop hep (fun j hj hlt => hnew j hj (by omega)) h1
      exact ⟨ρ', F', t.mono (fun id hid => ⟨hid.1, hid.2.1, by omega⟩), .agg (by simpa using l) c (fun j v z hv hz => en j v z (by simpa using hv) hz)⟩
    · cases ht
  · rename_i cs
    split at ht
    · rename_i hl
      obtain ⟨⟨ys, s1⟩, h1, ht⟩ := Option.map_eq_some_iff.1 ht
      simp only [Prod.mk.injEq] at ht
      obtain ⟨rfl, rfl⟩ := ht
      obtain ⟨g, cur, e', fp', rfl, hgc, hgl, rfl, htg⟩ := hg
      have hperm : ((fp' ++ ([g] ++ fl)) : List Nat).Perm (g :: fp' ++ fl) := by
        exact List.perm_middle
      obtain ⟨ρ1, F1, t, l, c, en⟩ := takeCells_ok cs (fl := [g] ++ fl) (h.perm hperm) hgl htop hep (fun j hj hlt => hnew j hj (by omega)) h1
      obtain ⟨n1, n2⟩ := hnew (k + 63) (by omega) (by omega)
      have hn1 : ρ1 (e, k + 63) = none := by
        cases hr : ρ1 (e, k + 63) with
        | none => rfl
        | some i =>
          rcases t.dom _ (by rw [hr]; rfl) with hh | ⟨_, _, hh⟩
          · rw [n1] at hh; cases hh
          · simp only at hh; omega
      have hn2 : s1.heap (e, k + 63) = none := by rw [t.heap _ (fun hh => by have := hh.2.2; simp only at this; omega)]; exact n2
      have hadd := t.rel.add (fp := [g]) (fl := fl) (id := (e, k + 63)) (ρ' := upd ρ1 (e, k + 63) (some (.blk g 0 1 ys.length))) (b := ⟨true, true, true, 0, [ys]⟩) hn2 (by rw [t.ep]; exact hep) (ext_new hn1) (fun id' e => upd_ne e) (by
        rw [upd_self]
        exact .mkBox rfl rfl rfl hgc rfl (by simpa using l) (fun j v z hv hz => (en j v z (by simpa using hv) hz).ext (fun _ h => h) (ext_new hn1)) c rfl) (fun _ g' hg' => by
        have : g = g' := by simpa using hg'
        subst this; exact htop g htg)
      refine ⟨_, _, ⟨hadd, fun id i hi => ext_new hn1 id i (t.ext id i hi), fun id hi => ?_, t.env, t.ep, fun id hid => ?_, fun g' hg' => ?_⟩, ?_⟩
      · by_cases e1 : id = (e, k + 63)
        · subst e1; exact .inr ⟨rfl, by simp, by simp⟩
        · rw [upd_ne e1] at hi
          rcases t.dom id hi with hh | hh
          · exact .inl hh
          · exact .inr ⟨hh.1, hh.2.1, by omega⟩
      · rw [setB_ne (fun hh => hid (by subst hh; exact ⟨rfl, by simp, by simp⟩))]
        exact t.heap id (fun hh => hid ⟨hh.1, hh.2.1, by omega⟩)
      · rcases tops_set (fun id' e => upd_ne e) hg' with h3 | ⟨_, o, c', sz, h3⟩
        · exact t.tops g' h3
        · rw [upd_self] at h3
          injection h3 with h3
          injection h3 with h3
          subst h3; exact .inr htg
      · have := En.ptr (w := w) (ok := ok) (i := 0) (off := 0) (upd_self ρ1 (e, k + 63) (some (.blk g 0 1 ys.length)))
        simpa using this
    · cases ht
  · rename_i h1 h2
    exact one (by
      cases x with
      | agg cs => exact absurd rfl (h1 cs)
      | obx cs => exact absurd rfl (h2 cs)
      | _ => exact hg) ht
end
end Go.Proofs.Ytolbhpampnjinaa.Ev
/- What is handed over; what is read by a callee. No condition. -/
namespace Go.Proofs.Ytolbhpampnjinaa.Ev
open Go Go.RowKit
set_option linter.unusedVariables false
set_option linter.unusedSimpArgs false

/-- The first block of an own slice or variable that is gone. -/
def Killed (s s' : St) (ρ : Rho) (F : Id → List Nat) (g : Nat) : Prop := ∃ id b, s.heap id = some b ∧ b.own = true ∧ s'.heap id = none ∧ (F id).head? = some g ∧ HasCap (ρ id)
/-- Some blocks are gone, the rest is as it was. -/
structure Less (s s' : St) : Prop where
  env : s'.env = s.env
  ep : s'.ep = s.ep
  sub : ∀ id b, s'.heap id = some b → s.heap id = some b
theorem Less.refl (s : St) : Less s s := ⟨rfl, rfl, fun _ _ h => h⟩
theorem Less.trans {a b c : St} (h : Less a b) (k : Less b c) : Less a c := ⟨k.env.trans h.env, k.ep.trans h.ep, fun id x hx => h.sub id x (k.sub id x hx)⟩
theorem Less.none {a b : St} (h : Less a b) {id : Id} (hn : a.heap id = none) : b.heap id = none := by
  cases hb : b.heap id with
  | none => rfl
  | some x => rw [h.sub id x hb] at hn; cases hn
theorem Less.kill (s : St) (id : Id) : Less s (s.kill id) := ⟨rfl, rfl, fun _ _ h => kill_heap h⟩
theorem Killed.left {a b c : St} {ρ : Rho} {F : Id → List Nat} {g : Nat} (h : Killed a b ρ F g) (k : Less b c) : Killed a c ρ F g := by
  obtain ⟨id, x, h1, h2, h3, h4⟩ := h
  exact ⟨id, x, h1, h2, k.none h3, h4⟩
theorem Killed.right {a b c : St} {ρ : Rho} {F : Id → List Nat} {g : Nat} (h : Killed b c ρ F g) (k : Less a b) : Killed a c ρ F g := by
  obtain ⟨id, x, h1, h2, h3, h4⟩ := h
  exact ⟨id, x, k.sub id x h1, h2, h3, h4⟩
theorem Giv.top {P : Program} {w : World} {ok top top' : Nat → Prop} {v : Value} {x : V} {fp : List Nat} (h : Giv P w ok top v x fp) (ht : ∀ g, top g → top' g) : Giv P w ok top' v x fp := by
  cases h with
  | lit h => exact .lit h
  | tr h => exact .tr h
  | own h k => exact .own h fun g hg => ht g (k g hg)
theorem GivL.top {P : Program} {w : World} {ok top top' : Nat → Prop} {v : List Value} {x : List V} {fp : List Nat} (h : GivL P w ok top v x fp) (ht : ∀ g, top g → top' g) : GivL P w ok top' v x fp := by
  induction h with
  | nil => exact .nil
  | cons h _ ih => exact .cons (h.top ht) ih
theorem GivO.top {P : Program} {w : World} {ok top top' : Nat → Prop} {v : Value} {x : V} {fp : List Nat} (h : GivO P w ok top v x fp) (ht : ∀ g, top g → top' g) : GivO P w ok top' v x fp := by
  cases x
  case agg cs => obtain ⟨us, h1, h2⟩ := h; exact ⟨us, h1, h2.top ht⟩
  case obx cs => obtain ⟨g, cur, e, fp', h1, h2, h3, h4, h5⟩ := h; exact ⟨g, cur, e, fp', h1, h2, h3.top ht, h4, ht g h5⟩
  all_goals exact Giv.top h ht

section
variable {P : Program} {B : Nat} {io : Nat → Prop} {w w' : World} {tmps : Array Value} {s s' s1 : St} {ρ ρ' : Rho} {F F' : Id → List Nat} {fl fl' : List Nat} {ok ok' top : Nat → Prop}

theorem okS_less (h : Less s s') {g : Nat} (hg : okS s ρ w g) : okS s' ρ w g :=
  ⟨fun ⟨id, b, o, c, sz, h1, h2, h3⟩ => hg.1 ⟨id, b, o, c, sz, h.sub id b h1, h2, h3⟩, hg.2⟩

/-- The first block is the one that the numbers tell. -/
theorem Rel.head_tops (h : Rel P B io w tmps s ρ F fl) {id : Id} {b : Blk} {g : Nat} (hb : s.heap id = some b) (ho : b.own = true) (hg : (F id).head? = some g) : tops s ρ g := by
  have hB := h.heap id b hb
  unfold BlkR at hB
  split at hB
  · obtain ⟨_, g', cur, e, row, hi, _, _, _, _, _, hF⟩ := hB
    rw [hF] at hg
    have : g' = g := by simpa using hg
    subst this
    exact ⟨id, b, _, _, _, hb, ho, hi⟩
  · rcases hB with ⟨_, _, hF⟩ | ⟨g', o', c', cur, hi, _, _, _, _, _, fp, hF, _⟩
    · rw [hF] at hg; simp at hg
    · rw [hF] at hg
      have : g' = g := by simpa using hg
      subst this
      exact ⟨id, b, _, _, _, hb, ho, hi⟩
  · rename_i h2; rw [ho] at h2; cases h2

theorem giveCell_ok (h : Rel P B io w tmps s ρ F fl) {u : Value} {x y : V} {t : Option TypeId} (hu : En w ok ρ u x) (hok : ∀ g, ok g → okS s ρ w g) (hg : s.giveCell t x = some (y, s')) :
    ∃ fp, Rel P B io w tmps s' ρ F (fp ++ fl) ∧ Giv P w ok (Killed s s' ρ F) u y fp ∧ Less s s' := by
  unfold St.giveCell at hg
  split at hg
  · obtain ⟨e, _, he⟩ := Option.map_eq_some_iff.1 hg
    simp only [Prod.mk.injEq] at he
    obtain ⟨rfl, rfl⟩ := he
    cases hu
    exact ⟨[], h, .own (.inl ⟨none, rfl, rfl, rfl⟩) (fun g hg => by simp at hg), .refl _⟩
  · simp only [Option.some.injEq, Prod.mk.injEq] at hg
    obtain ⟨rfl, rfl⟩ := hg
    cases hu with | lit hs => exact ⟨[], h, .lit hs, .refl _⟩
  · simp only [Option.some.injEq, Prod.mk.injEq] at hg
    obtain ⟨rfl, rfl⟩ := hg
    cases hu with | tr hr => exact ⟨[], h, .tr hr, .refl _⟩
  · simp only [Option.some.injEq, Prod.mk.injEq] at hg
    obtain ⟨rfl, rfl⟩ := hg
    cases hu with | vw hr => exact ⟨[], h, .tr hr, .refl _⟩
  · rename_i id off len
    obtain ⟨⟨e, rows⟩, hw, he⟩ := Option.map_eq_some_iff.1 hg
    simp only [Prod.mk.injEq] at he
    obtain ⟨rfl, rfl⟩ := he
    obtain ⟨fp, hR, hO, hh⟩ := h.whole2 (hu.ext hok (fun _ _ h => h)) hw
    refine ⟨fp, hR, .own hO (fun g hg => ?_), .kill s id⟩
    unfold St.whole at hw
    obtain ⟨b, hb, hw⟩ := Option.bind_eq_some_iff.1 hw
    split at hw
    · rename_i hc
      exact ⟨id, b, hb, hc.2.1, kill_self, (hh g hg).1, (hh g hg).2⟩
    · cases hw
  · cases hg

theorem giveCells_ok : ∀ (xs : List V) {us : List Value} {ts : List (Option TypeId)} {s s' : St} {fl : List Nat} {ys : List V}, Rel P B io w tmps s ρ F fl → us.length = xs.length → (∀ (j : Nat) (u : Value) (x : V), us[j]? = some u → xs[j]? = some x → En w ok ρ u x) →
    (∀ g, ok g → okS s ρ w g) → s.giveCells ts xs = some (ys, s') → ∃ fp, Rel P B io w tmps s' ρ F (fp ++ fl) ∧ GivL P w ok (Killed s s' ρ F) us ys fp ∧ Less s s' ∧ ys.length = xs.length := by
  intro xs
  induction xs with
  | nil =>
    intro us ts s s' fl ys h hl hen hok hg
    have : us = [] := List.eq_nil_of_length_eq_zero (by simpa using hl)
    subst this
    simp only [St.giveCells, Option.some.injEq, Prod.mk.injEq] at hg
    obtain ⟨rfl, rfl⟩ := hg
    exact ⟨[], h, .nil, .refl _, rfl⟩
  | cons x xs ih =>
    intro us ts s s' fl ys h hl hen hok hg
    match us, hl with
    | u :: us, hl =>
      simp only [St.giveCells] at hg
      obtain ⟨⟨y, s1⟩, h1, hg⟩ := Option.bind_eq_some_iff.1 hg
      obtain ⟨⟨zs, s2⟩, h2, hg⟩ := Option.map_eq_some_iff.1 hg
      simp only [Prod.mk.injEq] at hg
      obtain ⟨rfl, rfl⟩ := hg
      simp only at h2
      obtain ⟨f1, r1, g1, l1⟩ := giveCell_ok h (hen 0 u x rfl rfl) hok h1
      obtain ⟨f2, r2, g2, l2, l3⟩ := ih r1 (by simpa using hl) (fun j v z hv hz => hen (j + 1) v z (by simpa using hv) (by simpa using hz)) (fun g hg => okS_less l1 (hok g hg)) h2
      refine ⟨f1 ++ f2, r2.perm ?_, .cons (g1.top fun g hg => hg.left l2) (g2.top fun g hg => hg.right l1), l1.trans l2, by simp [l3]⟩
      rw [List.append_assoc]
      exact (List.perm_append_comm_assoc _ _ _)

theorem giveArg_ok (h : Rel P B io w tmps s ρ F fl) {ts : List (Option TypeId)} {u : Value} {x y : V} (hu : En w ok ρ u x) (hok : ∀ g, ok g → okS s ρ w g) (hg : s.giveArg ts x = some (y, s')) :
    ∃ fp, Rel P B io w tmps s' ρ F (fp ++ fl) ∧ GivO P w ok (Killed s s' ρ F) u y fp ∧ Less s s' := by
  unfold St.giveArg at hg
  split at hg
  · rename_i cs
    obtain ⟨⟨ys, s1⟩, h1, he⟩ := Option.map_eq_some_iff.1 hg
    simp only [Prod.mk.injEq] at he
    obtain ⟨rfl, rfl⟩ := he
    cases hu with
    | @agg vs _ hl hc hr =>
      obtain ⟨fp, a, b, c, _⟩ := giveCells_ok cs (us := vs.toList) h (by simpa using hl) (fun j v z hv hz => hr j v z (by simpa using hv) hz) hok h1
      exact ⟨fp, a, ⟨vs, rfl, b⟩, c⟩
  · rename_i hne
    obtain ⟨fp, a, b, c⟩ := giveCell_ok h hu hok hg
    refine ⟨fp, a, ?_, c⟩
    cases b with
    | lit h => exact .lit h
    | tr h => exact .tr h
    | own h k => exact .own h k

theorem giveBox_ok (h : Rel P B io w tmps s ρ F fl) {ts : List (Option TypeId)} {u : Value} {id : Id} {ys : List V} (hu : En w ok ρ u (.ptr id 0 0)) (hok : ∀ g, ok g → okS s ρ w g) (hbx : ∀ b row, s.heap id = some b → b.rows = [row] → b.box = true → ∀ (j : Nat) (cur : Array Value) (e : TypeId) (g o c sz : Nat) (v : Value) (x : V), ρ id = some (.blk g o c sz) → w.heap[g]? = some (.cells cur e (0, 0)) → cur[j]? = some v → row[j]? = some x → En w ok ρ v x)
    (hg : s.giveBox ts id = some (ys, s')) : ∃ fp, Rel P B io w tmps s' ρ F (fp ++ fl) ∧ GivO P w ok (Killed s s' ρ F) u (.obx ys) fp ∧ Less s s' ∧ ∃ g, ρ id = some (.blk g 0 1 ys.length) := by
  unfold St.giveBox at hg
  obtain ⟨b, hb, hg⟩ := Option.bind_eq_some_iff.1 hg
  split at hg
  · rename_i hc
    obtain ⟨hbox, hown⟩ := hc
    split at hg
    · rename_i row hr
      have hB := h.heap id b hb
      unfold BlkR at hB
      rw [hbox] at hB
      obtain ⟨_, g, cur, e, row', hi, hgc, hr', hs, he, hce, hF⟩ := hB
      rw [hr] at hr'
      injection hr' with hr' _
      subst hr'
      have hfl := h.float hb hown
      obtain ⟨fp, a, b', c, d⟩ := giveCells_ok row (us := cur.toList) hfl (by simpa using hs) (fun j v z hv hz => hbx b row hb hr hbox j cur e g _ _ _ v z hi hgc (by simpa using hv) hz) (fun g hg => okS_less (.kill s id) (hok g hg)) hg
      rw [hF] at a
      refine ⟨g :: fp, a.perm (List.perm_middle (l₁ := fp) (l₂ := fl)).symm, ?_, (Less.kill s id).trans c, g, by rw [d]; exact hi⟩
      generalize hq : (V.ptr id 0 0) = q at hu
      cases hu <;> cases hq
      rename_i g' o' c' sz hρ
      rw [hi] at hρ
      injection hρ with hρ
      injection hρ with h1 h2 h3 h4
      subst h1; subst h2
      refine ⟨g, cur, e, fp, by simp, hgc, b'.top (fun g hg => hg.right (.kill s id)), rfl, ⟨id, b, hb, hown, c.none kill_self, by rw [hF]; rfl, g, 0, 1, _, hi, Nat.one_pos⟩⟩
    · cases hg
  · cases hg
end
end Go.Proofs.Ytolbhpampnjinaa.Ev
/- The arguments of a call. No condition. -/
namespace Go.Proofs.Ytolbhpampnjinaa.Ev
open Go Go.RowKit
set_option linter.unusedVariables false
set_option linter.unusedSimpArgs false

/-- An argument as the callee gets it. -/
def ArgR (P : Program) (w : World) (ok top : Nat → Prop) (m : Mode) (u : Value) (x : V) (fp : List Nat) : Prop :=
  match m with
  | .rd => (∀ ρ, En w ok ρ u x) ∧ fp = []
  | .io => ∃ cs, x = .agg cs ∧ GivO P w ok top u (.obx cs) fp
  | .mv | .iov => (∀ cs, x ≠ .obx cs) ∧ GivO P w ok top u x fp
inductive ArgsR (P : Program) (w : World) (ok top : Nat → Prop) : List Mode → List Value → List V → List Nat → Prop
  | nil {ms : List Mode} : ArgsR P w ok top ms [] [] []
  | cons {ms : List Mode} {u : Value} {us : List Value} {x : V} {xs : List V} {f1 f2 : List Nat} (h : ArgR P w ok top (ms.headD .rd) u x f1) (hs : ArgsR P w ok top ms.tail us xs f2) : ArgsR P w ok top ms (u :: us) (x :: xs) (f1 ++ f2)
/-- .. ahead of what is only read. -/
def ArgP (P : Program) (w : World) (ok top : Nat → Prop) (ρ : Rho) (m : Mode) (u : Value) (x : V) (fp : List Nat) : Prop :=
  match m with
  | .rd => En w ok ρ u x ∧ fp = []
  | .io => ∃ cs, x = .agg cs ∧ GivO P w ok top u (.obx cs) fp
  | .mv | .iov => (∀ cs, x ≠ .obx cs) ∧ GivO P w ok top u x fp
inductive ArgsP (P : Program) (w : World) (ok top : Nat → Prop) (ρ : Rho) : List Mode → List Value → List V → List Nat → Prop
  | nil {ms : List Mode} : ArgsP P w ok top ρ ms [] [] []
  | cons {ms : List Mode} {u : Value} {us : List Value} {x : V} {xs : List V} {f1 f2 : List Nat} (h : ArgP P w ok top ρ (ms.headD .rd) u x f1) (hs : ArgsP P w ok top ρ ms.tail us xs f2) : ArgsP P w ok top ρ ms (u :: us) (x :: xs) (f1 ++ f2)

theorem Giv.okm {P : Program} {w : World} {ok ok' top : Nat → Prop} {v : Value} {x : V} {fp : List Nat} (h : Giv P w ok top v x fp) (ht : ∀ g, ok g → ok' g) : Giv P w ok' top v x fp := by
  cases h with
  | lit h => exact .lit h
  | tr h => exact .tr (Rd.okm h ht)
  | own h k => exact .own h k
theorem GivL.okm {P : Program} {w : World} {ok ok' top : Nat → Prop} {v : List Value} {x : List V} {fp : List Nat} (h : GivL P w ok top v x fp) (ht : ∀ g, ok g → ok' g) : GivL P w ok' top v x fp := by
  induction h with
  | nil => exact .nil
  | cons h _ ih => exact .cons (h.okm ht) ih
theorem GivO.okm {P : Program} {w : World} {ok ok' top : Nat → Prop} {v : Value} {x : V} {fp : List Nat} (h : GivO P w ok top v x fp) (ht : ∀ g, ok g → ok' g) : GivO P w ok' top v x fp := by
  cases x
  case agg cs => obtain ⟨us, h1, h2⟩ := h; exact ⟨us, h1, h2.okm ht⟩
  case obx cs => obtain ⟨g, cur, e, fp', h1, h2, h3, h4, h5⟩ := h; exact ⟨g, cur, e, fp', h1, h2, h3.okm ht, h4, h5⟩
  all_goals exact Giv.okm h ht
theorem ArgP.top {P : Program} {w : World} {ok top top' : Nat → Prop} {ρ : Rho} {m : Mode} {u : Value} {x : V} {fp : List Nat} (h : ArgP P w ok top ρ m u x fp) (ht : ∀ g, top g → top' g) : ArgP P w ok top' ρ m u x fp := by
  cases m
  · exact h
  · obtain ⟨cs, h1, h2⟩ := h; exact ⟨cs, h1, h2.top ht⟩
  · exact ⟨h.1, h.2.top ht⟩
  · exact ⟨h.1, h.2.top ht⟩
theorem ArgsP.top {P : Program} {w : World} {ok top top' : Nat → Prop} {ρ : Rho} {ms : List Mode} {us : List Value} {xs : List V} {fp : List Nat} (h : ArgsP P w ok top ρ ms us xs fp) (ht : ∀ g, top g → top' g) : ArgsP P w ok top' ρ ms us xs fp := by
  induction h with
  | nil => exact .nil
  | cons h _ ih => exact .cons (h.top ht) ih

section
variable {P : Program} {B : Nat} {io : Nat → Prop} {w w' : World} {tmps : Array Value} {s s' s1 : St} {ρ ρ' : Rho} {F F' : Id → List Nat} {fl fl' : List Nat} {ok ok' top : Nat → Prop}

/-- A variable of the activation's own, as it stood at first, read cell by cell. -/
theorem Rel.boxCellsEn (h : Rel P B io w tmps s ρ F fl) {id : Id} : ∀ b row, s.heap id = some b → b.rows = [row] → b.box = true → ∀ (j : Nat) (cur : Array Value) (e : TypeId) (g o c sz : Nat) (v : Value) (x : V), ρ id = some (.blk g o c sz) → w.heap[g]? = some (.cells cur e (0, 0)) → cur[j]? = some v → row[j]? = some x → En w (okS s ρ w) ρ v x := by
  intro b row hb hr hbox j cur e g o c sz v x hρ hg hv hx
  have hB := h.heap id b hb
  unfold BlkR at hB
  rw [hbox] at hB
  obtain ⟨_, g', cur', e', row', hi, hgc, hr', hs, he, hce, hF⟩ := hB
  rw [hr] at hr'
  injection hr' with hr' _
  subst hr'
  rw [hρ] at hi
  injection hi with hi
  injection hi with h1
  subst h1
  rw [hg] at hgc
  injection hgc with hgc
  injection hgc with h1
  subst h1
  exact he j v x hv hx

theorem giveArg_obx {ts : List (Option TypeId)} {x y : V} (h1 : s.giveArg ts x = some (y, s')) : ∀ cs, y ≠ .obx cs := fun cs e => by
  subst e
  unfold St.giveArg at h1
  split at h1
  · obtain ⟨_, _, he⟩ := Option.map_eq_some_iff.1 h1; simp at he
  · unfold St.giveCell at h1
    split at h1 <;> simp at h1
theorem En.thin1 {u : Value} {x : V} (h : En w ok ρ u x) : En w ok ρ u (Ev.thin1 x) := by
  unfold Ev.thin1
  split
  · cases h with
    | sl => exact .tr .emp
    | sle => exact .tr .emp
  · exact h
theorem cellish_thin1 {x : V} (h : cellish x = true) : cellish (thin1 x) = true := by
  unfold thin1
  split
  · rfl
  · exact h
theorem En.thin {u : Value} {x : V} (h : En w ok ρ u x) : En w ok ρ u (Ev.thin x) := by
  unfold Ev.thin
  split
  · rename_i cs
    cases h with
    | agg hl hc hr =>
      refine .agg (by simpa using hl) (fun y hy => ?_) (fun k v y hv hy => ?_)
      · obtain ⟨z, hz, rfl⟩ := List.mem_map.1 hy
        exact cellish_thin1 (hc z hz)
      · rw [List.getElem?_map] at hy
        obtain ⟨z, hz, rfl⟩ := Option.map_eq_some_iff.1 hy
        exact (hr k v z hv hz).thin1
  · exact h.thin1

theorem gives_ok (h0 : Rel P B io w tmps s ρ F fl) : ∀ (xs : List V) {us : List Value} {ts : List TypeId} {ms : List Mode} {s1 s' : St} {fl1 : List Nat} {ys : List V}, Rel P B io w tmps s1 ρ F fl1 → Less s s1 → us.length = xs.length →
    (∀ (j : Nat) (u : Value) (x : V), us[j]? = some u → xs[j]? = some x → En w (okS s ρ w) ρ u x) → s1.gives P ts ms xs = some (ys, s') → ∃ fp, Rel P B io w tmps s' ρ F (fp ++ fl1) ∧ ArgsP P w (okS s ρ w) (Killed s1 s' ρ F) ρ ms us ys fp ∧ Less s1 s' := by
  intro xs
  induction xs with
  | nil =>
    intro us ts ms s1 s' fl1 ys h hless hl hen hg
    have : us = [] := List.eq_nil_of_length_eq_zero (by simpa using hl)
    subst this
    simp only [St.gives, Option.some.injEq, Prod.mk.injEq] at hg
    obtain ⟨rfl, rfl⟩ := hg
    exact ⟨[], h, .nil, .refl _⟩
  | cons x xs ih =>
    intro us ts ms s1 s' fl1 ys h hless hl hen hg
    match us, hl with
    | u :: us, hl =>
      simp only [St.gives] at hg
      obtain ⟨⟨y, s2⟩, h1, hg⟩ := Option.bind_eq_some_iff.1 hg
      obtain ⟨⟨zs, s3⟩, h2, hg⟩ := Option.map_eq_some_iff.1 hg
      simp only [Prod.mk.injEq] at hg
      obtain ⟨rfl, rfl⟩ := hg
      simp only at h2
      have hu := hen 0 u x rfl rfl
      have hok : ∀ g, okS s ρ w g → okS s1 ρ w g := fun g hg => okS_less hless hg
      have one : ∃ fp, Rel P B io w tmps s2 ρ F (fp ++ fl1) ∧ ArgP P w (okS s ρ w) (Killed s1 s2 ρ F) ρ (ms.headD .rd) u y fp ∧ Less s1 s2 := by
        unfold St.give at h1
        split at h1
        · rename_i hm
          simp only [Option.some.injEq, Prod.mk.injEq] at h1
          obtain ⟨rfl, rfl⟩ := h1
          rw [hm]
          exact ⟨[], h, ⟨hu, rfl⟩, .refl _⟩
        · rename_i hm
          rw [hm]
          split at h1
          · rename_i bid _
            obtain ⟨⟨cs, s4⟩, h3, he⟩ := Option.map_eq_some_iff.1 h1
            simp only [Prod.mk.injEq] at he
            obtain ⟨rfl, rfl⟩ := he
            obtain ⟨fp, a, b, c, _⟩ := giveBox_ok h hu hok (fun b row hb => h0.boxCellsEn b row (hless.sub bid b hb)) h3
            exact ⟨fp, a, ⟨cs, rfl, b⟩, c⟩
          · cases h1
        · rename_i hm
          rw [hm]
          obtain ⟨fp, a, b, c⟩ := giveArg_ok h hu hok h1
          exact ⟨fp, a, ⟨giveArg_obx h1, b⟩, c⟩
        · rename_i hm
          rw [hm]
          obtain ⟨fp, a, b, c⟩ := giveArg_ok h hu.thin hok h1
          exact ⟨fp, a, ⟨giveArg_obx h1, b⟩, c⟩
      obtain ⟨f1, r1, a1, l1⟩ := one
      obtain ⟨f2, r2, a2, l2⟩ := ih r1 (hless.trans l1) (by simpa using hl) (fun j v z hv hz => hen (j + 1) v z (by simpa using hv) (by simpa using hz)) h2
      refine ⟨f1 ++ f2, r2.perm ?_, .cons (a1.top fun g hg => hg.left l2) (a2.top fun g hg => hg.right l1), l1.trans l2⟩
      rw [List.append_assoc]
      exact (List.perm_append_comm_assoc _ _ _)

/-- What an alive number's first block is. -/
def Alive (s1 : St) (ρ : Rho) (ok : Nat → Prop) : Prop := ∀ id b g o c sz, s1.heap id = some b → b.own = true → ρ id = some (.blk g o c sz) → ok g

theorem rdCell_ok (h : Rel P B io w tmps s ρ F fl) (hl : Less s s1) {u : Value} {x y : V} (hu : En w (okS s ρ w) ρ u x) (hok : ∀ g, okS s ρ w g → ok' g) (hp : plainC x = true ∨ Alive s1 ρ ok') (hr : s1.rdCell x = some y) : Rd w ok' u y := by
  unfold St.rdCell at hr
  split at hr
  · simp only [Option.some.injEq] at hr; subst hr; cases hu; exact .emp
  · simp only [Option.some.injEq] at hr; subst hr; cases hu with | lit h => exact .lit h
  · simp only [Option.some.injEq] at hr; subst hr; cases hu with | tr h => exact h.okm hok
  · simp only [Option.some.injEq] at hr; subst hr; cases hu with | vw h => exact h.okm hok
  · rename_i id off len
    obtain ⟨rows, hrows, rfl⟩ := Option.map_eq_some_iff.1 hr
    have hal : Alive s1 ρ ok' := by
      rcases hp with hp | hp
      · simp [plainC] at hp
      · exact hp
    have hrows' : s.rowsOf (.sl id off len) = some rows := by
      simp only [St.rowsOf] at hrows ⊢
      obtain ⟨b, hb, hh⟩ := Option.bind_eq_some_iff.1 hrows
      rw [hl.sub id b hb]; exact hh
    have halive : ∃ b, s1.heap id = some b := by
      unfold St.rowsOf at hrows
      obtain ⟨b, hb, _⟩ := Option.bind_eq_some_iff.1 hrows
      exact ⟨b, hb⟩
    refine h.rowsOf hu hrows' hok (fun id' off' len' b g o c sz e hb ho hρ _ _ => ?_)
    cases e
    obtain ⟨b', hb'⟩ := halive
    have := hl.sub id b' hb'
    rw [hb] at this
    injection this with this
    subst this
    exact hal id b g o c sz hb' ho hρ
  · simp only [Option.some.injEq] at hr
    subst hr
    cases hu with
    | rp h =>
      cases h with
      | rp hg hu hr => exact (Rd.rp hg hu hr).okm hok
  · cases hr

theorem rdCells_ok (h : Rel P B io w tmps s ρ F fl) (hl : Less s s1) (hok : ∀ g, okS s ρ w g → ok' g) : ∀ (xs : List V) {ys : List V} {us : Nat → Value}, (∀ (j : Nat) (x : V), xs[j]? = some x → En w (okS s ρ w) ρ (us j) x) → (xs.all plainC = true ∨ Alive s1 ρ ok') → s1.rdCells xs = some ys →
    ys.length = xs.length ∧ ∀ (j : Nat) (y : V), ys[j]? = some y → Rd w ok' (us j) y := by
  intro xs
  induction xs with
  | nil =>
    intro ys us _ _ hr
    simp only [St.rdCells, Option.some.injEq] at hr
    subst hr
    exact ⟨rfl, fun j y hy => by simp at hy⟩
  | cons x xs ih =>
    intro ys us hen hp hr
    simp only [St.rdCells] at hr
    obtain ⟨y, h1, hr⟩ := Option.bind_eq_some_iff.1 hr
    obtain ⟨zs, h2, rfl⟩ := Option.map_eq_some_iff.1 hr
    obtain ⟨l, e⟩ := ih (us := fun j => us (j + 1)) (fun j z hz => hen (j + 1) z (by simpa using hz)) (hp.imp (fun h => by simp only [List.all_cons, Bool.and_eq_true] at h; exact h.2) (fun h => h)) h2
    refine ⟨by simp [l], fun j z hz => ?_⟩
    cases j with
    | zero =>
      have : y = z := by simpa using hz
      subst this
      exact rdCell_ok h hl (hen 0 x rfl) hok (hp.imp (fun h => by simp only [List.all_cons, Bool.and_eq_true] at h; exact h.1) (fun h => h)) h1
    | succ j => exact e j z (by simpa using hz)

theorem rdPlace_ok (h : Rel P B io w tmps s ρ F fl) (hl : Less s s1) {u : Value} {x y : V} (hu : En w (okS s ρ w) ρ u x) (hok : ∀ g, okS s ρ w g → ok' g) (hp : plainC x = true ∨ Alive s1 ρ ok') (hr : s1.rdPlace x = some y) : Rd w ok' u y := by
  unfold St.rdPlace at hr
  split at hr
  · rename_i id i off
    obtain ⟨b, hb, hr⟩ := Option.bind_eq_some_iff.1 hr
    split at hr
    case isFalse => cases hr
    rename_i hown
    obtain ⟨row, hrow, hr⟩ := Option.bind_eq_some_iff.1 hr
    obtain ⟨cs, hcs, rfl⟩ := Option.map_eq_some_iff.1 hr
    have hal : Alive s1 ρ ok' := by
      rcases hp with hp | hp
      · simp [plainC] at hp
      · exact hp
    have hb0 := hl.sub id b hb
    generalize hq : V.ptr id i off = q at hu
    cases hu <;> cases hq
    rename_i g o c sz hρ
    have hcell : ∀ (j : Nat) (x : V), row[j]? = some x → ∃ u, w.cell? ⟨g, o + i * sz + j, none⟩ = some u ∧ En w (okS s ρ w) ρ u x := fun j x hx => by
      obtain ⟨u, h1, h2, h3⟩ := h.cell hb0 hρ hrow hx
      cases hbox : b.box with
      | true => exact ⟨u, h1, h2 hbox⟩
      | false => exact ⟨u, h1, (h3 hbox).en⟩
    have each : ∀ j, ∃ u : Value, ∀ x, row[j]? = some x → w.cell? ⟨g, o + i * sz + j, none⟩ = some u ∧ En w (okS s ρ w) ρ u x := fun j => by
      cases hj : row[j]? with
      | none => exact ⟨undef, fun x hx => by cases hx⟩
      | some z =>
        obtain ⟨u, h1, h2⟩ := hcell j z hj
        exact ⟨u, fun x hx => by injection hx with hx; subst hx; exact ⟨h1, h2⟩⟩
    obtain ⟨uf, huf⟩ := Classical.axiomOfChoice each
    obtain ⟨l, e⟩ := rdCells_ok h hl hok row (us := uf) (fun j x hx => (huf j x hx).2) (.inr hal) hcs
    refine .rp (u := uf) (hal id b g o c sz hb hown hρ) (fun j y hy => ?_) (fun j y hy => e j y hy)
    have hlt := (List.getElem?_eq_some_iff.1 hy).1
    exact (huf j _ (List.getElem?_eq_getElem (by omega))).1
  · exact rdCell_ok h hl hu hok hp hr

theorem rdPlaces_ok (h : Rel P B io w tmps s ρ F fl) (hl : Less s s1) (hok : ∀ g, okS s ρ w g → ok' g) : ∀ (xs : List V) {ys : List V} {us : Nat → Value}, (∀ (j : Nat) (x : V), xs[j]? = some x → En w (okS s ρ w) ρ (us j) x) → (xs.all plainC = true ∨ Alive s1 ρ ok') → s1.rdPlaces xs = some ys →
    ys.length = xs.length ∧ ∀ (j : Nat) (y : V), ys[j]? = some y → Rd w ok' (us j) y := by
  intro xs
  induction xs with
  | nil =>
    intro ys us _ _ hr
    simp only [St.rdPlaces, Option.some.injEq] at hr
    subst hr
    exact ⟨rfl, fun j y hy => by simp at hy⟩
  | cons x xs ih =>
    intro ys us hen hp hr
    simp only [St.rdPlaces] at hr
    obtain ⟨y, h1, hr⟩ := Option.bind_eq_some_iff.1 hr
    obtain ⟨zs, h2, rfl⟩ := Option.map_eq_some_iff.1 hr
    obtain ⟨l, e⟩ := ih (us := fun j => us (j + 1)) (fun j z hz => hen (j + 1) z (by simpa using hz)) (hp.imp (fun h => by simp only [List.all_cons, Bool.and_eq_true] at h; exact h.2) (fun h => h)) h2
    refine ⟨by simp [l], fun j z hz => ?_⟩
    cases j with
    | zero =>
      have : y = z := by simpa using hz
      subst this
      exact rdPlace_ok h hl (hen 0 x rfl) hok (hp.imp (fun h => by simp only [List.all_cons, Bool.and_eq_true] at h; exact h.1) (fun h => h)) h1
    | succ j => exact e j z (by simpa using hz)

theorem rdArg_ok (h : Rel P B io w tmps s ρ F fl) (hl : Less s s1) {u : Value} {x y : V} (hu : En w (okS s ρ w) ρ u x) (hok : ∀ g, okS s ρ w g → ok' g) (hp : plain x = true ∨ Alive s1 ρ ok') (hr : s1.rdArg x = some y) (ρ' : Rho) : En w ok' ρ' u y := by
  unfold St.rdArg at hr
  split at hr
  · rename_i cs
    obtain ⟨ys, h1, rfl⟩ := Option.map_eq_some_iff.1 hr
    cases hu with
    | @agg vs _ hlen hc hr =>
      obtain ⟨l, e⟩ := rdCells_ok h hl hok cs (us := fun j => vs.getD j undef) (fun j x hx => by
        have hlt := (List.getElem?_eq_some_iff.1 hx).1
        have hv : vs[j]? = some vs[j] := Array.getElem?_eq_getElem (by omega)
        rw [Array.getD_eq_getD_getElem?, hv]
        exact hr j _ x hv hx) hp h1
      refine .agg (by omega) (fun y hy => ?_) (fun j v y hv hy => ?_)
      · obtain ⟨j, hj⟩ := List.getElem?_of_mem hy
        exact (e j y hj).cellish
      · have := e j y hy
        rw [Array.getD_eq_getD_getElem?, hv] at this
        exact this.en
  · rename_i f caps
    obtain ⟨ys, h1, rfl⟩ := Option.map_eq_some_iff.1 hr
    cases hu with
    | @fn _ vs _ hlen hr =>
      obtain ⟨l, e⟩ := rdPlaces_ok h hl hok caps (us := fun j => vs.getD j undef) (fun j x hx => by
        have hlt := (List.getElem?_eq_some_iff.1 hx).1
        have hv : vs[j]? = some vs[j] := Array.getElem?_eq_getElem (by omega)
        rw [Array.getD_eq_getD_getElem?, hv]
        exact hr j _ x hv hx) hp h1
      refine .fn (by omega) (fun j v y hv hy => ?_)
      have := e j y hy
      rw [Array.getD_eq_getD_getElem?, hv] at this
      exact this.en
  · rename_i h1 h2
    refine (rdPlace_ok h hl hu hok (hp.imp (fun hp => ?_) (fun h => h)) hr).en
    cases x <;> first | exact hp | exact absurd rfl (h1 _) | exact absurd rfl (h2 _ _)

theorem rdAll_ok (h : Rel P B io w tmps s ρ F fl) (hl : Less s s1) (hok : ∀ g, okS s ρ w g → ok' g) : ∀ {ms : List Mode} {us : List Value} {xs ys : List V} {fp : List Nat}, ArgsP P w (okS s ρ w) top ρ ms us xs fp → (plains ms xs = true ∨ Alive s1 ρ ok') → s1.rdAll ms xs = some ys → ArgsR P w ok' top ms us ys fp := by
  intro ms us xs ys fp ha
  induction ha generalizing ys with
  | nil =>
    intro _ hr
    simp only [St.rdAll, Option.some.injEq] at hr
    subst hr
    exact .nil
  | @cons ms u us x xs f1 f2 hx hxs ih =>
    intro hp hr
    simp only [St.rdAll] at hr
    obtain ⟨y, h1, hr⟩ := Option.bind_eq_some_iff.1 hr
    obtain ⟨zs, h2, rfl⟩ := Option.map_eq_some_iff.1 hr
    refine .cons ?_ (ih (hp.imp (fun h => by simp only [plains, Bool.and_eq_true] at h; exact h.2) (fun h => h)) h2)
    have hp1 := hp.imp (fun h => by simp only [plains, Bool.and_eq_true] at h; exact h.1) (fun h : Alive s1 ρ ok' => h)
    cases hm : ms.headD .rd with
    | rd =>
      rw [hm] at hx h1 hp1
      simp only [St.rdArgM] at h1
      simp only [plainM] at hp1
      exact ⟨fun ρ' => rdArg_ok h hl hx.1 hok hp1 h1 ρ', hx.2⟩
    | io =>
      rw [hm] at hx h1
      simp only [St.rdArgM, Option.some.injEq] at h1
      subst h1
      obtain ⟨cs, h1, h2⟩ := hx
      exact ⟨cs, h1, h2.okm hok⟩
    | mv =>
      rw [hm] at hx h1
      simp only [St.rdArgM, Option.some.injEq] at h1
      subst h1
      exact ⟨hx.1, hx.2.okm hok⟩
    | iov =>
      rw [hm] at hx h1
      simp only [St.rdArgM, Option.some.injEq] at h1
      subst h1
      exact ⟨hx.1, hx.2.okm hok⟩
end
end Go.Proofs.Ytolbhpampnjinaa.Ev
/- Regions whose operations come up in their own order. No condition. -/
namespace Go.Proofs.Ytolbhpampnjinaa.Ev
open Go Go.RowKit
set_option linter.unusedVariables false
set_option linter.unusedSimpArgs false
section
variable {P : Program} {B : Nat} {io : Nat → Prop} {w w' : World} {a a' : Act} {s s' : St} {ρ ρ' : Rho} {F F' : Id → List Nat} {fl : List Nat} {k : Nat} {o : Oper} {v : V} {M : Hints} {C : CallF} {ops : Array Oper}

/-- What stands behind a piece of code. -/
def After (P : Program) (B : Nat) (io : Nat → Prop) (fl : List Nat) (w : World) (a : Act) (ρ : Rho) (s' : St) (a' : Act) (w' : World) : Prop :=
  ∃ ρ' F', Rel P B io w' a'.tmps s' ρ' F' fl ∧ Left B io w w' ∧ (∀ id i, ρ id = some i → ρ' id = some i) ∧ a'.tmps.size = a.tmps.size ∧ a'.defers = a.defers
theorem After.refl (h : Rel P B io w a.tmps s ρ F fl) : After P B io fl w a ρ s a w := ⟨ρ, F, h, Left.refl _ _ _, fun _ _ h => h, rfl, rfl⟩
theorem After.trans {w1 : World} {a1 : Act} {ρ1 : Rho} (hl : Left B io w w1) (hρ : ∀ id i, ρ id = some i → ρ1 id = some i) (ht : a1.tmps.size = a.tmps.size) (hd : a1.defers = a.defers) (h : After P B io fl w1 a1 ρ1 s' a' w') : After P B io fl w a ρ s' a' w' := by
  obtain ⟨ρ', F', h1, h2, h3, h4, h5⟩ := h
  exact ⟨ρ', F', h1, hl.trans h2, fun id i h => h3 id i (hρ id i h), h4.trans ht, h5.trans hd⟩

theorem Rel.putv (h : Rel P B io w a.tmps s ρ F fl) {dst : Option Tmp} {u : Value} (hd : ∀ d, dst = some d → d < a.tmps.size) (hv : En w (okS s ρ w) ρ u v) : Rel P B io w (a.put dst u).tmps (s.put dst v) ρ F fl := by
  cases dst with
  | none => exact h
  | some d =>
    have hlt := hd d rfl
    exact { h with
      env := fun t x hx => by
        simp only [Act.put] at hx
        simp only [St.put, upd]
        by_cases e : t = d
        · subst e
          rw [Array.getElem?_setIfInBounds, if_pos rfl, if_pos hlt] at hx
          injection hx with hx
          subst hx
          rw [if_pos rfl]; exact hv
        · rw [Array.getElem?_setIfInBounds, if_neg (fun hh => e hh.symm)] at hx
          rw [if_neg e]; exact h.env t x hx
      out := fun t ht => by
        simp only [Act.put, Array.size_setIfInBounds] at ht
        simp only [St.put, upd]
        rw [if_neg (fun e => absurd hlt (by rw [← e]; exact Nat.not_lt.2 ht))]
        exact h.out t ht }
theorem put_size (a : Act) (dst : Option Tmp) (u : Value) : (a.put dst u).tmps.size = a.tmps.size := by cases dst <;> simp [Act.put]
theorem put_defers (a : Act) (dst : Option Tmp) (u : Value) : (a.put dst u).defers = a.defers := by cases dst <;> rfl
theorem put_ep (s : St) (dst : Option Tmp) (v : V) : (s.put dst v).ep = s.ep := by cases dst <;> rfl
theorem put_heap (s : St) (dst : Option Tmp) (v : V) : (s.put dst v).heap = s.heap := by cases dst <;> rfl

theorem wanted_ok (h : Rel P B io w a.tmps s ρ F fl) {g : Bool} (hw : wanted s ops o = some g) : Region.wanted o (yielded ops a.tmps) = g := by
  unfold wanted at hw
  unfold Region.wanted
  split at hw
  · rename_i hg; simp only [Option.some.injEq] at hw; rw [hg]; exact hw
  · rename_i j b hg
    rw [hg]; simp only
    have hy : ∀ t, (ops[j]?).bind (·.dst) = some t → yielded ops a.tmps j = match a.tmps[t]? with | some (.bool b) => some b | _ => none := fun t ht => by
      unfold yielded
      rw [ht]; rfl
    cases ht : (ops[j]?).bind (·.dst) with
    | none => rw [ht] at hw; simp at hw
    | some t =>
      rw [ht] at hw
      simp only [Option.map_some] at hw
      rw [hy t ht]
      have key : ∀ {x : V}, s.env t = x → x ≠ .undef → ∃ u, a.tmps[t]? = some u ∧ En w (okS s ρ w) ρ u x := fun {x} hx hne => by
        by_cases hlt : t < a.tmps.size
        · have h1 : a.tmps[t]? = some a.tmps[t] := Array.getElem?_eq_getElem hlt
          exact ⟨_, h1, hx ▸ h.env t _ h1⟩
        · exact absurd (hx.symm.trans (h.out t (Nat.le_of_not_lt hlt))) hne
      split at hw
      · rename_i c heq
        simp only [Option.some.injEq] at heq hw
        obtain ⟨u, hu, hen⟩ := key heq (by simp)
        rw [hu]
        cases hen
        rw [← hw]
        cases c <;> cases b <;> rfl
      · rename_i heq
        simp only [Option.some.injEq] at heq hw
        obtain ⟨u, hu, hen⟩ := key heq (by simp)
        rw [hu]
        cases hen
        rw [← hw]
        cases b <;> rfl
      · cases hw

/-- One operation of a region. -/
theorem opStep {K : Act → World → Prop} {Q : Exit → Act → World → Prop} {i : Nat} (h : Rel P B io w a.tmps s ρ F fl) (ho : ops[i]? = some o) (hd : ∀ d, o.dst = some d → d < a.tmps.size) {g : Bool} (hw : wanted s ops o = some g)
    (hnew : g = true → ∀ id : Id, id.1 = s.ep → id.2 / 1024 = i → ρ id = none) {s1 : St} (he : g = true → evOp P M C s i o = some (v, s1)) (hcall : g = true → CallOk P B io w a.tmps s ρ fl i v s1 M C)
    (hK : ∀ a' w' ρ' F', Rel P B io w' a'.tmps (if g then s1.put o.dst v else s.put o.dst (.tup [])) ρ' F' fl → (if g then s1.put o.dst v else s.put o.dst (.tup [])).ep = s.ep → Left B io w w' → (∀ id i, ρ id = some i → ρ' id = some i) → (∀ id, (ρ' id).isSome = true → (ρ id).isSome = true ∨ (id.1 = s.ep ∧ id.2 / 1024 = i)) → a'.tmps.size = a.tmps.size → a'.defers = a.defers → K a' w') :
    wpOp P ops Q i K a w := by
  unfold wpOp
  rw [ho]
  simp only
  rw [wanted_ok h hw]
  cases g with
  | true =>
    simp only [if_true]
    refine .inl (evOp_ok h (he rfl) (hnew rfl) (hcall rfl) _ _ (fun val w' hp => ?_))
    obtain ⟨henv, hep, hl, ρ', F', hR, hen, hρ, hdom⟩ := hp
    exact hK _ _ ρ' F' (hR.putv hd hen) (by rw [if_pos rfl, put_ep]; exact hep) hl hρ hdom (put_size _ _ _) (put_defers _ _ _)
  | false =>
    simp only [Bool.false_eq_true, if_false]
    exact hK _ _ ρ F (h.putv hd (.tup (by rfl) (fun k v x hv => by simp [undef] at hv))) (by rw [if_neg (by simp), put_ep]) (Left.refl _ _ _) (fun _ _ h => h) (fun _ h => .inl h) (put_size _ _ _) (put_defers _ _ _)

/-- A call's contract, wherever it stands. -/
def CallsOk (P : Program) (M : Hints) (C : CallF) : Prop :=
  ∀ (B : Nat) (io : Nat → Prop) (w : World) (tmps : Array Value) (s : St) (ρ : Rho) (F : Id → List Nat) (fl : List Nat) (k : Nat) (v : V) (s' : St), Rel P B io w tmps s ρ F fl → (∀ id : Id, id.1 = s.ep → id.2 / 1024 = k → ρ id = none) → CallOk P B io w tmps s ρ fl k v s' M C

def opsDst (n : Nat) (l : List Oper) : Bool := l.all fun o => match o.dst with | some d => decide (d < n) | none => true
theorem opsDst_get {n : Nat} {l : List Oper} (h : opsDst n l = true) {i : Nat} {o : Oper} (ho : l[i]? = some o) : ∀ d, o.dst = some d → d < n := fun d hd => by
  have := List.all_eq_true.1 h o (List.mem_of_getElem? ho)
  rw [hd] at this
  simpa using this

theorem put_wpAt {e : Nat} {dst : Option Tmp} : (s.put dst v).ep = e ↔ s.ep = e := by rw [put_ep]

theorem evOps_ok {C : Nat → CallF} {Q : Exit → Act → World → Prop} (hC : ∀ k, CallsOk P M (C k)) : ∀ (l : List Oper) {k : Nat} {s s' : St} {a : Act} {w : World} {ρ : Rho} {F : Id → List Nat}, Rel P B io w a.tmps s ρ F fl → (∀ j, l[j]? = ops[k + j]?) → opsDst a.tmps.size ops.toList = true →
    (∀ id : Id, id.1 = s.ep → k ≤ id.2 / 1024 → ρ id = none) → evOps P M C ops s k l = some s' → (∀ a' w', After P B io fl w a ρ s' a' w' → Q .normal a' w') → wpOps P ops Q (List.range' k l.length) a w := by
  intro l
  induction l with
  | nil =>
    intro k s s' a w ρ F h _ _ _ he hQ
    simp only [evOps, Option.some.injEq] at he
    subst he
    exact hQ _ _ (.refl h)
  | cons o l ih =>
    intro k s s' a w ρ F h hl hds hnew he hQ
    have h0 : ops[k]? = some o := by simpa using (hl 0).symm
    simp only [evOps] at he
    obtain ⟨g, hg, he⟩ := Option.bind_eq_some_iff.1 he
    simp only [List.length_cons, List.range'_succ]
    rw [wpOps_cons]
    have hd := opsDst_get hds (i := k) (o := o) (by simpa using h0)
    have hlt : ∀ (id : Id), id.1 = s.ep → id.2 / 1024 = k → ρ id = none := fun id h1 h2 => hnew id h1 (by omega)
    have go : ∀ {s2 : St} {a' : Act} {w' : World} {ρ' : Rho} {F' : Id → List Nat}, Rel P B io w' a'.tmps s2 ρ' F' fl → s2.ep = s.ep → Left B io w w' → (∀ id i, ρ id = some i → ρ' id = some i) → (∀ id, (ρ' id).isSome = true → (ρ id).isSome = true ∨ (id.1 = s.ep ∧ id.2 / 1024 = k)) →
        a'.tmps.size = a.tmps.size → a'.defers = a.defers → evOps P M C ops s2 (k + 1) l = some s' → wpOps P ops Q (List.range' (k + 1) l.length) a' w' := by
      intro s2 a' w' ρ' F' hR hep hLf hρ hdom hts hdf he2
      refine ih hR (fun j => by have := hl (j + 1); simpa [Nat.add_assoc, Nat.add_comm 1 j] using this) (by rw [hts]; exact hds) (fun id h1 h2 => ?_) he2 (fun a2 w2 hA => hQ _ _ (.trans hLf hρ hts hdf hA))
      cases hr : ρ' id with
      | none => rfl
      | some i =>
        rcases hdom id (by rw [hr]; rfl) with h3 | ⟨_, h3⟩
        · rw [hnew id (by rw [← hep]; exact h1) (by omega)] at h3; cases h3
        · omega
    cases g with
    | true =>
      simp only [if_true] at he
      obtain ⟨⟨v, s1⟩, h1, he⟩ := Option.bind_eq_some_iff.1 he
      refine opStep (M := M) (C := C k) (v := v) (s1 := s1) h h0 hd hg (fun _ => hlt) (fun _ => h1) (fun _ => hC k _ _ _ _ _ _ F _ _ _ _ h hlt) (fun a' w' ρ' F' hR hep hLf hρ hdom hts hdf => ?_)
      simp only [if_true] at hR hep
      exact go hR hep hLf hρ hdom hts hdf he
    | false =>
      simp only [Bool.false_eq_true, if_false] at he
      refine opStep (M := M) (C := C k) (v := .undef) (s1 := s) h h0 hd hg (fun hf => by cases hf) (fun hf => by cases hf) (fun hf => by cases hf) (fun a' w' ρ' F' hR hep hLf hρ hdom hts hdf => ?_)
      simp only [Bool.false_eq_true, if_false] at hR hep
      exact go hR hep hLf hρ hdom hts hdf he
end
end Go.Proofs.Ytolbhpampnjinaa.Ev
/- The evaluator looks at what it names alone: more blocks in the state change nothing. No condition. -/
namespace Go.Proofs.Ytolbhpampnjinaa.Ev
open Go
set_option linter.unusedVariables false
set_option linter.unusedSimpArgs false

/-- t has all of s, and more blocks, at the ids of D. -/
structure Ext (D : Id → Prop) (s t : St) : Prop where
  ep : t.ep = s.ep
  out : ∀ id, ¬ D id → t.heap id = s.heap id
  abs : ∀ id, D id → s.heap id = none
/-- .. and these stay. -/
def Ext2 (D : Id → Prop) (t s' t' : St) : Prop := Ext D s' t' ∧ (∀ id, D id → t'.heap id = t.heap id) ∧ t'.env = t.env ∧ t'.ep = t.ep

section
variable {D : Id → Prop} {s t s' : St} {P : Program}

theorem Ext.notD (h : Ext D s t) {id : Id} {b : Blk} (hb : s.heap id = some b) : ¬ D id := fun hd => by rw [h.abs id hd] at hb; cases hb
theorem Ext.get (h : Ext D s t) {id : Id} {b : Blk} (hb : s.heap id = some b) : t.heap id = some b := by rw [h.out id (h.notD hb)]; exact hb
theorem Ext.two (h : Ext D s t) : Ext2 D t s t := ⟨h, fun _ _ => rfl, rfl, rfl⟩
theorem Ext2.trans {t1 s1 s2 t2 : St} (h : Ext2 D t s1 t1) (k : Ext2 D t1 s2 t2) : Ext2 D t s2 t2 := ⟨k.1, fun id hd => (k.2.1 id hd).trans (h.2.1 id hd), k.2.2.1.trans h.2.2.1, k.2.2.2.trans h.2.2.2⟩
theorem Ext.kill (h : Ext D s t) {id : Id} (hd : ¬ D id) : Ext2 D t (s.kill id) (t.kill id) := by
  refine ⟨⟨h.ep, fun id' hd' => ?_, fun id' hd' => ?_⟩, fun id' hd' => ?_, rfl, rfl⟩
  · simp only [St.kill, upd]; split
    · rfl
    · exact h.out id' hd'
  · simp only [St.kill, upd]; split
    · rfl
    · exact h.abs id' hd'
  · simp only [St.kill, upd]; rw [if_neg (show ¬ id' = id from fun e => hd (by rw [← e]; exact hd'))]
theorem Ext.setB (h : Ext D s t) {id : Id} {b : Blk} (hd : ¬ D id) : Ext2 D t (s.setB id b) (t.setB id b) := by
  refine ⟨⟨h.ep, fun id' hd' => ?_, fun id' hd' => ?_⟩, fun id' hd' => ?_, rfl, rfl⟩
  · simp only [St.setB, upd]; split
    · rfl
    · exact h.out id' hd'
  · simp only [St.setB, upd]; rw [if_neg (show ¬ id' = id from fun e => hd (by rw [← e]; exact hd'))]; exact h.abs id' hd'
  · simp only [St.setB, upd]; rw [if_neg (show ¬ id' = id from fun e => hd (by rw [← e]; exact hd'))]
theorem Ext.rowsOf (h : Ext D s t) {x : V} {r : List (List V)} (hr : s.rowsOf x = some r) : t.rowsOf x = some r := by
  unfold St.rowsOf at hr ⊢
  split at hr
  · obtain ⟨b, hb, hr⟩ := Option.bind_eq_some_iff.1 hr
    simp only [h.get hb, Option.bind_some]; exact hr
  · exact hr
  · exact hr
  · exact hr
  · cases hr
theorem Ext.whole (h : Ext D s t) {id : Id} {off len : Nat} {r : TypeId × List (List V)} (hr : s.whole id off len = some r) : t.whole id off len = some r ∧ ¬ D id := by
  unfold St.whole at hr ⊢
  obtain ⟨b, hb, hr⟩ := Option.bind_eq_some_iff.1 hr
  exact ⟨by simp only [h.get hb, Option.bind_some]; exact hr, h.notD hb⟩

theorem Ext.sink : ∀ (xs : List V) {s t : St} {ys : List V} {c : Bool} {s' : St}, Ext D s t → s.sink xs = some (ys, c, s') → ∃ t', t.sink xs = some (ys, c, t') ∧ Ext2 D t s' t' := by
  intro xs
  induction xs with
  | nil =>
    intro s t ys c s' h hs
    simp only [St.sink, Option.some.injEq, Prod.mk.injEq] at hs
    obtain ⟨rfl, rfl, rfl⟩ := hs
    exact ⟨t, rfl, h.two⟩
  | cons x xs ih =>
    intro s t ys c s' h hs
    have step : ∀ {y : V} {f : Bool → Bool}, ((s.sink xs).map fun q => (y :: q.1, f q.2.1, q.2.2)) = some (ys, c, s') → ∃ t', ((t.sink xs).map fun q => (y :: q.1, f q.2.1, q.2.2)) = some (ys, c, t') ∧ Ext2 D t s' t' := by
      intro y f hs
      obtain ⟨⟨q1, q2, q3⟩, hq, he⟩ := Option.map_eq_some_iff.1 hs
      simp only [Prod.mk.injEq] at he
      obtain ⟨rfl, rfl, rfl⟩ := he
      obtain ⟨t', h1, h2⟩ := ih h hq
      exact ⟨t', by rw [h1]; rfl, h2⟩
    unfold St.sink at hs ⊢
    split at hs
    · exact step (f := fun b => b) hs
    · rename_i hne
      exact step (f := fun b => b) hs
    · exact step (f := fun _ => false) hs
    · exact step (f := fun _ => false) hs
    · rename_i id off len
      split at hs
      · rename_i er hw
        obtain ⟨hw', hd⟩ := h.whole hw
        obtain ⟨⟨q1, q2, q3⟩, hq, he⟩ := Option.map_eq_some_iff.1 hs
        simp only [Prod.mk.injEq] at he
        obtain ⟨rfl, rfl, rfl⟩ := he
        obtain ⟨t', h1, h2⟩ := ih (h.kill hd).1 hq
        refine ⟨t', by rw [hw']; simp only [h1]; rfl, (h.kill hd).trans h2⟩
      · rename_i hw
        split at hs
        · rename_i b hb
          split at hs
          · rename_i hown
            obtain ⟨rows, hrows, hs⟩ := Option.bind_eq_some_iff.1 hs
            obtain ⟨t', h1, h2⟩ := step (f := fun _ => false) hs
            have hb' := h.get hb
            have hw' : t.whole id off len = none := by
              unfold St.whole at hw ⊢
              rw [hb'] ; rw [hb] at hw; exact hw
            exact ⟨t', by rw [hw', hb']; simp only [hown, if_true, h.rowsOf hrows, Option.bind_some]; exact h1, h2⟩
          · cases hs
        · cases hs
    · cases hs
theorem Ext.sinkRows : ∀ (xs : List (List V)) {s t : St} {ys : List (List V)} {c : Bool} {s' : St}, Ext D s t → s.sinkRows xs = some (ys, c, s') → ∃ t', t.sinkRows xs = some (ys, c, t') ∧ Ext2 D t s' t' := by
  intro xs
  induction xs with
  | nil =>
    intro s t ys c s' h hs
    simp only [St.sinkRows, Option.some.injEq, Prod.mk.injEq] at hs
    obtain ⟨rfl, rfl, rfl⟩ := hs
    exact ⟨t, rfl, h.two⟩
  | cons x xs ih =>
    intro s t ys c s' h hs
    simp only [St.sinkRows] at hs ⊢
    obtain ⟨⟨y1, c1, s1⟩, h1, hs⟩ := Option.bind_eq_some_iff.1 hs
    obtain ⟨⟨y2, c2, s2⟩, h2, hs⟩ := Option.map_eq_some_iff.1 hs
    simp only [Prod.mk.injEq] at hs
    obtain ⟨rfl, rfl, rfl⟩ := hs
    obtain ⟨t1, g1, e1⟩ := Ext.sink x h h1
    obtain ⟨t2, g2, e2⟩ := ih e1.1 h2
    exact ⟨t2, by rw [g1]; simp only [Option.bind_some, g2]; rfl, e1.trans e2⟩

theorem Ext.rdCell (h : Ext D s t) {x y : V} (hr : s.rdCell x = some y) : t.rdCell x = some y := by
  unfold St.rdCell at hr ⊢
  split at hr
  · exact hr
  · exact hr
  · exact hr
  · exact hr
  · obtain ⟨r, h1, rfl⟩ := Option.map_eq_some_iff.1 hr
    rw [h.rowsOf h1]; rfl
  · exact hr
  · exact hr
theorem Ext.rdCells (h : Ext D s t) : ∀ {xs ys : List V}, s.rdCells xs = some ys → t.rdCells xs = some ys := by
  intro xs
  induction xs with
  | nil => intro ys hr; exact hr
  | cons x xs ih =>
    intro ys hr
    simp only [St.rdCells] at hr ⊢
    obtain ⟨y, h1, hr⟩ := Option.bind_eq_some_iff.1 hr
    obtain ⟨zs, h2, rfl⟩ := Option.map_eq_some_iff.1 hr
    rw [h.rdCell h1]; simp only [Option.bind_some, ih h2]; rfl
theorem Ext.rdPlace (h : Ext D s t) {x y : V} (hr : s.rdPlace x = some y) : t.rdPlace x = some y := by
  unfold St.rdPlace at hr ⊢
  split at hr
  · obtain ⟨b, hb, hr⟩ := Option.bind_eq_some_iff.1 hr
    simp only [h.get hb, Option.bind_some]
    split at hr
    · rename_i ho
      rw [if_pos ho]
      obtain ⟨row, hrow, hr⟩ := Option.bind_eq_some_iff.1 hr
      obtain ⟨cs, hcs, rfl⟩ := Option.map_eq_some_iff.1 hr
      rw [hrow]; simp only [Option.bind_some, h.rdCells hcs]; rfl
    · cases hr
  · exact h.rdCell hr
theorem Ext.rdPlaces (h : Ext D s t) : ∀ {xs ys : List V}, s.rdPlaces xs = some ys → t.rdPlaces xs = some ys := by
  intro xs
  induction xs with
  | nil => intro ys hr; exact hr
  | cons x xs ih =>
    intro ys hr
    simp only [St.rdPlaces] at hr ⊢
    obtain ⟨y, h1, hr⟩ := Option.bind_eq_some_iff.1 hr
    obtain ⟨zs, h2, rfl⟩ := Option.map_eq_some_iff.1 hr
    rw [h.rdPlace h1]; simp only [Option.bind_some, ih h2]; rfl
theorem Ext.rdArg (h : Ext D s t) {x y : V} (hr : s.rdArg x = some y) : t.rdArg x = some y := by
  unfold St.rdArg at hr ⊢
  split at hr
  · obtain ⟨ys, h1, rfl⟩ := Option.map_eq_some_iff.1 hr
    simp only [h.rdCells h1]; rfl
  · obtain ⟨ys, h1, rfl⟩ := Option.map_eq_some_iff.1 hr
    simp only [h.rdPlaces h1]; rfl
  · exact h.rdPlace hr
theorem Ext.rdAll (h : Ext D s t) : ∀ {xs : List V} {ms : List Mode} {ys : List V}, s.rdAll ms xs = some ys → t.rdAll ms xs = some ys := by
  intro xs
  induction xs with
  | nil => intro ms ys hr; exact hr
  | cons x xs ih =>
    intro ms ys hr
    simp only [St.rdAll] at hr ⊢
    obtain ⟨y, h1, hr⟩ := Option.bind_eq_some_iff.1 hr
    obtain ⟨zs, h2, rfl⟩ := Option.map_eq_some_iff.1 hr
    have : t.rdArgM (ms.headD .rd) x = some y := by
      unfold St.rdArgM at h1 ⊢
      split at h1
      · exact h.rdArg h1
      · exact h1
    rw [this]; simp only [Option.bind_some, ih h2]; rfl

theorem Ext.giveCell (h : Ext D s t) {ty : Option TypeId} {x y : V} (hg : s.giveCell ty x = some (y, s')) : ∃ t', t.giveCell ty x = some (y, t') ∧ Ext2 D t s' t' := by
  unfold St.giveCell at hg ⊢
  split at hg
  · obtain ⟨e, h1, he⟩ := Option.map_eq_some_iff.1 hg
    simp only [Prod.mk.injEq] at he
    obtain ⟨rfl, rfl⟩ := he
    exact ⟨t, by rw [h1]; rfl, h.two⟩
  · simp only [Option.some.injEq, Prod.mk.injEq] at hg
    obtain ⟨rfl, rfl⟩ := hg
    exact ⟨t, rfl, h.two⟩
  · simp only [Option.some.injEq, Prod.mk.injEq] at hg
    obtain ⟨rfl, rfl⟩ := hg
    exact ⟨t, rfl, h.two⟩
  · simp only [Option.some.injEq, Prod.mk.injEq] at hg
    obtain ⟨rfl, rfl⟩ := hg
    exact ⟨t, rfl, h.two⟩
  · obtain ⟨er, h1, he⟩ := Option.map_eq_some_iff.1 hg
    simp only [Prod.mk.injEq] at he
    obtain ⟨rfl, rfl⟩ := he
    obtain ⟨h2, hd⟩ := h.whole h1
    exact ⟨_, by rw [h2]; rfl, h.kill hd⟩
  · cases hg
theorem Ext.giveCells : ∀ {xs : List V} {s t : St} {ts : List (Option TypeId)} {ys : List V} {s' : St}, Ext D s t → s.giveCells ts xs = some (ys, s') → ∃ t', t.giveCells ts xs = some (ys, t') ∧ Ext2 D t s' t' := by
  intro xs
  induction xs with
  | nil =>
    intro s t ts ys s' h hs
    simp only [St.giveCells, Option.some.injEq, Prod.mk.injEq] at hs
    obtain ⟨rfl, rfl⟩ := hs
    exact ⟨t, rfl, h.two⟩
  | cons x xs ih =>
    intro s t ts ys s' h hs
    simp only [St.giveCells] at hs ⊢
    obtain ⟨⟨y1, s1⟩, h1, hs⟩ := Option.bind_eq_some_iff.1 hs
    obtain ⟨⟨y2, s2⟩, h2, hs⟩ := Option.map_eq_some_iff.1 hs
    simp only [Prod.mk.injEq] at hs
    obtain ⟨rfl, rfl⟩ := hs
    obtain ⟨t1, g1, e1⟩ := h.giveCell h1
    obtain ⟨t2, g2, e2⟩ := ih e1.1 h2
    exact ⟨t2, by rw [g1]; simp only [Option.bind_some, g2]; rfl, e1.trans e2⟩
theorem Ext.giveArg (h : Ext D s t) {ts : List (Option TypeId)} {x y : V} (hg : s.giveArg ts x = some (y, s')) : ∃ t', t.giveArg ts x = some (y, t') ∧ Ext2 D t s' t' := by
  unfold St.giveArg at hg ⊢
  split at hg
  · obtain ⟨⟨ys, s1⟩, h1, he⟩ := Option.map_eq_some_iff.1 hg
    simp only [Prod.mk.injEq] at he
    obtain ⟨rfl, rfl⟩ := he
    obtain ⟨t', g, e⟩ := Ext.giveCells h h1
    exact ⟨t', by rw [g]; rfl, e⟩
  · exact h.giveCell hg
theorem Ext.giveBox (h : Ext D s t) {ts : List (Option TypeId)} {id : Id} {ys : List V} (hg : s.giveBox ts id = some (ys, s')) : (∃ t', t.giveBox ts id = some (ys, t') ∧ Ext2 D t s' t') ∧ ¬ D id := by
  unfold St.giveBox at hg ⊢
  obtain ⟨b, hb, hg⟩ := Option.bind_eq_some_iff.1 hg
  refine ⟨?_, h.notD hb⟩
  simp only [h.get hb, Option.bind_some]
  split at hg
  · rename_i hc
    rw [if_pos hc]
    split at hg
    · rename_i row hr
      obtain ⟨t', g, e⟩ := Ext.giveCells (h.kill (h.notD hb)).1 hg
      exact ⟨t', g, (h.kill (h.notD hb)).trans e⟩
    · cases hg
  · cases hg

/-- The numbers that are written anew behind a call. -/
def idsOut (D : Id → Prop) : V → Prop
  | .sl id _ _ => ¬ D id
  | _ => True
def idsM (D : Id → Prop) (m : Mode) (x : V) : Prop := match m with
  | .io => match x with | .ptr id _ _ => ¬ D id | _ => True
  | .iov => match thin x with | .agg cs => ∀ c ∈ cs, idsOut D c | x => idsOut D x
  | _ => True
def idsMs (D : Id → Prop) : List Mode → List V → Prop
  | _, [] => True
  | ms, x :: r => idsM D (ms.headD .rd) x ∧ idsMs D ms.tail r

theorem Ext.giveCell_ids (h : Ext D s t) {ty : Option TypeId} {x y : V} (hg : s.giveCell ty x = some (y, s')) : idsOut D x := by
  cases x <;> try exact trivial
  rename_i id off len
  simp only [St.giveCell] at hg
  obtain ⟨er, h1, he⟩ := Option.map_eq_some_iff.1 hg
  exact (h.whole h1).2
theorem Ext.giveCells_ids : ∀ {xs : List V} {s t : St} {ts : List (Option TypeId)} {ys : List V} {s' : St}, Ext D s t → s.giveCells ts xs = some (ys, s') → ∀ c ∈ xs, idsOut D c := by
  intro xs
  induction xs with
  | nil => intro s t ts ys s' h hs c hc; simp at hc
  | cons x xs ih =>
    intro s t ts ys s' h hs c hc
    simp only [St.giveCells] at hs
    obtain ⟨⟨y1, s1⟩, h1, hs⟩ := Option.bind_eq_some_iff.1 hs
    obtain ⟨⟨y2, s2⟩, h2, hs⟩ := Option.map_eq_some_iff.1 hs
    rcases List.mem_cons.1 hc with rfl | hc
    · exact h.giveCell_ids h1
    · obtain ⟨t1, g1, e1⟩ := h.giveCell h1
      exact ih e1.1 h2 c hc
theorem Ext.give (h : Ext D s t) {ts : List (Option TypeId)} {m : Mode} {x y : V} (hg : s.give ts m x = some (y, s')) : (∃ t', t.give ts m x = some (y, t') ∧ Ext2 D t s' t') ∧ idsM D m x := by
  unfold St.give at hg ⊢
  split at hg
  · simp only [Option.some.injEq, Prod.mk.injEq] at hg
    obtain ⟨rfl, rfl⟩ := hg
    exact ⟨⟨t, rfl, h.two⟩, trivial⟩
  · split at hg
    · obtain ⟨⟨ys, s1⟩, h1, he⟩ := Option.map_eq_some_iff.1 hg
      simp only [Prod.mk.injEq] at he
      obtain ⟨rfl, rfl⟩ := he
      obtain ⟨⟨t', g, e⟩, hd⟩ := h.giveBox h1
      exact ⟨⟨t', by simp only [g]; rfl, e⟩, hd⟩
    · cases hg
  · exact ⟨h.giveArg hg, trivial⟩
  · refine ⟨h.giveArg hg, ?_⟩
    unfold idsM
    generalize thin x = z at hg
    unfold St.giveArg at hg
    split at hg
    · obtain ⟨⟨ys, s1⟩, h1, he⟩ := Option.map_eq_some_iff.1 hg
      exact Ext.giveCells_ids h h1
    · rename_i hne
      have := h.giveCell_ids hg
      cases z <;> first | exact this | exact absurd rfl (hne _)
theorem Ext.gives : ∀ {xs : List V} {s t : St} {ts : List TypeId} {ms : List Mode} {ys : List V} {s' : St}, Ext D s t → s.gives P ts ms xs = some (ys, s') → (∃ t', t.gives P ts ms xs = some (ys, t') ∧ Ext2 D t s' t') ∧ idsMs D ms xs := by
  intro xs
  induction xs with
  | nil =>
    intro s t ts ms ys s' h hs
    simp only [St.gives, Option.some.injEq, Prod.mk.injEq] at hs
    obtain ⟨rfl, rfl⟩ := hs
    exact ⟨⟨t, rfl, h.two⟩, trivial⟩
  | cons x xs ih =>
    intro s t ts ms ys s' h hs
    simp only [St.gives] at hs ⊢
    obtain ⟨⟨y1, s1⟩, h1, hs⟩ := Option.bind_eq_some_iff.1 hs
    obtain ⟨⟨y2, s2⟩, h2, hs⟩ := Option.map_eq_some_iff.1 hs
    simp only [Prod.mk.injEq] at hs
    obtain ⟨rfl, rfl⟩ := hs
    obtain ⟨⟨t1, g1, e1⟩, i1⟩ := h.give h1
    obtain ⟨⟨t2, g2, e2⟩, i2⟩ := ih e1.1 h2
    exact ⟨⟨t2, by rw [g1]; simp only [Option.bind_some, g2]; rfl, e1.trans e2⟩, i1, i2⟩

theorem Ext.takeCell (h : Ext D s t) {id : Id} (hd : ¬ D id) {x y : V} (hg : s.takeCell id x = some (y, s')) : ∃ t', t.takeCell id x = some (y, t') ∧ Ext2 D t s' t' := by
  unfold St.takeCell at hg ⊢
  split at hg
  · simp only [Option.some.injEq, Prod.mk.injEq] at hg
    obtain ⟨rfl, rfl⟩ := hg
    exact ⟨_, rfl, h.setB hd⟩
  · simp only [Option.some.injEq, Prod.mk.injEq] at hg
    obtain ⟨rfl, rfl⟩ := hg
    exact ⟨t, rfl, h.two⟩
  · simp only [Option.some.injEq, Prod.mk.injEq] at hg
    obtain ⟨rfl, rfl⟩ := hg
    exact ⟨t, rfl, h.two⟩
  · cases hg
theorem Ext.takeCells {e : Nat} : ∀ {xs : List V} {s t : St} {k : Nat} {ys : List V} {s' : St}, Ext D s t → (∀ j, k ≤ j → j < k + xs.length → ¬ D (e, j)) → s.takeCells e k xs = some (ys, s') → ∃ t', t.takeCells e k xs = some (ys, t') ∧ Ext2 D t s' t' := by
  intro xs
  induction xs with
  | nil =>
    intro s t k ys s' h _ hs
    simp only [St.takeCells, Option.some.injEq, Prod.mk.injEq] at hs
    obtain ⟨rfl, rfl⟩ := hs
    exact ⟨t, rfl, h.two⟩
  | cons x xs ih =>
    intro s t k ys s' h hd hs
    simp only [St.takeCells] at hs ⊢
    obtain ⟨⟨y1, s1⟩, h1, hs⟩ := Option.bind_eq_some_iff.1 hs
    obtain ⟨⟨y2, s2⟩, h2, hs⟩ := Option.map_eq_some_iff.1 hs
    simp only [Prod.mk.injEq] at hs
    obtain ⟨rfl, rfl⟩ := hs
    obtain ⟨t1, g1, e1⟩ := h.takeCell (hd k (Nat.le_refl _) (by simp)) h1
    obtain ⟨t2, g2, e2⟩ := ih e1.1 (fun j hj hlt => hd j (by omega) (by simp only [List.length_cons]; omega)) h2
    exact ⟨t2, by rw [g1]; simp only [Option.bind_some, g2]; rfl, e1.trans e2⟩
theorem Ext.takeOne (h : Ext D s t) {e k : Nat} (hd : ∀ j, k ≤ j → j < k + 64 → ¬ D (e, j)) {x y : V} (hg : s.takeOne e k x = some (y, s')) : ∃ t', t.takeOne e k x = some (y, t') ∧ Ext2 D t s' t' := by
  unfold St.takeOne at hg ⊢
  split at hg
  · split at hg
    · rename_i hl
      rw [if_pos hl]
      obtain ⟨⟨ys, s1⟩, h1, he⟩ := Option.map_eq_some_iff.1 hg
      simp only [Prod.mk.injEq] at he
      obtain ⟨rfl, rfl⟩ := he
      obtain ⟨t', g, e⟩ := Ext.takeCells h (fun j hj hlt => hd j hj (by omega)) h1
      exact ⟨t', by rw [g]; rfl, e⟩
    · cases hg
  · split at hg
    · rename_i hl
      rw [if_pos hl]
      obtain ⟨⟨ys, s1⟩, h1, he⟩ := Option.map_eq_some_iff.1 hg
      simp only [Prod.mk.injEq] at he
      obtain ⟨rfl, rfl⟩ := he
      obtain ⟨t', g, e⟩ := Ext.takeCells h (fun j hj hlt => hd j hj (by omega)) h1
      exact ⟨_, by rw [g]; rfl, e.trans (e.1.setB (hd _ (by omega) (by omega)))⟩
    · cases hg
  · exact h.takeCell (hd k (Nat.le_refl _) (by omega)) hg
theorem Ext.takeAll {e : Nat} : ∀ {xs : List V} {s t : St} {k : Nat} {ys : List V} {s' : St}, Ext D s t → (∀ j, 64 * k ≤ j → j < 64 * (k + xs.length) → ¬ D (e, j)) → s.takeAll e k xs = some (ys, s') → ∃ t', t.takeAll e k xs = some (ys, t') ∧ Ext2 D t s' t' := by
  intro xs
  induction xs with
  | nil =>
    intro s t k ys s' h _ hs
    simp only [St.takeAll, Option.some.injEq, Prod.mk.injEq] at hs
    obtain ⟨rfl, rfl⟩ := hs
    exact ⟨t, rfl, h.two⟩
  | cons x xs ih =>
    intro s t k ys s' h hd hs
    simp only [List.length_cons] at hd
    simp only [St.takeAll] at hs ⊢
    obtain ⟨⟨y1, s1⟩, h1, hs⟩ := Option.bind_eq_some_iff.1 hs
    obtain ⟨⟨y2, s2⟩, h2, hs⟩ := Option.map_eq_some_iff.1 hs
    simp only [Prod.mk.injEq] at hs
    obtain ⟨rfl, rfl⟩ := hs
    obtain ⟨t1, g1, e1⟩ := h.takeOne (fun j hj hlt => hd j hj (by omega)) h1
    obtain ⟨t2, g2, e2⟩ := ih e1.1 (fun j hj hlt => hd j (by omega) (by omega)) h2
    exact ⟨t2, by rw [g1]; simp only [Option.bind_some, g2]; rfl, e1.trans e2⟩
theorem Ext.takeRes (h : Ext D s t) {e k : Nat} (hd : ∀ j, 64 * k ≤ j → j < 64 * (k + 8) → ¬ D (e, j)) {x y : V} (hg : s.takeRes e k x = some (y, s')) : ∃ t', t.takeRes e k x = some (y, t') ∧ Ext2 D t s' t' := by
  unfold St.takeRes at hg ⊢
  split at hg
  · split at hg
    · rename_i hl
      rw [if_pos hl]
      obtain ⟨⟨ys, s1⟩, h1, he⟩ := Option.map_eq_some_iff.1 hg
      simp only [Prod.mk.injEq] at he
      obtain ⟨rfl, rfl⟩ := he
      obtain ⟨t', g, e⟩ := Ext.takeAll h (fun j hj hlt => hd j hj (by omega)) h1
      exact ⟨t', by rw [g]; rfl, e⟩
    · cases hg
  · exact h.takeOne (fun j hj hlt => hd j hj (by omega)) hg

theorem Ext.backCells : ∀ {xs : List V} {s t : St} {os : List V} {s' : St}, Ext D s t → (∀ c ∈ xs, idsOut D c) → s.backCells xs os = some s' → ∃ t', t.backCells xs os = some t' ∧ Ext2 D t s' t' := by
  intro xs
  induction xs with
  | nil =>
    intro s t os s' h _ hs
    simp only [St.backCells, Option.some.injEq] at hs
    subst hs
    exact ⟨t, rfl, h.two⟩
  | cons x xs ih =>
    intro s t os s' h hd hs
    unfold St.backCells at hs ⊢
    split at hs
    · rename_i heq; cases heq
    · rename_i id l os1 e rows ns heq1
      injection heq1 with h1 h2
      subst h1; subst h2
      have := h.setB (b := ⟨false, true, true, e, rows⟩) (hd _ List.mem_cons_self)
      obtain ⟨t', g, e⟩ := ih this.1 (fun c hc => hd c (List.mem_cons_of_mem _ hc)) hs
      exact ⟨t', g, this.trans e⟩
    · rename_i heq1
      injection heq1 with h1 h2
      subst h1; subst h2
      rename_i hne
      obtain ⟨t', g, e⟩ := ih h (fun c hc => hd c (List.mem_cons_of_mem _ hc)) hs
      exact ⟨t', g, e⟩
    · cases hs
theorem Ext.back (h : Ext D s t) {m : Mode} {e k : Nat} (hd : ∀ j, 64 * k ≤ j → j < 64 * (k + 1) → ¬ D (e, j)) {x o : V} (hi : idsM D m x) (hb : s.back m e k x o = some s') : ∃ t', t.back m e k x o = some t' ∧ Ext2 D t s' t' := by
  unfold St.back at hb ⊢
  split at hb
  · simp only [Option.some.injEq] at hb; subst hb; exact ⟨t, rfl, h.two⟩
  · simp only [Option.some.injEq] at hb; subst hb; exact ⟨t, rfl, h.two⟩
  · split at hb
    · split at hb
      · rename_i hl
        rw [if_pos hl]
        obtain ⟨⟨ys, s1⟩, h1, rfl⟩ := Option.map_eq_some_iff.1 hb
        obtain ⟨t', g, e⟩ := Ext.takeCells h (fun j hj hlt => hd j hj (by omega)) h1
        exact ⟨_, by rw [g]; rfl, e.trans (e.1.setB hi)⟩
      · cases hb
    · cases hb
  · unfold idsM at hi
    generalize thin x = z at hb hi
    split at hb
    · exact Ext.backCells h hi hb
    · rename_i hne
      refine Ext.backCells h (fun c hc => ?_) hb
      rw [List.mem_singleton.1 hc]
      cases z <;> first | exact hi | exact trivial
theorem Ext.backs {e : Nat} : ∀ {xs : List V} {s t : St} {ms : List Mode} {k : Nat} {os : List V} {s' : St}, Ext D s t → (∀ j, 64 * k ≤ j → j < 64 * (k + xs.length) → ¬ D (e, j)) → idsMs D ms xs → s.backs e ms k xs os = some s' → ∃ t', t.backs e ms k xs os = some t' ∧ Ext2 D t s' t' := by
  intro xs
  induction xs with
  | nil =>
    intro s t ms k os s' h _ _ hs
    simp only [St.backs, Option.some.injEq] at hs
    subst hs
    exact ⟨t, by simp [St.backs], h.two⟩
  | cons x xs ih =>
    intro s t ms k os s' h hd hi hs
    simp only [List.length_cons] at hd
    cases os with
    | nil => simp [St.backs] at hs
    | cons o os =>
      simp only [St.backs] at hs ⊢
      obtain ⟨s1, h1, hs⟩ := Option.bind_eq_some_iff.1 hs
      obtain ⟨t1, g1, e1⟩ := h.back (fun j hj hlt => hd j hj (by omega)) hi.1 h1
      obtain ⟨t2, g2, e2⟩ := ih e1.1 (fun j hj hlt => hd j (by omega) (by omega)) hi.2 hs
      exact ⟨t2, by rw [g1]; exact g2, e1.trans e2⟩

variable {M : Hints} {C : CallF} {k : Nat} {o : Oper} {v : V}

theorem Ext.call (h : Ext D s t) (hd : ∀ id : Id, D id → ¬ (id.1 = s.ep ∧ id.2 / 1024 = k)) {g : FuncId} {args : List V} (hc : evCall P M C s k g args = some (v, s')) : ∃ t', evCall P M C t k g args = some (v, t') ∧ Ext2 D t s' t' := by
  unfold evCall at hc ⊢
  split at hc
  case isFalse => cases hc
  rename_i hl
  rw [if_pos hl]
  obtain ⟨⟨ys, s1⟩, h1, hc⟩ := Option.bind_eq_some_iff.1 hc
  obtain ⟨xs, h2, hc⟩ := Option.bind_eq_some_iff.1 hc
  obtain ⟨⟨r, os⟩, h3, hc⟩ := Option.bind_eq_some_iff.1 hc
  obtain ⟨⟨t1, g1, e1⟩, i1⟩ := h.gives h1
  have g2 := e1.1.rdAll h2
  simp only at hc g2
  rw [g1]
  simp only [Option.bind_some, g2, h3]
  split at hc
  · cases hc
  · rename_i hp
    rw [if_neg hp]
    obtain ⟨s2, h4, h5⟩ := Option.bind_eq_some_iff.1 hc
    have hnd : ∀ j, 1024 * k ≤ j → j < 1024 * (k + 1) → ¬ D (s.ep, j) := fun j h1 h2 hD => hd _ hD ⟨rfl, by simp only; omega⟩
    obtain ⟨t2, g4, e4⟩ := Ext.backs e1.1 (fun j hj hlt => hnd j (by omega) (by omega)) i1 h4
    obtain ⟨t3, g5, e5⟩ := e4.1.takeRes (fun j hj hlt => hnd j (by omega) (by omega)) h5
    exact ⟨t3, by rw [h.ep, g4]; exact g5, (e1.trans e4).trans e5⟩

theorem Ext.moved (h : Ext D s t) {all : Bool} {x : V} {rows : List (List V)} {c : Bool} (hm : s.moved all x = some (rows, c, s')) : ∃ t', t.moved all x = some (rows, c, t') ∧ Ext2 D t s' t' := by
  have look : ∀ {x : V}, ((s.rowsOf x).map fun rows => (rows, litRows rows, s)) = some (rows, c, s') → ∃ t', ((t.rowsOf x).map fun rows => (rows, litRows rows, t)) = some (rows, c, t') ∧ Ext2 D t s' t' := by
    intro x hm
    obtain ⟨r, h1, he⟩ := Option.map_eq_some_iff.1 hm
    simp only [Prod.mk.injEq] at he
    obtain ⟨rfl, rfl, rfl⟩ := he
    exact ⟨t, by rw [h.rowsOf h1]; rfl, h.two⟩
  unfold St.moved at hm ⊢
  split at hm
  · rename_i id off len
    split at hm
    · rename_i er hw
      split at hw
      · rename_i hc
        obtain ⟨g, hd⟩ := h.whole hw
        simp only [Option.some.injEq, Prod.mk.injEq] at hm
        obtain ⟨rfl, rfl, rfl⟩ := hm
        refine ⟨t.kill id, ?_, h.kill hd⟩
        rw [h.ep, if_pos hc, g]
      · cases hw
    · rename_i hw
      have hb : ∃ b, s.heap id = some b := by
        obtain ⟨r, h1, _⟩ := Option.map_eq_some_iff.1 hm
        simp only [St.rowsOf] at h1
        obtain ⟨b, hb, _⟩ := Option.bind_eq_some_iff.1 h1
        exact ⟨b, hb⟩
      obtain ⟨b, hb⟩ := hb
      have hw' : (if id.1 = t.ep ∨ all = true then t.whole id off len else none) = none := by
        rw [h.ep]
        split
        · rename_i hc
          rw [if_pos hc] at hw
          unfold St.whole at hw ⊢
          rw [h.get hb]; rw [hb] at hw; exact hw
        · rfl
      rw [hw']
      exact look hm
  · exact look hm
theorem Ext.append (h : Ext D s t) {all : Bool} {id : Id} (hd : ¬ D id) {ty : TypeId} {b x : V} (ha : evAppend P all s id ty b x = some (v, s')) : ∃ t', evAppend P all t id ty b x = some (v, t') ∧ Ext2 D t s' t' := by
  unfold evAppend at ha ⊢
  obtain ⟨e, h1, ha⟩ := Option.bind_eq_some_iff.1 ha
  obtain ⟨⟨rows, c, s1⟩, h2, ha⟩ := Option.bind_eq_some_iff.1 ha
  obtain ⟨t1, g2, e2⟩ := h.moved h2
  rw [h1, Option.bind_some, g2, Option.bind_some]
  simp only at ha ⊢
  split at ha
  case isFalse => cases ha
  rename_i hc
  rw [if_pos hc]
  split at ha
  · split at ha
    · rename_i hl
      rw [if_pos hl]
      simp only [Option.some.injEq, Prod.mk.injEq] at ha
      obtain ⟨rfl, rfl⟩ := ha
      exact ⟨_, rfl, e2.trans (e2.1.setB hd)⟩
    · cases ha
  · obtain ⟨kb, h3, ha⟩ := Option.bind_eq_some_iff.1 ha
    rw [e2.1.get h3, Option.bind_some]
    split at ha
    · rename_i hl
      rw [if_pos hl]
      simp only [Option.some.injEq, Prod.mk.injEq] at ha
      obtain ⟨rfl, rfl⟩ := ha
      have := e2.1.kill (e2.1.notD h3)
      exact ⟨_, rfl, (e2.trans this).trans (this.1.setB hd)⟩
    · cases ha
  · cases ha
theorem Ext.slice (h : Ext D s t) {ty : TypeId} {x : V} {lo hi : Option V} (hs : evSlice P s ty x lo hi = some v) : evSlice P t ty x lo hi = some v := by
  unfold evSlice at hs ⊢
  obtain ⟨e, h1, hs⟩ := Option.bind_eq_some_iff.1 hs
  obtain ⟨rows, h2, hs⟩ := Option.bind_eq_some_iff.1 hs
  rw [h1, Option.bind_some, h.rowsOf h2, Option.bind_some]
  exact hs

theorem Ext.op {f : Operand → V} (h : Ext D s t) (hd : ∀ id : Id, D id → ¬ (id.1 = s.ep ∧ id.2 / 1024 = k)) (he : evOpV P M C f s k o = some (v, s')) : ∃ t', evOpV P M C f t k o = some (v, t') ∧ Ext2 D t s' t' := by
  have hid : ¬ D (s.ep, 1024 * k) := fun hD => hd _ hD ⟨rfl, by simp⟩
  have pu : ∀ {x : Option V}, (x.map fun y => (y, s)) = some (v, s') → ∃ t', (x.map fun y => (y, t)) = some (v, t') ∧ Ext2 D t s' t' := by
    intro x hx
    obtain ⟨y, rfl, he⟩ := Option.map_eq_some_iff.1 hx
    simp only [Prod.mk.injEq] at he
    obtain ⟨rfl, rfl⟩ := he
    exact ⟨t, rfl, h.two⟩
  have sm : ∀ {x : V}, some (x, s) = some (v, s') → ∃ t', some (x, t) = some (v, t') ∧ Ext2 D t s' t' := by
    intro x hx
    simp only [Option.some.injEq, Prod.mk.injEq] at hx
    obtain ⟨rfl, rfl⟩ := hx
    exact ⟨t, rfl, h.two⟩
  unfold evOpV at he ⊢
  simp only [h.ep] at he ⊢
  split at he
  · split at he
    · cases he
    · exact sm he
  · split at he
    · cases he
    · exact sm he
  · split at he
    · exact sm he
    · cases he
  · split at he
    · exact pu he
    · cases he
  · split at he
    · exact sm he
    · exact sm he
    · exact sm he
    · cases he
  · obtain ⟨z, hz, he⟩ := Option.map_eq_some_iff.1 he
    simp only [Prod.mk.injEq] at he
    obtain ⟨rfl, rfl⟩ := he
    exact ⟨_, by rw [hz]; rfl, h.setB hid⟩
  · obtain ⟨cs, hcs, he⟩ := Option.bind_eq_some_iff.1 he
    rw [hcs, Option.bind_some]
    split at he
    · rename_i hl
      rw [if_pos hl]
      simp only [Option.some.injEq, Prod.mk.injEq] at he
      obtain ⟨rfl, rfl⟩ := he
      exact ⟨_, rfl, h.setB hid⟩
    · cases he
  · obtain ⟨z, hz, he⟩ := Option.bind_eq_some_iff.1 he
    rw [hz, Option.bind_some]
    split at he
    · split at he
      · cases he
      · rename_i hl
        rw [if_neg hl]
        obtain ⟨cs, hcs, he⟩ := Option.map_eq_some_iff.1 he
        rw [hcs]
        exact sm (congrArg some he)
    · cases he
  · obtain ⟨e, hte, he⟩ := Option.bind_eq_some_iff.1 he
    obtain ⟨z, hz, he⟩ := Option.bind_eq_some_iff.1 he
    rw [hte, Option.bind_some, hz, Option.bind_some]
    split at he
    · cases he
    · rename_i hl
      rw [if_neg hl]
      obtain ⟨cs, hcs, he⟩ := Option.bind_eq_some_iff.1 he
      obtain ⟨⟨rows, c, s1⟩, hs, he⟩ := Option.map_eq_some_iff.1 he
      simp only [Prod.mk.injEq] at he
      obtain ⟨rfl, rfl⟩ := he
      obtain ⟨t1, g, e1⟩ := Ext.sinkRows _ h hs
      exact ⟨_, by rw [hcs, Option.bind_some, g]; rfl, e1.trans (e1.1.setB hid)⟩
  · split at he
    · obtain ⟨b, hb, he⟩ := Option.bind_eq_some_iff.1 he
      obtain ⟨row, hrow, he⟩ := Option.bind_eq_some_iff.1 he
      rw [h.get hb, Option.bind_some, hrow, Option.bind_some]
      split at he
      · rename_i hl
        rw [if_pos hl]
        exact pu he
      · cases he
    · split at he
      · rename_i hl
        rw [if_pos hl]
        exact pu he
      · cases he
    · cases he
  · split at he
    · obtain ⟨b, hb, he⟩ := Option.bind_eq_some_iff.1 he
      obtain ⟨row, hrow, he⟩ := Option.bind_eq_some_iff.1 he
      obtain ⟨cs, hcs, he⟩ := Option.bind_eq_some_iff.1 he
      rw [h.get hb, Option.bind_some, hrow, Option.bind_some, hcs, Option.bind_some]
      split at he
      · rename_i hc
        rw [if_pos hc]
        split at he
        · rename_i hbox
          rw [if_pos hbox]
          simp only [Option.some.injEq, Prod.mk.injEq] at he
          obtain ⟨rfl, rfl⟩ := he
          exact ⟨_, rfl, h.setB (h.notD hb)⟩
        · rename_i hbox
          rw [if_neg hbox]
          obtain ⟨⟨ys, c, s1⟩, hs, he⟩ := Option.bind_eq_some_iff.1 he
          obtain ⟨t1, g, e1⟩ := Ext.sink _ h hs
          simp only at he
          split at he
          · rename_i b1 hb1
            simp only [Option.some.injEq, Prod.mk.injEq] at he
            obtain ⟨rfl, rfl⟩ := he
            exact ⟨_, by rw [g, Option.bind_some]; simp only [e1.1.get hb1], e1.trans (e1.1.setB (h.notD hb))⟩
          · cases he
      · cases he
    · cases he
  · obtain ⟨off, hoff, he⟩ := Option.bind_eq_some_iff.1 he
    rw [hoff, Option.bind_some]
    split at he
    · exact sm he
    · exact sm he
    · cases he
  · obtain ⟨e, hte, he⟩ := Option.bind_eq_some_iff.1 he
    rw [hte, Option.bind_some]
    split at he
    · cases he
    · rename_i hz
      rw [if_neg hz]
      obtain ⟨n, hn, he⟩ := Option.bind_eq_some_iff.1 he
      rw [hn, Option.bind_some]
      split at he
      · split at he
        · rename_i hlt
          rw [if_pos hlt]
          obtain ⟨b, hb, he⟩ := Option.bind_eq_some_iff.1 he
          obtain ⟨row, hrow, he⟩ := Option.bind_eq_some_iff.1 he
          rw [h.get hb, Option.bind_some, hrow, Option.bind_some]
          split at he
          · rename_i hl; rw [if_pos hl]; exact sm he
          · cases he
        · cases he
      · obtain ⟨row, hrow, he⟩ := Option.bind_eq_some_iff.1 he
        rw [hrow, Option.bind_some]
        split at he
        · rename_i hl; rw [if_pos hl]; exact sm he
        · cases he
      · obtain ⟨row, hrow, he⟩ := Option.bind_eq_some_iff.1 he
        rw [hrow, Option.bind_some]
        split at he
        · rename_i hl; rw [if_pos hl]; exact sm he
        · cases he
      · cases he
  · split at he
    · obtain ⟨y, hy, he⟩ := Option.map_eq_some_iff.1 he
      rw [h.slice hy]; exact sm (congrArg some he)
    · obtain ⟨y, hy, he⟩ := Option.map_eq_some_iff.1 he
      rw [h.slice hy]; exact sm (congrArg some he)
    · obtain ⟨y, hy, he⟩ := Option.map_eq_some_iff.1 he
      rw [h.slice hy]; exact sm (congrArg some he)
    · exact pu he
  · obtain ⟨e, hte, he⟩ := Option.bind_eq_some_iff.1 he
    obtain ⟨z, hz, he⟩ := Option.bind_eq_some_iff.1 he
    obtain ⟨n, hn, he⟩ := Option.bind_eq_some_iff.1 he
    obtain ⟨m, hm, he⟩ := Option.bind_eq_some_iff.1 he
    rw [hte, Option.bind_some, hz, Option.bind_some, hn, Option.bind_some, hm, Option.bind_some]
    split at he
    · rename_i hc
      rw [if_pos hc]
      simp only [Option.some.injEq, Prod.mk.injEq] at he
      obtain ⟨rfl, rfl⟩ := he
      exact ⟨_, rfl, h.setB hid⟩
    · cases he
  · split at he
    · rename_i hf; rw [if_pos hf]; exact sm he
    · cases he
  · split at he
    · exact pu he
    · split at he
      · split at he
        · obtain ⟨rows, hr, he⟩ := Option.bind_eq_some_iff.1 he
          rw [h.rowsOf hr, Option.bind_some]
          obtain ⟨bs, hb, he⟩ := Option.map_eq_some_iff.1 he
          rw [hb]; exact sm (congrArg some he)
        · cases he
      · cases he
      · cases he
  · split at he
    · split at he
      · split at he
        · rename_i hl
          rw [if_pos hl]
          exact h.append hid he
        · cases he
      · cases he
    · split at he
      · split at he
        · split at he
          · rename_i hl; rw [if_pos hl]; exact sm he
          · cases he
        · split at he
          · rename_i hl; rw [if_pos hl]; exact sm he
          · cases he
        · split at he
          · rename_i hl; rw [if_pos hl]; exact sm he
          · cases he
        · exact pu he
      · cases he
    · split at he
      · obtain ⟨e, hte, he⟩ := Option.bind_eq_some_iff.1 he
        obtain ⟨z, hz, he⟩ := Option.bind_eq_some_iff.1 he
        rw [hte, Option.bind_some, hz, Option.bind_some]
        split at he
        · obtain ⟨b, hb, he⟩ := Option.bind_eq_some_iff.1 he
          rw [h.get hb, Option.bind_some]
          split at he
          · rename_i hc
            rw [if_pos hc]
            simp only [Option.some.injEq, Prod.mk.injEq] at he
            obtain ⟨rfl, rfl⟩ := he
            exact ⟨_, rfl, h.setB (h.notD hb)⟩
          · cases he
        · cases he
      · cases he
    · exact pu he
    · split at he
      · exact h.call hd he
      · cases he
    · cases he
  · split at he
    · exact pu he
    · exact pu he
    · exact pu he
    · split at he
      · cases he
      · rename_i hte
        rw [if_neg hte]
        split at he
        · rw [h.rowsOf (show s.rowsOf _ = some (_ :: _) by assumption)]; exact sm he
        · rw [h.rowsOf (show s.rowsOf _ = some (_ :: _) by assumption)]; exact sm he
        · cases he
    · split at he
      · cases he
      · rename_i hte
        rw [if_neg hte]
        split at he
        · rw [h.rowsOf (show s.rowsOf _ = some (_ :: _) by assumption)]; exact sm he
        · rw [h.rowsOf (show s.rowsOf _ = some (_ :: _) by assumption)]; exact sm he
        · cases he
    · cases he
  · exact pu he
end
end Go.Proofs.Ytolbhpampnjinaa.Ev
/- Operations that change nothing but what they make; operands tell all. No condition. -/
namespace Go.Proofs.Ytolbhpampnjinaa.Ev
open Go
set_option linter.unusedVariables false
set_option linter.unusedSimpArgs false
section
variable {s s' t : St} {P : Program} {M : Hints} {C : CallF} {k : Nat} {o : Oper} {v : V} {f f' : Operand → V}

theorem evScalar_congr (h : ∀ x ∈ o.op.operands.toList, f x = f' x) (hc : plainOp o.op = true → execOp (fun x => (toVal (f x)).getD undef) o = execOp (fun x => (toVal (f' x)).getD undef) o) : evScalar P f o = evScalar P f' o := by
  unfold evScalar
  have h1 : o.op.operands.toList.all (fun x => (toVal (f x)).isSome) = o.op.operands.toList.all (fun x => (toVal (f' x)).isSome) := by
    rw [Bool.eq_iff_iff, List.all_eq_true, List.all_eq_true]
    exact ⟨fun hh x hx => by rw [← h x hx]; exact hh x hx, fun hh x hx => by rw [h x hx]; exact hh x hx⟩
  rw [h1]
  cases hp : plainOp o.op with
  | false => simp
  | true => rw [hc hp]

theorem gives_rd : ∀ {xs : List V} {s : St} {ts : List TypeId} {ms : List Mode} {ys : List V} {s' : St}, (ms.any fun m => m != .rd) = false → s.gives P ts ms xs = some (ys, s') → s' = s := by
  intro xs
  induction xs with
  | nil =>
    intro s ts ms ys s' _ hs
    simp only [St.gives, Option.some.injEq, Prod.mk.injEq] at hs
    exact hs.2.symm
  | cons x xs ih =>
    intro s ts ms ys s' hm hs
    simp only [St.gives] at hs
    obtain ⟨⟨y1, s1⟩, h1, hs⟩ := Option.bind_eq_some_iff.1 hs
    obtain ⟨⟨y2, s2⟩, h2, hs⟩ := Option.map_eq_some_iff.1 hs
    simp only [Prod.mk.injEq] at hs
    obtain ⟨rfl, rfl⟩ := hs
    have hrd : ms.headD .rd = .rd ∧ (ms.tail.any fun m => m != .rd) = false := by
      cases ms with
      | nil => exact ⟨rfl, rfl⟩
      | cons m ms =>
        simp only [List.any_cons, Bool.or_eq_false_iff] at hm
        exact ⟨by simpa using hm.1, hm.2⟩
    rw [hrd.1] at h1
    simp only [St.give, Option.some.injEq, Prod.mk.injEq] at h1
    obtain ⟨rfl, rfl⟩ := h1
    exact ih hrd.2 h2
theorem backs_rd {e : Nat} : ∀ {xs : List V} {s : St} {ms : List Mode} {k : Nat} {os : List V} {s' : St}, (ms.any fun m => m != .rd) = false → s.backs e ms k xs os = some s' → s' = s := by
  intro xs
  induction xs with
  | nil =>
    intro s ms k os s' _ hs
    simp only [St.backs, Option.some.injEq] at hs
    exact hs.symm
  | cons x xs ih =>
    intro s ms k os s' hm hs
    have hrd : ms.headD .rd = .rd ∧ (ms.tail.any fun m => m != .rd) = false := by
      cases ms with
      | nil => exact ⟨rfl, rfl⟩
      | cons m ms =>
        simp only [List.any_cons, Bool.or_eq_false_iff] at hm
        exact ⟨by simpa using hm.1, hm.2⟩
    cases os with
    | nil => simp [St.backs] at hs
    | cons o os =>
      simp only [St.backs] at hs
      obtain ⟨s1, h1, hs⟩ := Option.bind_eq_some_iff.1 hs
      rw [hrd.1] at h1
      simp only [St.back, Option.some.injEq] at h1
      subst h1
      exact ih hrd.2 hs

theorem setB_out {id id' : Id} {b : Blk} (h : id' ≠ id) : (s.setB id b).heap id' = s.heap id' := by simp [St.setB, upd, h]
theorem takeCell_out {id id' : Id} {x y : V} (ht : s.takeCell id x = some (y, s')) (hne : id' ≠ id) : s'.heap id' = s.heap id' := by
  unfold St.takeCell at ht
  split at ht
  · simp only [Option.some.injEq, Prod.mk.injEq] at ht; obtain ⟨rfl, rfl⟩ := ht; exact setB_out hne
  · simp only [Option.some.injEq, Prod.mk.injEq] at ht; obtain ⟨rfl, rfl⟩ := ht; rfl
  · simp only [Option.some.injEq, Prod.mk.injEq] at ht; obtain ⟨rfl, rfl⟩ := ht; rfl
  · cases ht
theorem takeCells_out {e : Nat} {id' : Id} : ∀ {xs : List V} {s : St} {k : Nat} {ys : List V} {s' : St}, s.takeCells e k xs = some (ys, s') → ¬ (id'.1 = e ∧ k ≤ id'.2 ∧ id'.2 < k + xs.length) → s'.heap id' = s.heap id' := by
  intro xs
  induction xs with
  | nil => intro s k ys s' hs _; simp only [St.takeCells, Option.some.injEq, Prod.mk.injEq] at hs; rw [hs.2]
  | cons x xs ih =>
    intro s k ys s' hs hn
    simp only [List.length_cons] at hn
    simp only [St.takeCells] at hs
    obtain ⟨⟨y1, s1⟩, h1, hs⟩ := Option.bind_eq_some_iff.1 hs
    obtain ⟨⟨y2, s2⟩, h2, hs⟩ := Option.map_eq_some_iff.1 hs
    simp only [Prod.mk.injEq] at hs
    obtain ⟨rfl, rfl⟩ := hs
    rw [ih h2 (fun h => hn ⟨h.1, by omega, by omega⟩)]
    exact takeCell_out h1 (fun e => hn (by subst e; exact ⟨rfl, Nat.le_refl _, by simp⟩))
theorem takeOne_out {e k : Nat} {id' : Id} {x y : V} (ht : s.takeOne e k x = some (y, s')) (hn : ¬ (id'.1 = e ∧ k ≤ id'.2 ∧ id'.2 < k + 64)) : s'.heap id' = s.heap id' := by
  unfold St.takeOne at ht
  split at ht
  · split at ht
    · obtain ⟨⟨ys, s1⟩, h1, he⟩ := Option.map_eq_some_iff.1 ht
      simp only [Prod.mk.injEq] at he
      obtain ⟨rfl, rfl⟩ := he
      exact takeCells_out h1 (fun h => hn ⟨h.1, h.2.1, by omega⟩)
    · cases ht
  · split at ht
    · obtain ⟨⟨ys, s1⟩, h1, he⟩ := Option.map_eq_some_iff.1 ht
      simp only [Prod.mk.injEq] at he
      obtain ⟨rfl, rfl⟩ := he
      rw [setB_out (fun e => hn (by subst e; exact ⟨rfl, by simp, by simp⟩))]
      exact takeCells_out h1 (fun h => hn ⟨h.1, h.2.1, by omega⟩)
    · cases ht
  · exact takeCell_out ht (fun e => hn (by subst e; exact ⟨rfl, Nat.le_refl _, by simp⟩))
theorem takeAll_out {e : Nat} {id' : Id} : ∀ {xs : List V} {s : St} {k : Nat} {ys : List V} {s' : St}, s.takeAll e k xs = some (ys, s') → ¬ (id'.1 = e ∧ 64 * k ≤ id'.2 ∧ id'.2 < 64 * (k + xs.length)) → s'.heap id' = s.heap id' := by
  intro xs
  induction xs with
  | nil => intro s k ys s' hs _; simp only [St.takeAll, Option.some.injEq, Prod.mk.injEq] at hs; rw [hs.2]
  | cons x xs ih =>
    intro s k ys s' hs hn
    simp only [List.length_cons] at hn
    simp only [St.takeAll] at hs
    obtain ⟨⟨y1, s1⟩, h1, hs⟩ := Option.bind_eq_some_iff.1 hs
    obtain ⟨⟨y2, s2⟩, h2, hs⟩ := Option.map_eq_some_iff.1 hs
    simp only [Prod.mk.injEq] at hs
    obtain ⟨rfl, rfl⟩ := hs
    rw [ih h2 (fun h => hn ⟨h.1, by omega, by omega⟩)]
    exact takeOne_out h1 (fun h => hn ⟨h.1, h.2.1, by omega⟩)
theorem takeRes_out {e k : Nat} {id' : Id} {x y : V} (ht : s.takeRes e k x = some (y, s')) (hn : ¬ (id'.1 = e ∧ 64 * k ≤ id'.2 ∧ id'.2 < 64 * (k + 8))) : s'.heap id' = s.heap id' := by
  unfold St.takeRes at ht
  split at ht
  · split at ht
    · obtain ⟨⟨ys, s1⟩, h1, he⟩ := Option.map_eq_some_iff.1 ht
      simp only [Prod.mk.injEq] at he
      obtain ⟨rfl, rfl⟩ := he
      exact takeAll_out h1 (fun h => hn ⟨h.1, h.2.1, by omega⟩)
    · cases ht
  · exact takeOne_out ht (fun h => hn ⟨h.1, h.2.1, by omega⟩)

/-- An operation that only reads leaves all blocks that are not its own. -/
theorem reads_out (he : evOpV P M C f s k o = some (v, s')) (hw : writes M f o = false) {id : Id} (hf : freshAt s.ep k id = false) : s'.heap id = s.heap id := by
  have hid : id ≠ (s.ep, 1024 * k) := fun e => by subst e; simp [freshAt] at hf
  have pu : ∀ {x : Option V}, (x.map fun y => (y, s)) = some (v, s') → s'.heap id = s.heap id := by
    intro x hx
    obtain ⟨y, _, he⟩ := Option.map_eq_some_iff.1 hx
    simp only [Prod.mk.injEq] at he
    rw [← he.2]
  have sm : ∀ {x : V}, some (x, s) = some (v, s') → s'.heap id = s.heap id := by
    intro x hx
    simp only [Option.some.injEq, Prod.mk.injEq] at hx
    rw [← hx.2]
  unfold evOpV at he
  unfold writes at hw
  split at he
  · split at he
    · cases he
    · exact sm he
  · split at he
    · cases he
    · exact sm he
  · split at he
    · exact sm he
    · cases he
  · split at he
    · exact pu he
    · cases he
  · split at he
    · exact sm he
    · exact sm he
    · exact sm he
    · cases he
  · obtain ⟨z, hz, he⟩ := Option.map_eq_some_iff.1 he
    simp only [Prod.mk.injEq] at he
    obtain ⟨rfl, rfl⟩ := he
    exact setB_out hid
  · obtain ⟨cs, hcs, he⟩ := Option.bind_eq_some_iff.1 he
    split at he
    · simp only [Option.some.injEq, Prod.mk.injEq] at he
      obtain ⟨rfl, rfl⟩ := he
      exact setB_out hid
    · cases he
  · obtain ⟨z, hz, he⟩ := Option.bind_eq_some_iff.1 he
    split at he
    · split at he
      · cases he
      · obtain ⟨cs, hcs, he⟩ := Option.map_eq_some_iff.1 he
        exact sm (congrArg some he)
    · cases he
  · rename_i ho; rw [ho] at hw; simp at hw
  · split at he
    · obtain ⟨b, hb, he⟩ := Option.bind_eq_some_iff.1 he
      obtain ⟨row, hrow, he⟩ := Option.bind_eq_some_iff.1 he
      split at he
      · exact pu he
      · cases he
    · split at he
      · exact pu he
      · cases he
    · cases he
  · rename_i ho; rw [ho] at hw; simp at hw
  · obtain ⟨off, hoff, he⟩ := Option.bind_eq_some_iff.1 he
    split at he
    · exact sm he
    · exact sm he
    · cases he
  · obtain ⟨e, hte, he⟩ := Option.bind_eq_some_iff.1 he
    split at he
    · cases he
    · obtain ⟨n, hn, he⟩ := Option.bind_eq_some_iff.1 he
      split at he
      · split at he
        · obtain ⟨b, hb, he⟩ := Option.bind_eq_some_iff.1 he
          obtain ⟨row, hrow, he⟩ := Option.bind_eq_some_iff.1 he
          split at he
          · exact sm he
          · cases he
        · cases he
      · obtain ⟨row, hrow, he⟩ := Option.bind_eq_some_iff.1 he
        split at he
        · exact sm he
        · cases he
      · obtain ⟨row, hrow, he⟩ := Option.bind_eq_some_iff.1 he
        split at he
        · exact sm he
        · cases he
      · cases he
  · split at he
    · exact pu he
    · exact pu he
    · exact pu he
    · exact pu he
  · obtain ⟨e, hte, he⟩ := Option.bind_eq_some_iff.1 he
    obtain ⟨z, hz, he⟩ := Option.bind_eq_some_iff.1 he
    obtain ⟨n, hn, he⟩ := Option.bind_eq_some_iff.1 he
    obtain ⟨m, hm, he⟩ := Option.bind_eq_some_iff.1 he
    split at he
    · simp only [Option.some.injEq, Prod.mk.injEq] at he
      obtain ⟨rfl, rfl⟩ := he
      exact setB_out hid
    · cases he
  · split at he
    · exact sm he
    · cases he
  · split at he
    · exact pu he
    · split at he
      · split at he
        · obtain ⟨rows, hr, he⟩ := Option.bind_eq_some_iff.1 he
          obtain ⟨bs, hb, he⟩ := Option.map_eq_some_iff.1 he
          exact sm (congrArg some he)
        · cases he
      · cases he
      · cases he
  · rename_i c ho
    rw [ho] at hw
    simp only at hw
    split at he
    · rename_i hc; rw [hc] at hw; simp at hw
    · split at he
      · split at he
        · split at he
          · exact sm he
          · cases he
        · split at he
          · exact sm he
          · cases he
        · split at he
          · exact sm he
          · cases he
        · exact pu he
      · cases he
    · rename_i hc; rw [hc] at hw; simp at hw
    · exact pu he
    · rename_i x hc
      rw [hc] at hw
      simp only at hw
      split at he
      · rename_i g caps hf'
        rw [hf'] at hw
        simp only at hw
        unfold evCall at he
        split at he
        · obtain ⟨⟨ys, s1⟩, h1, he⟩ := Option.bind_eq_some_iff.1 he
          obtain ⟨xs, h2, he⟩ := Option.bind_eq_some_iff.1 he
          obtain ⟨⟨r, os⟩, h3, he⟩ := Option.bind_eq_some_iff.1 he
          have e1 := gives_rd hw h1
          subst e1
          simp only at he
          split at he
          · cases he
          · obtain ⟨s2, h4, h5⟩ := Option.bind_eq_some_iff.1 he
            have e2 := backs_rd hw h4
            subst e2
            refine takeRes_out h5 (fun h => ?_)
            have : freshAt s2.ep k id = true := by
              simp only [freshAt, Bool.and_eq_true, beq_iff_eq]
              exact ⟨h.1, by omega⟩
            rw [this] at hf; cases hf
        · cases he
      · cases he
    · cases he
  · split at he
    · exact pu he
    · exact pu he
    · exact pu he
    · split at he
      · cases he
      · split at he
        · exact sm he
        · exact sm he
        · cases he
    · split at he
      · cases he
      · split at he
        · exact sm he
        · exact sm he
        · cases he
    · cases he
  · exact pu he
end
end Go.Proofs.Ytolbhpampnjinaa.Ev
/- An operation asks its operands alone. No condition. -/
namespace Go.Proofs.Ytolbhpampnjinaa.Ev
open Go
set_option linter.unusedVariables false
set_option linter.unusedSimpArgs false
section
variable {s s' t : St} {P : Program} {M : Hints} {C : CallF} {k : Nat} {o : Oper} {v : V} {f f' : Operand → V}

theorem evScalar_eq (h : ∀ x ∈ o.op.operands.toList, f x = f' x) : evScalar P f o = evScalar P f' o :=
  evScalar_congr h fun hp => plain_congr hp fun x hx => by rw [h x hx]

theorem map_eqOn {α : Type} {g g' : α → V} {l : List α} (h : ∀ x ∈ l, g x = g' x) : l.map g = l.map g' := List.map_congr_left h

theorem evOpV_congr (h : ∀ x ∈ o.op.operands.toList, f x = f' x) : evOpV P M C f s k o = evOpV P M C f' s k o := by
  have hs := evScalar_eq (P := P) h
  unfold evOpV
  simp only [hs]
  obtain ⟨dst, op, type, pos, after, guard⟩ := o
  cases op <;> simp only [Op.operands] at h <;> simp only <;> try rfl
  case move x => rw [h x (by simp)]
  case assign x => rw [h x (by simp)]
  case pick c x y => rw [h c (by simp), h x (by simp), h y (by simp)]
  case box t x => rw [h x (by simp)]
  case build t ps =>
    have : (ps.toList.map fun p => (p.1, f p.2)) = ps.toList.map fun p => (p.1, f' p.2) := List.map_congr_left fun p hp => by rw [h p.2 (by simpa using ⟨p.1, by simpa using hp⟩)]
    rw [this]
  case buildSlice t n ps =>
    have : (ps.toList.map fun p => (p.1, f p.2)) = ps.toList.map fun p => (p.1, f' p.2) := List.map_congr_left fun p hp => by rw [h p.2 (by simpa using ⟨p.1, by simpa using hp⟩)]
    rw [this]
  case load t x => rw [h x (by simp)]
  case store t x y => rw [h x (by simp), h y (by simp)]
  case nilCheck x => rw [h x (by simp)]
  case binOp op t x y yt => rw [h x (by simp), h y (by simp)]
  case convert src dst x => rw [h x (by simp)]
  case fieldAddr t x i => rw [h x (by simp)]
  case indexAddr t x i => rw [h x (by simp), h i (by simp)]
  case slice t x lo hi mx =>
    have h1 := h x (by simp)
    have h2 : lo.map f = lo.map f' := by cases lo <;> simp; exact h _ (by simp)
    have h3 : hi.map f = hi.map f' := by cases hi <;> simp; exact h _ (by simp)
    cases mx with
    | none => simp only [h1, h2, h3]
    | some m => rfl
  case makeSlice t l c => rw [h l (by simp), h c (by simp)]
  case makeFunc fn first caps =>
    have : caps.toList.map f = caps.toList.map f' := List.map_congr_left fun x hx => h x (by simp at hx ⊢; exact .inr hx)
    cases fn <;> simp only [this]
  case extract x i => rw [h x (by simp)]
  case call c =>
    obtain ⟨callee, ars, ts⟩ := c
    cases callee with
    | value g =>
      simp only [Call.operands] at h
      have h1 : f g = f' g := h g (by simp)
      have : ars.toList.map f = ars.toList.map f' := List.map_congr_left fun x hx => h x (by simp at hx ⊢; exact .inr hx)
      simp only [h1, this]
    | invoke r m => rfl
    | builtin b =>
      simp only [Call.operands] at h
      have h1 : ∀ x, x ∈ ars.toList → f x = f' x := fun x hx => h x (by simpa using hx)
      cases b <;> simp only <;> try rfl
      case append =>
        split
        · rename_i heq _
          have hb := h1 _ (by rw [heq]; exact List.mem_cons_self)
          have hx := h1 _ (by rw [heq]; exact List.mem_cons_of_mem _ List.mem_cons_self)
          rw [hb, hx]
        · rfl
      case len =>
        split
        · rename_i heq _
          have hb := h1 _ (by rw [heq]; exact List.mem_cons_self)
          rw [hb]
        · rfl
      case clear =>
        split
        · rename_i heq _
          have hb := h1 _ (by rw [heq]; exact List.mem_cons_self)
          rw [hb]
        · rfl
end
end Go.Proofs.Ytolbhpampnjinaa.Ev
/- Regions that draw their order: every order answers as the text's. No condition. -/
namespace Go.Proofs.Ytolbhpampnjinaa.Ev
open Go Go.RowKit
set_option linter.unusedVariables false
set_option linter.unusedSimpArgs false

/-- What one operation of the region does to the state. -/
structure Eff where
  dst : Option Tmp
  v : V
  W : Id → Bool
  hp : Id → Option Blk
def Eff.app (E : Eff) (s : St) : St := St.put { s with heap := fun id => if E.W id then E.hp id else s.heap id } E.dst E.v
theorem Eff.app_ep (E : Eff) (s : St) : (E.app s).ep = s.ep := by unfold Eff.app; rw [put_ep]
theorem Eff.app_heap (E : Eff) (s : St) : (E.app s).heap = fun id => if E.W id then E.hp id else s.heap id := by unfold Eff.app; rw [put_heap]
theorem Eff.app_env (E : Eff) (s : St) (t : Nat) : (E.app s).env t = if E.dst = some t then E.v else s.env t := by
  unfold Eff.app St.put
  split
  · rename_i d hd
    simp only [upd, hd, Option.some.injEq]
    by_cases h : t = d
    · subst h; simp
    · rw [if_neg h, if_neg (fun e => h e.symm)]
  · rename_i hd; rw [hd]; simp
theorem St.ext' {a b : St} (h1 : ∀ t, a.env t = b.env t) (h2 : ∀ id, a.heap id = b.heap id) (h3 : a.ep = b.ep) : a = b := by
  obtain ⟨e1, p1, n1⟩ := a
  obtain ⟨e2, p2, n2⟩ := b
  simp only at h1 h2 h3
  rw [funext h1, funext h2, h3]

/-- Two that do not meet. -/
structure Apart (E G : Eff) : Prop where
  dst : ∀ t, E.dst = some t → G.dst ≠ some t
  W : ∀ id, E.W id = true → G.W id = false
theorem Eff.comm {E G : Eff} (h : Apart E G) (s : St) : E.app (G.app s) = G.app (E.app s) := by
  refine St.ext' (fun t => ?_) (fun id => ?_) (by simp [Eff.app_ep])
  · simp only [Eff.app_env]
    by_cases h1 : E.dst = some t
    · rw [if_pos h1, if_neg (h.dst t h1), if_pos h1]
    · rw [if_neg h1, if_neg h1]
  · simp only [Eff.app_heap]
    cases h1 : E.W id with
    | true => simp [h.W id h1]
    | false => simp

/-- The effects of some of the operations, in the text's order. -/
def sub (Es : Nat → Eff) (L : Nat → Bool) (s : St) : Nat → St
  | 0 => s
  | k + 1 => if L k then (Es k).app (sub Es L s k) else sub Es L s k
theorem sub_succ (Es : Nat → Eff) (L : Nat → Bool) (s : St) (k : Nat) : sub Es L s (k + 1) = if L k then (Es k).app (sub Es L s k) else sub Es L s k := rfl
theorem sub_ep (Es : Nat → Eff) (L : Nat → Bool) (s : St) (k : Nat) : (sub Es L s k).ep = s.ep := by
  induction k with
  | zero => rfl
  | succ k ih => rw [sub_succ]; split <;> simp [Eff.app_ep, ih]
theorem sub_congr {Es : Nat → Eff} {L L' : Nat → Bool} {s : St} : ∀ {k : Nat}, (∀ j, j < k → L j = L' j) → sub Es L s k = sub Es L' s k := by
  intro k
  induction k with
  | zero => intro _; rfl
  | succ k ih => intro h; rw [sub_succ, sub_succ, h k (by omega), ih fun j hj => h j (by omega)]

/-- Alike at some places. -/
def Agree (A : Nat → Prop) (T : Id → Prop) (x y : St) : Prop := (∀ t, A t → x.env t = y.env t) ∧ ∀ id, T id → x.heap id = y.heap id
theorem Agree.app {A : Nat → Prop} {T : Id → Prop} {x y : St} (h : Agree A T x y) (E : Eff) : Agree A T (E.app x) (E.app y) :=
  ⟨fun t ht => by simp only [Eff.app_env, h.1 t ht], fun id hid => by simp only [Eff.app_heap, h.2 id hid]⟩
def Off (E : Eff) (A : Nat → Prop) (T : Id → Prop) : Prop := (∀ t, A t → E.dst ≠ some t) ∧ ∀ id, T id → E.W id = false
theorem Agree.off {A : Nat → Prop} {T : Id → Prop} {x y : St} (h : Agree A T x y) {E : Eff} (ho : Off E A T) : Agree A T (E.app x) y :=
  ⟨fun t ht => by rw [Eff.app_env, if_neg (ho.1 t ht)]; exact h.1 t ht, fun id hid => by simp only [Eff.app_heap, ho.2 id hid]; exact h.2 id hid⟩
theorem Agree.off' {A : Nat → Prop} {T : Id → Prop} {x y : St} (h : Agree A T x y) {E : Eff} (ho : Off E A T) : Agree A T x (E.app y) :=
  ⟨fun t ht => by rw [Eff.app_env, if_neg (ho.1 t ht)]; exact h.1 t ht, fun id hid => by simp only [Eff.app_heap, ho.2 id hid]; exact h.2 id hid⟩

theorem sub_agree {Es : Nat → Eff} {L : Nat → Bool} {s : St} {A : Nat → Prop} {T : Id → Prop} {i n : Nat} (hi : L i = false) (h1 : ∀ j, j < i → L j = false → Off (Es j) A T) (h2 : ∀ j, i < j → j < n → L j = true → Off (Es j) A T) :
    ∀ k, k ≤ n → Agree A T (sub Es L s k) (sub Es (fun _ => true) s (min k i)) := by
  intro k
  induction k with
  | zero => intro _; rw [Nat.zero_min]; exact ⟨fun _ _ => rfl, fun _ _ => rfl⟩
  | succ k ih =>
    intro hk
    have ih := ih (by omega)
    by_cases hlt : k < i
    · rw [Nat.min_eq_left (by omega)] at ih ⊢
      have e2 : sub Es (fun _ => true) s (k + 1) = (Es k).app (sub Es (fun _ => true) s k) := by rw [sub_succ]; rfl
      rw [e2, sub_succ]
      cases hL : L k with
      | true => simp only [if_true]; exact ih.app _
      | false => simp only [Bool.false_eq_true, if_false]; exact ih.off' (h1 k hlt hL)
    · rw [Nat.min_eq_right (by omega)] at ih ⊢
      rw [sub_succ]
      cases hL : L k with
      | true =>
        simp only [if_true]
        have hne : k ≠ i := fun e => by subst e; rw [hi] at hL; cases hL
        exact ih.off (h2 k (by omega) (by omega) hL)
      | false => simp only [Bool.false_eq_true, if_false]; exact ih

theorem sub_add {Es : Nat → Eff} {L : Nat → Bool} {s : St} {i n : Nat} (hin : i < n) (hi : L i = false) (hc : ∀ j, i < j → j < n → L j = true → Apart (Es i) (Es j)) :
    (Es i).app (sub Es L s n) = sub Es (fun j => L j || j == i) s n := by
  have key : ∀ k, i < k → k ≤ n → (Es i).app (sub Es L s k) = sub Es (fun j => L j || j == i) s k := by
    intro k
    induction k with
    | zero => intro h; omega
    | succ k ih =>
      intro h1 h2
      by_cases he : k = i
      · subst he
        have e1 : sub Es L s (k + 1) = sub Es L s k := by rw [sub_succ, hi]; rfl
        have e2 : sub Es (fun j => L j || j == k) s (k + 1) = (Es k).app (sub Es (fun j => L j || j == k) s k) := by rw [sub_succ]; simp
        rw [e1, e2]
        congr 1
        refine sub_congr fun j hj => ?_
        have : (j == k) = false := by simpa using (show j ≠ k by omega)
        simp [this]
      · have ih := ih (by omega) (by omega)
        have hki : (k == i) = false := by simpa using he
        rw [sub_succ, sub_succ]
        simp only [hki, Bool.or_false]
        cases hL : L k with
        | true =>
          simp only [if_true]
          rw [Eff.comm (hc k (by omega) (by omega) hL), ih]
        | false => simp only [Bool.false_eq_true, if_false]; exact ih
  exact key n hin (Nat.le_refl _)

theorem sub_congrE {Es Es' : Nat → Eff} {L : Nat → Bool} {s : St} : ∀ {k : Nat}, (∀ j, j < k → Es j = Es' j) → sub Es L s k = sub Es' L s k := by
  intro k
  induction k with
  | zero => intro _; rfl
  | succ k ih => intro h; rw [sub_succ, sub_succ, h k (by omega), ih fun j hj => h j (by omega)]

section
variable {P : Program} {M : Hints} {C : Nat → CallF} {ops : Array Oper}

/-- What the text's order has shown of operation i. -/
structure Fact (P : Program) (M : Hints) (C : Nat → CallF) (ops : Array Oper) (s0 : St) (Es : Nat → Eff) (Rs : Nat → Rec) (i : Nat) (o : Oper) : Prop where
  pre : (Rs i).pre = preOf ((List.range i).map Rs) o
  ok : apartOk ops s0.ep ((List.range i).map Rs) (Rs i).pre i o (Rs i).T (Rs i).w = true
  dst : (Es i).dst = o.dst
  run : ∃ g, wanted (sub Es (fun _ => true) s0 i) ops o = some g ∧
    (g = true → ∃ y, evOpV P M (C i) (sub Es (fun _ => true) s0 i).opV ((sub Es (fun _ => true) s0 i).only (Rs i).T) i o = some ((Es i).v, y) ∧ (∀ id, (Es i).W id = (freshAt s0.ep i id || ((Rs i).w && (Rs i).T.contains id))) ∧ (Es i).hp = y.heap ∧ (Rs i).w = writes M (sub Es (fun _ => true) s0 i).opV o) ∧
    (g = false → (Es i).v = .tup [] ∧ (∀ id, (Es i).W id = false) ∧ (Rs i).T = [] ∧ (Rs i).w = false)

theorem evDraw_facts {s0 : St} : ∀ (l : List Oper) {k : Nat} {s s' : St} {recs : List Rec} {Es0 : Nat → Eff} {Rs0 : Nat → Rec}, recs = (List.range k).map Rs0 → s = sub Es0 (fun _ => true) s0 k → evDraw P M C ops s recs k l = some s' →
    ∃ Es Rs, (∀ j, j < k → Es j = Es0 j ∧ Rs j = Rs0 j) ∧ s' = sub Es (fun _ => true) s0 (k + l.length) ∧ ∀ (j : Nat) (o : Oper), l[j]? = some o → Fact P M C ops s0 Es Rs (k + j) o := by
  intro l
  induction l with
  | nil =>
    intro k s s' recs Es0 Rs0 hr hs he
    simp only [evDraw, Option.some.injEq] at he
    subst he
    exact ⟨Es0, Rs0, fun _ _ => ⟨rfl, rfl⟩, by rw [hs]; rfl, fun j o ho => by simp at ho⟩
  | cons o l ih =>
    intro k s s' recs Es0 Rs0 hr hs he
    simp only [evDraw] at he
    obtain ⟨g, hg, he⟩ := Option.bind_eq_some_iff.1 he
    have hep : s.ep = s0.ep := by rw [hs, sub_ep]
    -- one more
    have more : ∀ (E : Eff) (R : Rec), evDraw P M C ops (E.app s) (recs ++ [R]) (k + 1) l = some s' → R.pre = preOf recs o → apartOk ops s.ep recs R.pre k o R.T R.w = true → E.dst = o.dst →
        (g = true → ∃ y, evOpV P M (C k) s.opV (s.only R.T) k o = some (E.v, y) ∧ (∀ id, E.W id = (freshAt s0.ep k id || (R.w && R.T.contains id))) ∧ E.hp = y.heap ∧ R.w = writes M s.opV o) →
        (g = false → E.v = .tup [] ∧ (∀ id, E.W id = false) ∧ R.T = [] ∧ R.w = false) →
        ∃ Es Rs, (∀ j, j < k → Es j = Es0 j ∧ Rs j = Rs0 j) ∧ s' = sub Es (fun _ => true) s0 (k + (o :: l).length) ∧ ∀ (j : Nat) (o' : Oper), (o :: l)[j]? = some o' → Fact P M C ops s0 Es Rs (k + j) o' := by
      intro E R he hpre hok hdst ht hf
      have hlow : ∀ j, j < k → upd Es0 k E j = Es0 j := fun j hj => by simp [upd, show j ≠ k by omega]
      have hlowR : ∀ j, j < k → upd Rs0 k R j = Rs0 j := fun j hj => by simp [upd, show j ≠ k by omega]
      obtain ⟨Es, Rs, h1, h2, h3⟩ := ih (k := k + 1) (Es0 := upd Es0 k E) (Rs0 := upd Rs0 k R) (by
        rw [List.range_succ, List.map_append, hr]
        congr 1
        · refine List.map_congr_left fun j hj => ?_
          rw [hlowR j (List.mem_range.1 hj)]
        · simp [upd]) (by
        rw [sub_succ]
        simp only [if_true]
        rw [sub_congrE (Es' := Es0) hlow, ← hs]
        simp [upd]) he
      have hE : ∀ j, j < k → Es j = Es0 j := fun j hj => by rw [(h1 j (by omega)).1, hlow j hj]
      have hR : ∀ j, j < k → Rs j = Rs0 j := fun j hj => by rw [(h1 j (by omega)).2, hlowR j hj]
      have hEk : Es k = E := by rw [(h1 k (by omega)).1]; simp [upd]
      have hRk : Rs k = R := by rw [(h1 k (by omega)).2]; simp [upd]
      have hsub : sub Es (fun _ => true) s0 k = s := by rw [sub_congrE hE, ← hs]
      have hrecs : (List.range k).map Rs = recs := by rw [hr]; exact List.map_congr_left fun j hj => hR j (List.mem_range.1 hj)
      refine ⟨Es, Rs, fun j hj => ⟨hE j hj, hR j hj⟩, by rw [h2]; congr 1; simp; omega, fun j o' ho => ?_⟩
      cases j with
      | zero =>
        have : o = o' := by simpa using ho
        subst this
        refine ⟨by rw [Nat.add_zero, hRk, hrecs]; exact hpre, by rw [Nat.add_zero, hRk, hrecs, ← hep]; exact hok, by rw [Nat.add_zero, hEk]; exact hdst, ⟨g, by rw [Nat.add_zero, hsub]; exact hg, fun hgt => ?_, fun hgf => ?_⟩⟩
        · rw [Nat.add_zero, hsub, hEk, hRk]; exact ht hgt
        · rw [Nat.add_zero, hEk, hRk]; exact hf hgf
      | succ j =>
        have := h3 j o' (by simpa using ho)
        rw [show k + (j + 1) = k + 1 + j by omega]
        exact this
    cases g with
    | true =>
      simp only [if_true] at he
      split at he
      · rename_i hok
        obtain ⟨⟨v, y⟩, hy, he⟩ := Option.bind_eq_some_iff.1 he
        refine more ⟨o.dst, v, fun id => freshAt s.ep k id || (writes M s.opV o && (touch s o).contains id), y.heap⟩ ⟨preOf recs o, touch s o, writes M s.opV o⟩ ?_ rfl hok rfl (fun _ => ⟨y, hy, fun id => by rw [← hep], rfl, rfl⟩) (fun hf => by cases hf)
        exact he
      · cases he
    | false =>
      simp only [Bool.false_eq_true, if_false] at he
      split at he
      · rename_i hok
        refine more ⟨o.dst, .tup [], fun _ => false, fun _ => none⟩ ⟨preOf recs o, [], false⟩ ?_ rfl hok rfl (fun hf => by cases hf) (fun _ => ⟨rfl, fun _ => rfl, rfl, rfl⟩)
        have : Eff.app ⟨o.dst, .tup [], fun _ => false, fun _ => none⟩ s = s.put o.dst (.tup []) := by
          unfold Eff.app
          simp
        rw [this]; exact he
      · cases he

variable {s0 : St} {Es : Nat → Eff} {Rs : Nat → Rec} {n : Nat}

/-- Two operations that may come up in either order. -/
structure Unord (e : Nat) (Es : Nat → Eff) (Rs : Nat → Rec) (ops : Array Oper) (j k : Nat) (oj ok : Oper) : Prop where
  tmp : oj.apart ops ok = true
  f1 : ∀ id ∈ (Rs k).T, freshAt e j id = false
  f2 : ∀ id ∈ (Rs j).T, freshAt e k id = false
  ww : ((Rs j).w || (Rs k).w) = true → ∀ id ∈ (Rs k).T, id ∉ (Rs j).T

theorem unord_of (hF : ∀ (i : Nat) (o : Oper), ops[i]? = some o → Fact P M C ops s0 Es Rs i o) {j k : Nat} {oj ok : Oper} (hj : ops[j]? = some oj) (hk : ops[k]? = some ok) (hlt : j < k) (hn : j ∉ (Rs k).pre) : Unord s0.ep Es Rs ops j k oj ok := by
  have h := (hF k ok hk).ok
  unfold apartOk at h
  simp only [Bool.and_eq_true] at h
  have h2 := List.all_eq_true.1 h.2 (Rs j, j) (by
    rw [List.mem_zipIdx_iff_getElem?]
    simp [List.getElem?_range hlt])
  simp only [Bool.or_eq_true, Bool.and_eq_true, List.contains_iff_mem, hn, false_or, hj] at h2
  obtain ⟨⟨⟨a, b⟩, c⟩, d⟩ := h2
  refine ⟨a, fun id hid => ?_, fun id hid => ?_, fun hw id hid hid2 => ?_⟩
  · have := List.all_eq_true.1 b id hid; simpa using this
  · have := List.all_eq_true.1 c id hid; simpa using this
  · rcases d with d | d
    · rw [hw] at d; simp at d
    · have := List.all_eq_true.1 d id hid
      simp at this
      exact this hid2

theorem W_of {i : Nat} {o : Oper} (hF : Fact P M C ops s0 Es Rs i o) {id : Id} (hW : (Es i).W id = true) : freshAt s0.ep i id = true ∨ ((Rs i).w = true ∧ id ∈ (Rs i).T) := by
  obtain ⟨g, _, ht, hf⟩ := hF.run
  cases g with
  | true =>
    obtain ⟨y, _, h2, _⟩ := ht rfl
    rw [h2 id] at hW
    simpa using hW
  | false =>
    rw [(hf rfl).2.1 id] at hW; cases hW

theorem Unord.apart {j k : Nat} {oj ok : Oper} (h : Unord s0.ep Es Rs ops j k oj ok) (hj : Fact P M C ops s0 Es Rs j oj) (hk : Fact P M C ops s0 Es Rs k ok) (hne : j ≠ k) : Apart (Es j) (Es k) := by
  obtain ⟨t1, t2, t3⟩ := Oper.apart_spec h.tmp
  refine ⟨fun t ht => by rw [hk.dst]; rw [hj.dst] at ht; exact t2 t ht, fun id hid => ?_⟩
  cases hW : (Es k).W id with
  | false => rfl
  | true =>
    exfalso
    rcases W_of hj hid with h1 | ⟨h1, h1'⟩
    · rcases W_of hk hW with h2 | ⟨h2, h2'⟩
      · simp only [freshAt, Bool.and_eq_true, beq_iff_eq] at h1 h2
        omega
      · rw [h.f1 id h2'] at h1; cases h1
    · rcases W_of hk hW with h2 | ⟨h2, h2'⟩
      · rw [h.f2 id h1'] at h2; cases h2
      · exact h.ww (by rw [h1]; rfl) id h2' h1'
theorem Apart.symm {E G : Eff} (h : Apart E G) : Apart G E :=
  ⟨fun t h1 h2 => h.dst t h2 h1, fun id hid => by
    cases hW : E.W id with
    | false => rfl
    | true => rw [h.W id hW] at hid; cases hid⟩

/-- What operation i looks at. -/
def Looks (ops : Array Oper) (o : Oper) : Nat → Prop := fun t => t ∈ o.looksAt ops
def Touches (Rs : Nat → Rec) (i : Nat) : Id → Prop := fun id => id ∈ (Rs i).T

theorem Unord.off1 {j k : Nat} {oj ok : Oper} (h : Unord s0.ep Es Rs ops j k oj ok) (hj : Fact P M C ops s0 Es Rs j oj) : Off (Es j) (Looks ops ok) (Touches Rs k) := by
  obtain ⟨t1, t2, t3⟩ := Oper.apart_spec h.tmp
  refine ⟨fun t ht hd => by rw [hj.dst] at hd; exact t1 t hd ht, fun id hid => ?_⟩
  cases hW : (Es j).W id with
  | false => rfl
  | true =>
    exfalso
    rcases W_of hj hW with h1 | ⟨h1, h1'⟩
    · rw [h.f1 id hid] at h1; cases h1
    · exact h.ww (by rw [h1]; rfl) id hid h1'
theorem Unord.off2 {j k : Nat} {oj ok : Oper} (h : Unord s0.ep Es Rs ops j k oj ok) (hk : Fact P M C ops s0 Es Rs k ok) : Off (Es k) (Looks ops oj) (Touches Rs j) := by
  obtain ⟨t1, t2, t3⟩ := Oper.apart_spec h.tmp
  refine ⟨fun t ht hd => by rw [hk.dst] at hd; exact t3 t hd ht, fun id hid => ?_⟩
  cases hW : (Es k).W id with
  | false => rfl
  | true =>
    exfalso
    rcases W_of hk hW with h1 | ⟨h1, h1'⟩
    · rw [h.f2 id hid] at h1; cases h1
    · exact h.ww (by rw [h1]; simp) id h1' hid
end
end Go.Proofs.Ytolbhpampnjinaa.Ev
/- Regions that draw their order, the second part. No condition. -/
namespace Go.Proofs.Ytolbhpampnjinaa.Ev
open Go Go.RowKit
set_option linter.unusedVariables false
set_option linter.unusedSimpArgs false
section
variable {P : Program} {M : Hints} {C : Nat → CallF} {ops : Array Oper} {s0 : St} {Es : Nat → Eff} {Rs : Nat → Rec} {n : Nat}

theorem edge_lt (hF : ∀ (i : Nat) (o : Oper), ops[i]? = some o → Fact P M C ops s0 Es Rs i o) {m : Nat} {o : Oper} (ho : ops[m]? = some o) : ∀ e ∈ o.after, Region.binds .any e = true → e.on < m := fun e he hb => by
  have h := (hF m o ho).ok
  unfold apartOk at h
  simp only [Bool.and_eq_true] at h
  have := List.all_eq_true.1 h.1.1 e (by simpa using he)
  rw [hb] at this
  simpa using this

theorem pre_closed (hF : ∀ (i : Nat) (o : Oper), ops[i]? = some o → Fact P M C ops s0 Es Rs i o) {L : Nat → Bool} (hL : ∀ (m : Nat) (o : Oper), L m = true → ops[m]? = some o → ∀ e ∈ o.after, Region.binds .any e = true → L e.on = true) :
    ∀ (m : Nat) (o : Oper), ops[m]? = some o → (∀ e ∈ o.after, Region.binds .any e = true → L e.on = true) → ∀ j ∈ (Rs m).pre, L j = true := by
  intro m
  induction m using Nat.strongRecOn with
  | _ m ih =>
    intro o ho hp j hj
    rw [(hF m o ho).pre] at hj
    unfold preOf at hj
    rw [List.mem_eraseDups] at hj
    obtain ⟨e, he, hj⟩ := List.mem_flatMap.1 hj
    rw [List.mem_filter] at he
    have hem : e ∈ o.after := by simpa using he.1
    have hlt := edge_lt hF ho e hem he.2
    have hLe := hp e hem he.2
    rcases List.mem_cons.1 hj with rfl | hj
    · exact hLe
    · have hm : m < ops.size := (Array.getElem?_eq_some_iff.1 ho).1
      have h1 : ((List.range m).map Rs)[e.on]? = some (Rs e.on) := by simp [List.getElem?_range hlt]
      rw [h1] at hj
      simp only [Option.map_some, Option.getD_some] at hj
      have ho' : ops[e.on]? = some (ops[e.on]'(by omega)) := Array.getElem?_eq_getElem (by omega)
      exact ih e.on hlt _ ho' (hL e.on _ hLe ho') j hj

theorem no_fresh (hF : ∀ (i : Nat) (o : Oper), ops[i]? = some o → Fact P M C ops s0 Es Rs i o) {L : Nat → Bool} {i : Nat} (hLi : L i = false) (h0 : ∀ id : Id, id.1 = s0.ep → s0.heap id = none)
    (hu : ∀ j, i < j → j < ops.size → L j = true → i ∉ (Rs j).pre) {oi : Oper} (hi : ops[i]? = some oi) {id : Id} (hf : freshAt s0.ep i id = true) : ∀ k, k ≤ ops.size → (sub Es L s0 k).heap id = none := by
  have hf' : id.1 = s0.ep ∧ id.2 / 1024 = i := by simpa [freshAt] using hf
  intro k
  induction k with
  | zero => intro _; exact h0 id hf'.1
  | succ k ih =>
    intro hk
    rw [sub_succ]
    cases hL : L k with
    | false => simp only [Bool.false_eq_true, if_false]; exact ih (by omega)
    | true =>
      simp only [if_true, Eff.app_heap]
      have hko : ops[k]? = some (ops[k]'(by omega)) := Array.getElem?_eq_getElem (by omega)
      have hki : k ≠ i := fun e => by subst e; rw [hLi] at hL; cases hL
      have hW : (Es k).W id = false := by
        cases hW : (Es k).W id with
        | false => rfl
        | true =>
          exfalso
          rcases W_of (hF k _ hko) hW with h1 | ⟨h1, h2⟩
          · have : id.1 = s0.ep ∧ id.2 / 1024 = k := by simpa [freshAt] using h1
            omega
          · rcases Nat.lt_or_ge i k with hlt | hge
            · have := (unord_of hF hi hko hlt (hu k hlt (by omega) hL)).f1 id h2
              rw [hf] at this; cases this
            · have h := (hF k _ hko).ok
              unfold apartOk at h
              simp only [Bool.and_eq_true] at h
              have := List.all_eq_true.1 h.1.2 id h2
              simp only [Bool.not_eq_true', Bool.and_eq_false_iff, beq_eq_false_iff_ne, decide_eq_false_iff_not] at this
              rcases this with h3 | h3
              · exact h3 hf'.1
              · omega
      rw [hW]
      simp only [Bool.false_eq_true, if_false]
      exact ih (by omega)

theorem wanted_congr {x y : St} {o : Oper} (h : ∀ t, Looks ops o t → x.env t = y.env t) : wanted x ops o = wanted y ops o := by
  unfold wanted
  cases hg : o.guard with
  | none => rfl
  | some jb =>
    obtain ⟨j, b⟩ := jb
    simp only
    cases ht : (ops[j]?).bind (·.dst) with
    | none => rfl
    | some t =>
      have : x.env t = y.env t := h t (by
        unfold Looks Oper.looksAt
        rw [hg]
        simp [ht])
      simp only [Option.map_some, this]
theorem opV_congr {x y : St} {o : Oper} (h : ∀ t, Looks ops o t → x.env t = y.env t) : ∀ z ∈ o.op.operands.toList, x.opV z = y.opV z := by
  intro z hz
  cases z with
  | tmp t =>
    exact h t (by
      unfold Looks Oper.looksAt
      refine List.mem_append_left _ (List.mem_filterMap.2 ⟨.tmp t, hz, rfl⟩))
  | _ => rfl

/-- An operation that may come up answers as in the text's order. -/
theorem at_state (hF : ∀ (i : Nat) (o : Oper), ops[i]? = some o → Fact P M C ops s0 Es Rs i o) {L : Nat → Bool} {i : Nat} {o : Oper} (hi : ops[i]? = some o) (hLi : L i = false) (h0 : ∀ id : Id, id.1 = s0.ep → s0.heap id = none)
    (hL : ∀ (m : Nat) (o : Oper), L m = true → ops[m]? = some o → ∀ e ∈ o.after, Region.binds .any e = true → L e.on = true) (hr : ∀ e ∈ o.after, Region.binds .any e = true → L e.on = true) :
    ∃ g, wanted (sub Es L s0 ops.size) ops o = some g ∧
      (g = true → ∃ x1, evOp P M (C i) (sub Es L s0 ops.size) i o = some ((Es i).v, x1) ∧ x1.put o.dst (Es i).v = sub Es (fun j => L j || j == i) s0 ops.size) ∧
      (g = false → (sub Es L s0 ops.size).put o.dst (.tup []) = sub Es (fun j => L j || j == i) s0 ops.size) := by
  have hin : i < ops.size := (Array.getElem?_eq_some_iff.1 hi).1
  have hFi := hF i o hi
  have hpre := pre_closed hF hL
  have hlow : ∀ j, j < i → L j = false → j ∉ (Rs i).pre := fun j hj hLj hm => by
    rw [hpre i o hi hr j hm] at hLj; cases hLj
  have hhigh : ∀ j, i < j → j < ops.size → L j = true → i ∉ (Rs j).pre := fun j hj hjn hLj hm => by
    have hjo : ops[j]? = some (ops[j]'hjn) := Array.getElem?_eq_getElem hjn
    have := hpre j _ hjo (hL j _ hLj hjo) i hm
    rw [hLi] at this; cases this
  have hag := sub_agree (Es := Es) (s := s0) (A := Looks ops o) (T := Touches Rs i) (i := i) (n := ops.size) hLi
    (fun j hj hLj => by
      have hjo : ops[j]? = some (ops[j]'(by omega)) := Array.getElem?_eq_getElem (by omega)
      exact (unord_of hF hjo hi hj (hlow j hj hLj)).off1 (hF j _ hjo))
    (fun j hj hjn hLj => by
      have hjo : ops[j]? = some (ops[j]'hjn) := Array.getElem?_eq_getElem hjn
      exact (unord_of hF hi hjo hj (hhigh j hj hjn hLj)).off2 (hF j _ hjo))
    ops.size (Nat.le_refl _)
  rw [Nat.min_eq_right (by omega)] at hag
  have hadd := sub_add (Es := Es) (s := s0) hin hLi (fun j hj hjn hLj => by
      have hjo : ops[j]? = some (ops[j]'hjn) := Array.getElem?_eq_getElem hjn
      exact (unord_of hF hi hjo hj (hhigh j hj hjn hLj)).apart hFi (hF j _ hjo) (by omega))
  obtain ⟨g, hg, ht, hf⟩ := hFi.run
  refine ⟨g, by rw [wanted_congr (fun t h => hag.1 t h)]; exact hg, fun hgt => ?_, fun hgf => ?_⟩
  · obtain ⟨y, hy, hW, hhp, hw⟩ := ht hgt
    have hep : (sub Es L s0 ops.size).ep = s0.ep := sub_ep _ _ _ _
    have hepi : (sub Es (fun _ => true) s0 i).ep = s0.ep := sub_ep _ _ _ _
    have hext : Ext (fun id => (Rs i).T.contains id = false ∧ freshAt s0.ep i id = false) ((sub Es (fun _ => true) s0 i).only (Rs i).T) (sub Es L s0 ops.size) := by
      refine ⟨by rw [hep]; exact hepi.symm, fun id hid => ?_, fun id hid => ?_⟩
      · simp only [St.only]
        cases hc : (Rs i).T.contains id with
        | true => simp only [if_true]; exact hag.2 id (show id ∈ (Rs i).T by simpa using hc)
        | false =>
          simp only [Bool.false_eq_true, if_false]
          have hfr : freshAt s0.ep i id = true := by
            cases hfr : freshAt s0.ep i id with
            | true => rfl
            | false => exact absurd ⟨hc, hfr⟩ hid
          exact no_fresh hF hLi h0 hhigh hi hfr ops.size (Nat.le_refl _)
      · simp only [St.only, hid.1, Bool.false_eq_true, if_false]
    obtain ⟨x1, h1, h2, h3, h4, h5⟩ := hext.op (P := P) (M := M) (C := C i) (k := i) (fun id hid hh => by
      have : freshAt s0.ep i id = true := by simp only [freshAt, Bool.and_eq_true, beq_iff_eq]; exact ⟨by rw [hh.1]; exact hepi, hh.2⟩
      rw [hid.2] at this; cases this) hy
    refine ⟨x1, ?_, ?_⟩
    · unfold evOp
      rw [evOpV_congr (opV_congr (ops := ops) (fun t h => hag.1 t h))]
      exact h1
    · rw [← hadd]
      refine St.ext' (fun t => ?_) (fun id => ?_) ?_
      · have e1 : ∀ (z : St), (z.put o.dst (Es i).v).env t = if o.dst = some t then (Es i).v else z.env t := fun z => by
          have := Eff.app_env ⟨o.dst, (Es i).v, fun _ => false, fun _ => none⟩ z t
          simpa [Eff.app] using this
        rw [e1, Eff.app_env, hFi.dst, h4]
      · rw [put_heap, Eff.app_heap]
        simp only [hW id]
        have hyr : (Rs i).w = false → freshAt s0.ep i id = false → y.heap id = ((sub Es (fun _ => true) s0 i).only (Rs i).T).heap id := fun hwf hff => by
          refine reads_out hy (by rw [← hw]; exact hwf) ?_
          have : ((sub Es (fun _ => true) s0 i).only (Rs i).T).ep = s0.ep := hepi
          rw [this]; exact hff
        cases hff : freshAt s0.ep i id with
        | true =>
          simp only [Bool.true_or, if_true]
          rw [hhp, h2.out id (fun hd => by rw [hd.2] at hff; cases hff)]
        | false =>
          cases hc : (Rs i).T.contains id with
          | false =>
            simp only [Bool.and_false, Bool.or_self, Bool.false_eq_true, if_false]
            exact h3 id ⟨hc, hff⟩
          | true =>
            have hnd : ¬ ((Rs i).T.contains id = false ∧ freshAt s0.ep i id = false) := fun hd => by rw [hd.1] at hc; cases hc
            rw [h2.out id hnd]
            cases hwi : (Rs i).w with
            | true => simp [hhp]
            | false =>
              simp only [Bool.false_and, Bool.or_self, Bool.false_eq_true, if_false]
              rw [hyr hwi hff, ← hext.out id hnd]
      · rw [put_ep, Eff.app_ep, h5]
  · obtain ⟨hv, hWf, _, _⟩ := hf hgf
    rw [← hadd]
    refine St.ext' (fun t => ?_) (fun id => ?_) ?_
    · have e1 : ∀ (z : St), (z.put o.dst (.tup [])).env t = if o.dst = some t then (.tup []) else z.env t := fun z => by
        have := Eff.app_env ⟨o.dst, .tup [], fun _ => false, fun _ => none⟩ z t
        simpa [Eff.app] using this
      rw [e1, Eff.app_env, hFi.dst, hv]
    · rw [put_heap, Eff.app_heap]
      simp [hWf id]
    · rw [put_ep, Eff.app_ep]

theorem unlisted_lt {listed : Array Bool} {i n : Nat} (hi : i < n) (hl : listed.getD i true = false) :
    ((List.range n).filter fun j => !(listed.setIfInBounds i true).getD j true).length < ((List.range n).filter fun j => !listed.getD j true).length := by
  have hsz : i < listed.size := by
    rcases Nat.lt_or_ge i listed.size with h | h
    · exact h
    · simp [Array.getElem?_eq_none h] at hl
  have hset : ∀ j, (listed.setIfInBounds i true).getD j true = (listed.getD j true || j == i) := fun j => by
    by_cases h : i = j
    · subst h; simp [hsz]
    · have hji : (j == i) = false := by simpa using (fun e => h e.symm)
      rw [getD_set_ne true h, hji, Bool.or_false]
  have hsub : ((List.range n).filter fun j => !(listed.setIfInBounds i true).getD j true) = ((List.range n).filter fun j => !listed.getD j true).filter fun j => !(j == i) := by
    rw [List.filter_filter]
    congr 1
    funext j
    rw [hset]
    cases listed.getD j true <;> cases (j == i) <;> rfl
  rw [hsub]
  have hle := List.length_filter_le (fun j => !(j == i)) ((List.range n).filter fun j => !listed.getD j true)
  rcases Nat.lt_or_ge (((List.range n).filter fun j => !listed.getD j true).filter fun j => !(j == i)).length ((List.range n).filter fun j => !listed.getD j true).length with h | h
  · exact h
  · have he := (List.filter_sublist (p := fun j => !(j == i)) (l := (List.range n).filter fun j => !listed.getD j true)).eq_of_length (by omega)
    have hm : i ∈ (List.range n).filter fun j => !listed.getD j true := List.mem_filter.2 ⟨List.mem_range.2 hi, by rw [hl]; rfl⟩
    rw [← he, List.mem_filter] at hm
    simp at hm

variable {B : Nat} {io : Nat → Prop} {fl : List Nat}

theorem evDraw_any {Q : Exit → Act → World → Prop} (hC : ∀ k, CallsOk P M (C k)) (hF : ∀ (i : Nat) (o : Oper), ops[i]? = some o → Fact P M C ops s0 Es Rs i o) (h0 : ∀ id : Id, id.1 = s0.ep → s0.heap id = none) :
    ∀ (fuel : Nat) (listed : Array Bool) {a : Act} {w : World} {ρ : Rho} {F : Id → List Nat}, listed.size = ops.size → ((List.range ops.size).filter fun j => !listed.getD j true).length ≤ fuel →
      (∀ (m : Nat) (o : Oper), listed.getD m false = true → ops[m]? = some o → ∀ e ∈ o.after, Region.binds .any e = true → listed.getD e.on false = true) →
      Rel P B io w a.tmps (sub Es (fun j => listed.getD j false) s0 ops.size) ρ F fl → (∀ id : Id, id.1 = s0.ep → (ρ id).isSome = true → listed.getD (id.2 / 1024) false = true) → opsDst a.tmps.size ops.toList = true →
      (∀ a' w', After P B io fl w a ρ (sub Es (fun _ => true) s0 ops.size) a' w' → Q .normal a' w') → wpAny P .any ops Q fuel listed a w := by
  have same : ∀ (listed : Array Bool) (j : Nat), listed.size = ops.size → j < ops.size → listed.getD j false = listed.getD j true := fun listed j hs hj => by
    simp [show j < listed.size by omega]
  have done : ∀ (listed : Array Bool) {a : Act} {w : World} {ρ : Rho} {F : Id → List Nat}, listed.size = ops.size → (∀ (m : Nat) (o : Oper), listed.getD m false = true → ops[m]? = some o → ∀ e ∈ o.after, Region.binds .any e = true → listed.getD e.on false = true) → Region.ready .any ops listed = [] →
      Rel P B io w a.tmps (sub Es (fun j => listed.getD j false) s0 ops.size) ρ F fl → (∀ a' w', After P B io fl w a ρ (sub Es (fun _ => true) s0 ops.size) a' w' → Q .normal a' w') → Q .normal a w := by
    intro listed a w ρ F hs hcl hr h hQ
    have hall : ∀ j, j < ops.size → listed.getD j false = true := by
      intro j
      induction j using Nat.strongRecOn with
      | _ j ih =>
        intro hj
        have hjo : ops[j]? = some (ops[j]'hj) := Array.getElem?_eq_getElem hj
        cases hl : listed.getD j false with
        | true => rfl
        | false =>
          exfalso
          have : j ∈ Region.ready .any ops listed := mem_ready.2 ⟨by rw [← same listed j hs hj]; exact hl, _, hjo, fun e he hb => ih e.on (edge_lt hF hjo e he hb) (by have := edge_lt hF hjo e he hb; omega)⟩
          rw [hr] at this; cases this
    have : sub Es (fun j => listed.getD j false) s0 ops.size = sub Es (fun _ => true) s0 ops.size := sub_congr fun j hj => hall j hj
    rw [this] at h
    exact hQ _ _ (.refl h)
  intro fuel
  induction fuel with
  | zero =>
    intro listed a w ρ F hs hf hcl h hρ hd hQ
    have hr : Region.ready .any ops listed = [] := by
      have hnil := List.eq_nil_of_length_eq_zero (Nat.le_zero.1 hf)
      unfold Region.ready
      rw [List.filter_eq_nil_iff]
      intro i hi hh
      simp only [Bool.and_eq_true] at hh
      have hm : i ∈ (List.range ops.size).filter fun j => !listed.getD j true := List.mem_filter.2 ⟨hi, hh.1⟩
      rw [hnil] at hm; cases hm
    exact ⟨hr, done listed hs hcl hr h hQ⟩
  | succ fuel ih =>
    intro listed a w ρ F hs hf hcl h hρ hd hQ
    refine ⟨fun hr => done listed hs hcl hr h hQ, fun i hi => ?_⟩
    obtain ⟨hun, o, ho, hready⟩ := mem_ready.1 hi
    have hin : i < ops.size := (Array.getElem?_eq_some_iff.1 ho).1
    have hLi : listed.getD i false = false := by rw [same listed i hs hin]; exact hun
    obtain ⟨g, hg, ht, hff⟩ := at_state hF (L := fun j => listed.getD j false) ho hLi h0 hcl hready
    have hset : ∀ j, (listed.setIfInBounds i true).getD j false = (listed.getD j false || j == i) := fun j => by
      by_cases e : i = j
      · subst e; simp [show i < listed.size by omega]
      · have hji : (j == i) = false := by simpa using (fun h => e h.symm)
        rw [getD_set_ne false e, hji, Bool.or_false]
    have hnew : ∀ id : Id, id.1 = (sub Es (fun j => listed.getD j false) s0 ops.size).ep → id.2 / 1024 = i → ρ id = none := fun id h1 h2 => by
      cases hr : ρ id with
      | none => rfl
      | some x =>
        have := hρ id (by rw [h1, sub_ep]) (by rw [hr]; rfl)
        rw [h2, hLi] at this; cases this
    have hd' : ∀ d, o.dst = some d → d < a.tmps.size := opsDst_get hd (by simpa using ho)
    have next : ∀ {s2 : St} {a' : Act} {w' : World} {ρ' : Rho} {F' : Id → List Nat}, Rel P B io w' a'.tmps s2 ρ' F' fl → s2 = sub Es (fun j => listed.getD j false || j == i) s0 ops.size → Left B io w w' → (∀ id i, ρ id = some i → ρ' id = some i) →
        (∀ id, (ρ' id).isSome = true → (ρ id).isSome = true ∨ (id.1 = (sub Es (fun j => listed.getD j false) s0 ops.size).ep ∧ id.2 / 1024 = i)) → a'.tmps.size = a.tmps.size → a'.defers = a.defers → wpAny P .any ops Q fuel (listed.setIfInBounds i true) a' w' := by
      intro s2 a' w' ρ' F' hR hs2 hLf hρ' hdom hts hdf
      subst hs2
      refine ih (listed.setIfInBounds i true) (by simpa using hs) (by have := unlisted_lt hin hun; omega) (fun m o' hm hmo e he hb => ?_) (by
        have : (fun j => (listed.setIfInBounds i true).getD j false) = fun j => listed.getD j false || j == i := funext hset
        rw [this]; exact hR) (fun id h1 h2 => ?_) (by rw [hts]; exact hd) (fun a2 w2 hA => hQ _ _ (.trans hLf hρ' hts hdf hA))
      · rw [hset] at hm ⊢
        simp only [Bool.or_eq_true, beq_iff_eq] at hm ⊢
        rcases hm with hm | rfl
        · exact .inl (hcl m o' hm hmo e he hb)
        · rw [ho] at hmo; injection hmo with hmo; subst hmo
          exact .inl (hready e he hb)
      · rw [hset]
        simp only [Bool.or_eq_true, beq_iff_eq]
        rcases hdom id h2 with h3 | h3
        · exact .inl (hρ id h1 h3)
        · exact .inr h3.2
    cases g with
    | true =>
      obtain ⟨x1, hx1, hx2⟩ := ht rfl
      refine opStep (M := M) (C := C i) (v := (Es i).v) (s1 := x1) h ho hd' hg (fun _ => hnew) (fun _ => hx1) (fun _ => hC i _ _ _ _ _ _ F _ _ _ _ h hnew) (fun a' w' ρ' F' hR hep hLf hρ' hdom hts hdf => ?_)
      simp only [if_true] at hR
      exact next hR hx2 hLf hρ' hdom hts hdf
    | false =>
      refine opStep (M := M) (C := C i) (v := .undef) (s1 := s0) h ho hd' hg (fun hf => by cases hf) (fun hf => by cases hf) (fun hf => by cases hf) (fun a' w' ρ' F' hR hep hLf hρ' hdom hts hdf => ?_)
      simp only [Bool.false_eq_true, if_false] at hR
      exact next hR (hff rfl) hLf hρ' hdom hts hdf

theorem evDraw_ok {Q : Exit → Act → World → Prop} (hC : ∀ k, CallsOk P M (C k)) {s' : St} {a : Act} {w : World} {ρ : Rho} {F : Id → List Nat} (h : Rel P B io w a.tmps s0 ρ F fl) (he : evDraw P M C ops s0 [] 0 ops.toList = some s')
    (hnew : ∀ id : Id, id.1 = s0.ep → ρ id = none) (hd : opsDst a.tmps.size ops.toList = true) (hQ : ∀ a' w', After P B io fl w a ρ s' a' w' → Q .normal a' w') :
    wpAny P .any ops Q ops.size (Array.replicate ops.size false) a w := by
  obtain ⟨Es, Rs, _, h2, h3⟩ := evDraw_facts (s0 := s0) ops.toList (k := 0) (Es0 := fun _ => ⟨none, .undef, fun _ => false, fun _ => none⟩) (Rs0 := fun _ => ⟨[], [], false⟩) rfl rfl he
  rw [Nat.zero_add, Array.length_toList] at h2
  subst h2
  have hF : ∀ (i : Nat) (o : Oper), ops[i]? = some o → Fact P M C ops s0 Es Rs i o := fun i o ho => by
    have := h3 i o (by simpa using ho)
    rwa [Nat.zero_add] at this
  have hrep : ∀ j, (Array.replicate ops.size false).getD j false = false := fun j => by
    by_cases h : j < ops.size <;> simp [h]
  have hh0 : ∀ id : Id, id.1 = s0.ep → s0.heap id = none := fun id h1 => by
    cases hb : s0.heap id with
    | none => rfl
    | some b =>
      exfalso
      have hB := h.heap id b hb
      rw [hnew id h1] at hB
      unfold BlkR at hB
      split at hB
      · obtain ⟨_, _, _, _, _, hi, _⟩ := hB; cases hi
      · rcases hB with ⟨hi, _⟩ | ⟨_, _, _, _, hi, _⟩ <;> cases hi
      · obtain ⟨_, hB⟩ := hB
        rcases hB with ⟨hi, _⟩ | ⟨_, _, _, _, hi, _⟩ <;> cases hi
  refine evDraw_any (F := F) hC hF hh0 ops.size _ (by simp) (by
    have := List.length_filter_le (fun j => !(Array.replicate ops.size false).getD j true) (List.range ops.size)
    simpa using this) (fun m o hm => by rw [hrep] at hm; cases hm) ?_ (fun id h1 h2 => by rw [hnew id h1] at h2; cases h2) hd hQ
  have : sub Es (fun j => (Array.replicate ops.size false).getD j false) s0 ops.size = s0 := by
    have key : ∀ k, sub Es (fun j => (Array.replicate ops.size false).getD j false) s0 k = s0 := by
      intro k
      induction k with
      | zero => rfl
      | succ k ih => rw [sub_succ, hrep, if_neg (by simp)]; exact ih
    exact key _
  rw [this]; exact h
end
end Go.Proofs.Ytolbhpampnjinaa.Ev
/- Code: sequences, branches, blocks, loops. No condition. -/
namespace Go.Proofs.Ytolbhpampnjinaa.Ev
open Go Go.RowKit
set_option linter.unusedVariables false
set_option linter.unusedSimpArgs false

def codeDst (n : Nat) : Code → Bool
  | .region _ ops _ => opsDst n ops.toList
  | .seq a b => codeDst n a && codeDst n b
  | .cond _ a b => codeDst n a && codeDst n b
  | .block _ c => codeDst n c
  | .loop c => codeDst n c
  | _ => true
def Ex.to : Ex → Exit
  | .normal => .normal
  | .ret => .ret
  | .exit n => .exit n

theorem exists_least {p : Nat → Prop} (h : ∃ n, p n) : ∃ n, p n ∧ ∀ m, p m → n ≤ m := by
  obtain ⟨n, hn⟩ := h
  induction n using Nat.strongRecOn with
  | _ n ih =>
    by_cases hm : ∃ m, m < n ∧ p m
    · obtain ⟨m, h1, h2⟩ := hm
      exact ih m h1 h2
    · exact ⟨n, hn, fun m hp => by
        rcases Nat.lt_or_ge m n with h | h
        · exact absurd ⟨m, h, hp⟩ hm
        · exact h⟩
open Classical in
noncomputable def least (p : Nat → Prop) : Nat := if h : ∃ n, p n ∧ ∀ m, p m → n ≤ m then Classical.choose h else 0
theorem least_spec {p : Nat → Prop} (h : ∃ n, p n) : p (least p) ∧ ∀ m, p m → least p ≤ m := by
  have hx := exists_least h
  unfold least
  rw [dif_pos hx]
  exact Classical.choose_spec hx

section
variable {P : Program} {B : Nat} {io : Nat → Prop} {w w' : World} {a a' : Act} {s s' : St} {ρ ρ' : Rho} {F F' : Id → List Nat} {fl : List Nat} {M : Hints} {C : CallF}

theorem Rel.tick (h : Rel P B io w a.tmps s ρ F fl) : Rel P B io w a.tmps { s with ep := s.ep + 1 } ρ F fl :=
  { h with dom := fun id hid => by have := h.dom id hid; simp only; omega }
theorem Rel.drawn (h : Rel P B io w a.tmps s ρ F fl) (n : Nat) : Rel P B io { w with drawn := n } a.tmps s ρ F fl := by
  have hg : RelG P B io { w with drawn := n } a.tmps s ρ F fl (okS s ρ w) :=
    { h with
      env := fun t v hv => (h.env t v hv).world fun _ _ => rfl
      heap := fun id b hb => (h.heap id b hb).world (fun _ _ => rfl) (fun _ _ => rfl) }
  exact hg.toRel fun g hg => hg

theorem evCode_ok (hC : CallsOk P M C) (hm : P.follows .mixedOrders = true) : ∀ (n : Nat) (c : Code) {s s' : St} {ex : Ex} {a : Act} {w : World} {ρ : Rho} {F : Id → List Nat} {Q : Exit → Act → World → Prop}, Rel P B io w a.tmps s ρ F fl → codeDst a.tmps.size c = true →
    evCode P M C n c s = some (ex, s') → (∀ a' w', After P B io fl w a ρ s' a' w' → Q ex.to a' w') → c.wp P Q a w := by
  intro n
  induction n using Nat.strongRecOn with
  | _ n ih =>
    intro c s s' ex a w ρ F Q h hd he hQ
    cases n with
    | zero => simp [evCode] at he
    | succ n =>
      cases c with
      | skip =>
        simp only [evCode, Option.some.injEq, Prod.mk.injEq] at he
        obtain ⟨rfl, rfl⟩ := he
        exact wp_skip (hQ _ _ (.refl h))
      | ret =>
        simp only [evCode, Option.some.injEq, Prod.mk.injEq] at he
        obtain ⟨rfl, rfl⟩ := he
        exact wp_ret (hQ _ _ (.refl h))
      | exit i =>
        simp only [evCode, Option.some.injEq, Prod.mk.injEq] at he
        obtain ⟨rfl, rfl⟩ := he
        exact wp_exit (hQ _ _ (.refl h))
      | region id ops d =>
        simp only [evCode] at he
        obtain ⟨s1, h1, he⟩ := Option.map_eq_some_iff.1 he
        simp only [Prod.mk.injEq] at he
        obtain ⟨rfl, rfl⟩ := he
        have hnew : ∀ id : Id, id.1 = s.ep + 1 → ρ id = none := fun id hid => by
          cases hr : ρ id with
          | none => rfl
          | some x => have := h.dom id (by rw [hr]; rfl); omega
        cases d with
        | true =>
          simp only [if_true] at h1
          split at h1
          · refine wp_region_any hm (evDraw_ok (fun _ => hC) (h.tick.drawn _) h1 hnew hd (fun a' w' hA => hQ _ _ ?_))
            obtain ⟨ρ', F', r1, r2, r3, r4, r5⟩ := hA
            exact ⟨ρ', F', r1, ⟨r2.os, r2.tape, r2.output, r2.size, r2.block⟩, r3, r4, r5⟩
          · cases h1
        | false =>
          simp only [Bool.false_eq_true, if_false] at h1
          refine wp_region ?_
          rw [List.range_eq_range', ← Array.length_toList]
          exact evOps_ok (fun _ => hC) ops.toList h.tick (by simp) hd (fun id h2 _ => hnew id h2) h1 (fun a' w' hA => hQ _ _ hA)
      | seq x y =>
        simp only [codeDst, Bool.and_eq_true] at hd
        simp only [evCode] at he
        obtain ⟨⟨e1, s1⟩, h1, he⟩ := Option.bind_eq_some_iff.1 he
        refine wp_seq (ih n (by omega) x h hd.1 h1 (fun a' w' hA => ?_))
        cases e1 with
        | normal =>
          simp only at he
          obtain ⟨ρ', F', r1, r2, r3, r4, r5⟩ := hA
          show y.wp P Q a' w'
          exact ih n (by omega) y r1 (by rw [r4]; exact hd.2) he (fun a2 w2 hA2 => hQ _ _ (.trans r2 r3 r4 r5 hA2))
        | ret =>
          simp only [Option.some.injEq, Prod.mk.injEq] at he
          obtain ⟨rfl, rfl⟩ := he
          exact hQ _ _ hA
        | exit i =>
          simp only [Option.some.injEq, Prod.mk.injEq] at he
          obtain ⟨rfl, rfl⟩ := he
          exact hQ _ _ hA
      | cond c x y =>
        simp only [codeDst, Bool.and_eq_true] at hd
        simp only [evCode] at he
        split at he
        · rename_i t hc
          have hv := h.opV c
          rw [hc] at hv
          generalize hq : a.eval c = q at hv
          cases hv
          refine wp_cond hq ?_
          cases t with
          | true => simp only [if_true] at he ⊢; exact ih n (by omega) x h hd.1 he hQ
          | false => simp only [Bool.false_eq_true, if_false] at he ⊢; exact ih n (by omega) y h hd.2 he hQ
        · cases he
      | block i c =>
        simp only [codeDst] at hd
        simp only [evCode] at he
        obtain ⟨⟨e1, s1⟩, h1, he⟩ := Option.map_eq_some_iff.1 he
        refine wp_block (ih n (by omega) c h hd h1 (fun a' w' hA => ?_))
        by_cases hx : e1 = .exit i
        · subst hx
          simp only [if_true, Prod.mk.injEq] at he
          obtain ⟨rfl, rfl⟩ := he
          show Exit.inBlock i Q (.exit i) a' w'
          simp only [Exit.inBlock, if_true]
          exact hQ _ _ hA
        · rw [if_neg hx] at he
          simp only [Prod.mk.injEq] at he
          obtain ⟨rfl, rfl⟩ := he
          cases e1 with
          | normal => exact hQ _ _ hA
          | ret => exact hQ _ _ hA
          | exit j =>
            have : j ≠ i := fun e => hx (by rw [e])
            show Exit.inBlock i Q (.exit j) a' w'
            simp only [Exit.inBlock, if_neg this]
            exact hQ _ _ hA
      | loop c =>
        simp only [codeDst] at hd
        let J : Nat → Act → World → Prop := fun m a1 w1 => m ≤ n + 1 ∧ ∃ s1 ρ1 F1, evCode P M C m (.loop c) s1 = some (ex, s') ∧ Rel P B io w1 a1.tmps s1 ρ1 F1 fl ∧ Left B io w w1 ∧ (∀ id i, ρ id = some i → ρ1 id = some i) ∧ a1.tmps.size = a.tmps.size ∧ a1.defers = a.defers
        let I : Act → World → Prop := fun a1 w1 => ∃ m, J m a1 w1
        have hμ : ∀ {m a1 w1}, J m a1 w1 → least (fun m => J m a1 w1) ≤ m := fun {m a1 w1} hj => (least_spec (p := fun m => J m a1 w1) ⟨m, hj⟩).2 m hj
        refine wp_loop I (fun a1 w1 => least (fun m => J m a1 w1)) ⟨n + 1, Nat.le_refl _, s, ρ, F, he, h, Left.refl _ _ _, fun _ _ h => h, rfl, rfl⟩ (fun a1 w1 hI => ?_)
        have hj : J (least (fun m => J m a1 w1)) a1 w1 := (least_spec (p := fun m => J m a1 w1) hI).1
        obtain ⟨hle, s1, ρ1, F1, e1, r1, r2, r3, r4, r5⟩ := hj
        generalize hmm : least (fun m => J m a1 w1) = m at hle e1
        cases m with
        | zero => simp [evCode] at e1
        | succ m =>
          simp only [evCode] at e1
          obtain ⟨⟨e2, s2⟩, h2, e1⟩ := Option.bind_eq_some_iff.1 e1
          refine ih m (by omega) c r1 (by rw [r4]; exact hd) h2 (fun a2 w2 hA => ?_)
          cases e2 with
          | normal =>
            simp only at e1
            obtain ⟨ρ2, F2, q1, q2, q3, q4, q5⟩ := hA
            have hj2 : J m a2 w2 := ⟨by omega, s2, ρ2, F2, e1, q1, r2.trans q2, fun id i hi => q3 id i (r3 id i hi), q4.trans r4, q5.trans r5⟩
            refine ⟨⟨m, hj2⟩, ?_⟩
            have := hμ hj2
            show least (fun m => J m a2 w2) < m + 1
            omega
          | ret =>
            simp only [Option.some.injEq, Prod.mk.injEq] at e1
            obtain ⟨rfl, rfl⟩ := e1
            exact hQ _ _ (.trans r2 r3 r4 r5 hA)
          | exit i =>
            simp only [Option.some.injEq, Prod.mk.injEq] at e1
            obtain ⟨rfl, rfl⟩ := e1
            exact hQ _ _ (.trans r2 r3 r4 r5 hA)
      | _ => simp [evCode] at he
end
end Go.Proofs.Ytolbhpampnjinaa.Ev
/- More blocks in the state change nothing: code, what comes in, what is handed back. No condition. -/
namespace Go.Proofs.Ytolbhpampnjinaa.Ev
open Go Go.RowKit
set_option linter.unusedVariables false
set_option linter.unusedSimpArgs false

/-- t has all of s, and blocks that nothing leads out of. -/
structure ExtE (D : Id → Prop) (s t : St) : Prop where
  ext : Ext D s t
  env : t.env = s.env
  ph : ∀ id b, D id → t.heap id = some b → b.rows = []
def Ext3 (D : Id → Prop) (t s' t' : St) : Prop := ExtE D s' t' ∧ ∀ id, D id → t'.heap id = t.heap id

section
variable {D : Id → Prop} {s t s' : St} {P : Program} {M : Hints} {C : CallF} {k : Nat} {o : Oper} {v : V} {ops : Array Oper}

theorem ExtE.three (h : ExtE D s t) : Ext3 D t s t := ⟨h, fun _ _ => rfl⟩
theorem Ext3.trans {t1 s1 s2 t2 : St} (h : Ext3 D t s1 t1) (k : Ext3 D t1 s2 t2) : Ext3 D t s2 t2 := ⟨k.1, fun id hd => (k.2 id hd).trans (h.2 id hd)⟩
theorem ExtE.of2 {s1 t1 : St} (h : ExtE D s t) (e : Ext2 D t s1 t1) (henv : s1.env = s.env) : Ext3 D t s1 t1 :=
  ⟨⟨e.1, by rw [e.2.2.1, h.env, henv], fun id b hd hb => h.ph id b hd (by rw [← e.2.1 id hd]; exact hb)⟩, e.2.1⟩
theorem ExtE.put (h : ExtE D s t) (d : Option Tmp) (v : V) : Ext3 D t (s.put d v) (t.put d v) := by
  cases d with
  | none => exact h.three
  | some d => exact ⟨⟨⟨h.ext.ep, h.ext.out, h.ext.abs⟩, by simp only [St.put, h.env], h.ph⟩, fun _ _ => rfl⟩
theorem ExtE.opV (h : ExtE D s t) : t.opV = s.opV := by
  funext x; cases x <;> simp only [St.opV, h.env]
theorem ExtE.wanted (h : ExtE D s t) : Ev.wanted t ops o = Ev.wanted s ops o := by
  unfold Ev.wanted; rw [h.env]

/-- Environments stay with every operation. -/
theorem evOpV_env {f : Operand → V} (he : evOpV P M C f s k o = some (v, s')) : s'.env = s.env ∧ s'.ep = s.ep := by
  -- a state with all of this one, alike but for the places
  have h : Ext (fun _ => False) s ⟨s.env, s.heap, s.ep⟩ := ⟨rfl, fun _ _ => rfl, fun _ h => h.elim⟩
  obtain ⟨t', h1, h2⟩ := h.op (fun _ h => h.elim) he
  have h3 : (some (v, t') : Option (V × St)) = some (v, s') := by rw [← h1, ← he]
  simp only [Option.some.injEq, Prod.mk.injEq, true_and] at h3
  subst h3
  exact ⟨h2.2.2.1, h2.2.2.2⟩

theorem ExtE.op (h : ExtE D s t) (hd : ∀ id : Id, D id → ¬ (id.1 = s.ep ∧ id.2 / 1024 = k)) (he : evOp P M C s k o = some (v, s')) : ∃ t', evOp P M C t k o = some (v, t') ∧ Ext3 D t s' t' := by
  unfold evOp at he ⊢
  rw [h.opV]
  obtain ⟨t', h1, h2⟩ := h.ext.op hd he
  exact ⟨t', h1, h.of2 h2 (evOpV_env he).1⟩

theorem ExtE.evops {C : Nat → CallF} (hD : ∀ id : Id, D id → id.1 = 0) : ∀ (l : List Oper) {k : Nat} {s t s' : St}, ExtE D s t → s.ep ≠ 0 → evOps P M C ops s k l = some s' → ∃ t', evOps P M C ops t k l = some t' ∧ Ext3 D t s' t' ∧ s'.ep = s.ep := by
  intro l
  induction l with
  | nil =>
    intro k s t s' h _ he
    simp only [evOps, Option.some.injEq] at he
    subst he
    exact ⟨t, rfl, h.three, rfl⟩
  | cons o l ih =>
    intro k s t s' h hep he
    simp only [evOps] at he ⊢
    obtain ⟨g, hg, he⟩ := Option.bind_eq_some_iff.1 he
    rw [h.wanted, hg, Option.bind_some]
    cases g with
    | true =>
      simp only [if_true] at he ⊢
      obtain ⟨⟨v, s1⟩, h1, he⟩ := Option.bind_eq_some_iff.1 he
      obtain ⟨t1, g1, e1⟩ := h.op (fun id hd hh => hep (by rw [← hh.1]; exact hD id hd)) h1
      have hp := e1.1.put o.dst v
      have hs1 : s1.ep = s.ep := (evOpV_env h1).2
      obtain ⟨t2, g2, e2, e3⟩ := ih hp.1 (by rw [put_ep, hs1]; exact hep) he
      exact ⟨t2, by rw [g1]; exact g2, (e1.trans hp).trans e2, by rw [e3, put_ep, hs1]⟩
    | false =>
      simp only [Bool.false_eq_true, if_false] at he ⊢
      have hp := h.put o.dst (.tup [])
      obtain ⟨t2, g2, e2, e3⟩ := ih hp.1 (by rw [put_ep]; exact hep) he
      exact ⟨t2, g2, hp.trans e2, by rw [e3, put_ep]⟩

theorem ExtE.deep (h : ExtE D s t) (id : Id) : t.deep id = s.deep id := by
  unfold St.deep
  by_cases hd : D id
  · rw [h.ext.abs id hd]
    cases hb : t.heap id with
    | none => rfl
    | some b => simp only [h.ph id b hd hb]; simp
  · rw [h.ext.out id hd]
theorem ExtE.touch (h : ExtE D s t) : Ev.touch t o = Ev.touch s o := by
  have hdp : t.deep = s.deep := funext h.deep
  unfold Ev.touch
  rw [h.opV, hdp]
theorem ExtE.only (h : ExtE D s t) (T : List Id) : Ext D (s.only T) (t.only T) := by
  refine ⟨h.ext.ep, fun id hd => ?_, fun id hd => ?_⟩
  · simp only [St.only]; split
    · exact h.ext.out id hd
    · rfl
  · simp only [St.only]; split
    · exact h.ext.abs id hd
    · rfl
theorem ExtE.merge {y z : St} {T : List Id} {w : Bool} (h : ExtE D s t) (hD : ∀ id : Id, D id → freshAt s.ep k id = false) (hy : Ext D y z) (hz : ∀ id, D id → z.heap id = (t.only T).heap id) : Ext3 D t (s.merge k T w y) (t.merge k T w z) := by
  have key : ∀ id, D id → (t.merge k T w z).heap id = t.heap id := fun id hd => by
    simp only [St.merge, h.ext.ep, hD id hd, Bool.false_or]
    split
    · rename_i hc
      rw [hz id hd]
      simp only [Bool.and_eq_true] at hc
      have hm : id ∈ T := by simpa using hc.2
      simp [St.only, hm]
    · rfl
  refine ⟨⟨⟨h.ext.ep, fun id hd => ?_, fun id hd => ?_⟩, h.env, fun id b hd hb => h.ph id b hd (by rw [← key id hd]; exact hb)⟩, key⟩
  · simp only [St.merge, h.ext.ep]; split
    · exact hy.out id hd
    · exact h.ext.out id hd
  · simp only [St.merge]; split
    · exact hy.abs id hd
    · exact h.ext.abs id hd

theorem ExtE.draw {C : Nat → CallF} (hD : ∀ id : Id, D id → id.1 = 0) : ∀ (l : List Oper) {k : Nat} {s t s' : St} {recs : List Rec}, ExtE D s t → s.ep ≠ 0 → evDraw P M C ops s recs k l = some s' → ∃ t', evDraw P M C ops t recs k l = some t' ∧ Ext3 D t s' t' := by
  intro l
  induction l with
  | nil =>
    intro k s t s' recs h _ he
    simp only [evDraw, Option.some.injEq] at he
    subst he
    exact ⟨t, rfl, h.three⟩
  | cons o l ih =>
    intro k s t s' recs h hep he
    have hno : ∀ id : Id, D id → ¬ (id.1 = s.ep ∧ id.2 / 1024 = k) := fun id hd hh => hep (by rw [← hh.1]; exact hD id hd)
    have hnf : ∀ id : Id, D id → freshAt s.ep k id = false := fun id hd => by
      cases hf : freshAt s.ep k id with
      | false => rfl
      | true => exact absurd (by simpa [freshAt] using hf) (hno id hd)
    simp only [evDraw] at he ⊢
    obtain ⟨g, hg, he⟩ := Option.bind_eq_some_iff.1 he
    rw [h.wanted, hg, Option.bind_some, h.touch, h.opV, h.ext.ep]
    cases g with
    | true =>
      simp only [if_true] at he ⊢
      split at he
      · rename_i hok
        rw [if_pos hok]
        obtain ⟨⟨v, y⟩, h1, he⟩ := Option.bind_eq_some_iff.1 he
        obtain ⟨z, g1, e1⟩ := (h.only (Ev.touch s o)).op (by exact hno) h1
        have hm := h.merge (T := Ev.touch s o) (w := writes M s.opV o) hnf e1.1 e1.2.1
        have hp := hm.1.put o.dst v
        obtain ⟨t2, g2, e2⟩ := ih hp.1 (by rw [put_ep]; exact hep) he
        exact ⟨t2, by rw [g1]; exact g2, (hm.trans hp).trans e2⟩
      · cases he
    | false =>
      simp only [Bool.false_eq_true, if_false] at he ⊢
      split at he
      · rename_i hok
        rw [if_pos hok]
        have hp := h.put o.dst (.tup [])
        obtain ⟨t2, g2, e2⟩ := ih hp.1 (by rw [put_ep]; exact hep) he
        exact ⟨t2, g2, hp.trans e2⟩
      · cases he

theorem ExtE.tick (h : ExtE D s t) : Ext3 D t { s with ep := s.ep + 1 } { t with ep := t.ep + 1 } :=
  ⟨⟨⟨by simp only [h.ext.ep], h.ext.out, h.ext.abs⟩, h.env, h.ph⟩, fun _ _ => rfl⟩

theorem ExtE.code (hD : ∀ id : Id, D id → id.1 = 0) : ∀ (n : Nat) (c : Code) {s t s' : St} {ex : Ex}, ExtE D s t → evCode P M C n c s = some (ex, s') → ∃ t', evCode P M C n c t = some (ex, t') ∧ Ext3 D t s' t' := by
  intro n
  induction n with
  | zero => intro c s t s' ex h he; simp [evCode] at he
  | succ n ih =>
    intro c s t s' ex h he
    cases c with
    | skip => simp only [evCode, Option.some.injEq, Prod.mk.injEq] at he ⊢; obtain ⟨rfl, rfl⟩ := he; exact ⟨t, ⟨rfl, rfl⟩, h.three⟩
    | ret => simp only [evCode, Option.some.injEq, Prod.mk.injEq] at he ⊢; obtain ⟨rfl, rfl⟩ := he; exact ⟨t, ⟨rfl, rfl⟩, h.three⟩
    | exit i => simp only [evCode, Option.some.injEq, Prod.mk.injEq] at he ⊢; obtain ⟨rfl, rfl⟩ := he; exact ⟨t, ⟨rfl, rfl⟩, h.three⟩
    | region id ops d =>
      simp only [evCode] at he ⊢
      obtain ⟨s1, h1, he⟩ := Option.map_eq_some_iff.1 he
      simp only [Prod.mk.injEq] at he
      obtain ⟨rfl, rfl⟩ := he
      have ht := h.tick
      cases d with
      | true =>
        simp only [if_true] at h1 ⊢
        split at h1
        · rename_i hns
          rw [if_pos hns]
          obtain ⟨t1, g1, e1⟩ := ExtE.draw hD ops.toList ht.1 (by simp) h1
          exact ⟨t1, by rw [g1]; rfl, ht.trans e1⟩
        · cases h1
      | false =>
        simp only [Bool.false_eq_true, if_false] at h1 ⊢
        obtain ⟨t1, g1, e1, _⟩ := ExtE.evops hD ops.toList ht.1 (by simp) h1
        exact ⟨t1, by rw [g1]; rfl, ht.trans e1⟩
    | seq x y =>
      simp only [evCode] at he ⊢
      obtain ⟨⟨e1, s1⟩, h1, he⟩ := Option.bind_eq_some_iff.1 he
      obtain ⟨t1, g1, x1⟩ := ih x h h1
      rw [g1, Option.bind_some]
      cases e1 with
      | normal =>
        simp only at he ⊢
        obtain ⟨t2, g2, x2⟩ := ih y x1.1 he
        exact ⟨t2, g2, x1.trans x2⟩
      | ret => simp only [Option.some.injEq, Prod.mk.injEq] at he ⊢; obtain ⟨rfl, rfl⟩ := he; exact ⟨t1, ⟨rfl, rfl⟩, x1⟩
      | exit i => simp only [Option.some.injEq, Prod.mk.injEq] at he ⊢; obtain ⟨rfl, rfl⟩ := he; exact ⟨t1, ⟨rfl, rfl⟩, x1⟩
    | cond c x y =>
      simp only [evCode] at he ⊢
      rw [h.opV]
      split at he
      · rename_i b hc
        cases b with
        | true => simp only [if_true] at he ⊢; exact ih x h he
        | false => simp only [Bool.false_eq_true, if_false] at he ⊢; exact ih y h he
      · cases he
    | block i c =>
      simp only [evCode] at he ⊢
      obtain ⟨⟨e1, s1⟩, h1, he⟩ := Option.map_eq_some_iff.1 he
      obtain ⟨t1, g1, x1⟩ := ih c h h1
      rw [g1]
      simp only [Option.map_some, Option.some.injEq]
      by_cases hx : e1 = .exit i
      · rw [if_pos hx] at he ⊢
        simp only [Prod.mk.injEq] at he
        obtain ⟨rfl, rfl⟩ := he
        exact ⟨t1, rfl, x1⟩
      · rw [if_neg hx] at he ⊢
        simp only [Prod.mk.injEq] at he
        obtain ⟨rfl, rfl⟩ := he
        exact ⟨t1, rfl, x1⟩
    | loop c =>
      simp only [evCode] at he ⊢
      obtain ⟨⟨e1, s1⟩, h1, he⟩ := Option.bind_eq_some_iff.1 he
      obtain ⟨t1, g1, x1⟩ := ih c h h1
      rw [g1, Option.bind_some]
      cases e1 with
      | normal =>
        simp only at he ⊢
        obtain ⟨t2, g2, x2⟩ := ih (.loop c) x1.1 he
        exact ⟨t2, g2, x1.trans x2⟩
      | ret => simp only [Option.some.injEq, Prod.mk.injEq] at he ⊢; obtain ⟨rfl, rfl⟩ := he; exact ⟨t1, ⟨rfl, rfl⟩, x1⟩
      | exit i => simp only [Option.some.injEq, Prod.mk.injEq] at he ⊢; obtain ⟨rfl, rfl⟩ := he; exact ⟨t1, ⟨rfl, rfl⟩, x1⟩
    | _ => simp [evCode] at he

theorem ExtE.res (h : ExtE D s t) : ∀ {l : List ResultVar} {vs : List V}, resV P s l = some vs → resV P t l = some vs := by
  intro l
  induction l with
  | nil => intro vs hr; exact hr
  | cons r l ih =>
    intro vs hr
    cases r with
    | tmp x =>
      simp only [resV, h.env] at hr ⊢
      split at hr
      · cases hr
      · obtain ⟨ys, h1, rfl⟩ := Option.map_eq_some_iff.1 hr
        rw [ih h1]; rfl
    | cell a ty =>
      simp only [resV, h.env] at hr ⊢
      split at hr
      · obtain ⟨b, hb, hr⟩ := Option.bind_eq_some_iff.1 hr
        obtain ⟨row, hrow, hr⟩ := Option.bind_eq_some_iff.1 hr
        rw [h.ext.get hb, Option.bind_some, hrow, Option.bind_some]
        split at hr
        · rename_i hl
          rw [if_pos hl]
          obtain ⟨x, hx, hr⟩ := Option.bind_eq_some_iff.1 hr
          obtain ⟨ys, h1, rfl⟩ := Option.map_eq_some_iff.1 hr
          rw [hx, Option.bind_some, ih h1]; rfl
        · cases hr
      · cases hr
theorem Ext.liftOne (h : Ext D s t) {ts : List (Option TypeId)} {x y : V} (hl : s.liftOne ts x = some (y, s')) : ∃ t', t.liftOne ts x = some (y, t') ∧ Ext2 D t s' t' := by
  unfold St.liftOne at hl ⊢
  split at hl
  · obtain ⟨⟨ys, s1⟩, h1, he⟩ := Option.map_eq_some_iff.1 hl
    simp only [Prod.mk.injEq] at he
    obtain ⟨rfl, rfl⟩ := he
    obtain ⟨t', g, e⟩ := Ext.giveCells h h1
    exact ⟨t', by rw [g]; rfl, e⟩
  · obtain ⟨⟨ys, s1⟩, h1, he⟩ := Option.map_eq_some_iff.1 hl
    simp only [Prod.mk.injEq] at he
    obtain ⟨rfl, rfl⟩ := he
    obtain ⟨⟨t', g, e⟩, _⟩ := h.giveBox h1
    exact ⟨t', by rw [g]; rfl, e⟩
  · exact h.giveCell hl
theorem Ext.liftAll : ∀ {xs : List V} {s t : St} {ts : List TypeId} {ys : List V} {s' : St}, Ext D s t → s.liftAll P ts xs = some (ys, s') → ∃ t', t.liftAll P ts xs = some (ys, t') ∧ Ext2 D t s' t' := by
  intro xs
  induction xs with
  | nil =>
    intro s t ts ys s' h hs
    simp only [St.liftAll, Option.some.injEq, Prod.mk.injEq] at hs
    obtain ⟨rfl, rfl⟩ := hs
    exact ⟨t, rfl, h.two⟩
  | cons x xs ih =>
    intro s t ts ys s' h hs
    simp only [St.liftAll] at hs ⊢
    obtain ⟨⟨y1, s1⟩, h1, hs⟩ := Option.bind_eq_some_iff.1 hs
    obtain ⟨⟨y2, s2⟩, h2, hs⟩ := Option.map_eq_some_iff.1 hs
    simp only [Prod.mk.injEq] at hs
    obtain ⟨rfl, rfl⟩ := hs
    obtain ⟨t1, g1, e1⟩ := h.liftOne h1
    obtain ⟨t2, g2, e2⟩ := ih e1.1 h2
    exact ⟨t2, by rw [g1]; simp only [Option.bind_some, g2]; rfl, e1.trans e2⟩
theorem Ext.outCells {p : Nat} : ∀ {xs : List V} {s t : St} {k : Nat} {ys : List V} {s' : St}, Ext D s t → s.outCells p k xs = some (ys, s') → ∃ t', t.outCells p k xs = some (ys, t') ∧ Ext2 D t s' t' := by
  intro xs
  induction xs with
  | nil =>
    intro s t k ys s' h hs
    simp only [St.outCells, Option.some.injEq, Prod.mk.injEq] at hs
    obtain ⟨rfl, rfl⟩ := hs
    exact ⟨t, rfl, h.two⟩
  | cons x xs ih =>
    intro s t k ys s' h hs
    unfold St.outCells at hs ⊢
    split at hs
    · rename_i heq; cases heq
    · rename_i heq
      injection heq with h1 h2
      subst h1; subst h2
      obtain ⟨er, hw, hs⟩ := Option.bind_eq_some_iff.1 hs
      obtain ⟨hw', hd⟩ := h.whole hw
      rw [hw', Option.bind_some]
      split at hs
      · rename_i he
        rw [if_pos he]
        obtain ⟨⟨ys', s1⟩, h1, he⟩ := Option.map_eq_some_iff.1 hs
        simp only [Prod.mk.injEq] at he
        obtain ⟨rfl, rfl⟩ := he
        obtain ⟨t', g, e⟩ := ih (h.kill hd).1 h1
        exact ⟨t', by rw [g]; rfl, (h.kill hd).trans e⟩
      · cases hs
    · rename_i hne heq
      injection heq with h1 h2
      subst h1; subst h2
      obtain ⟨⟨ys', s1⟩, h1, he⟩ := Option.map_eq_some_iff.1 hs
      simp only [Prod.mk.injEq] at he
      obtain ⟨rfl, rfl⟩ := he
      obtain ⟨t', g, e⟩ := ih h h1
      exact ⟨t', by rw [g]; rfl, e⟩
theorem Ext.outOne (h : Ext D s t) {p : Nat} {ts : List (Option TypeId)} {m : Mode} {x y : V} (ho : s.out p ts m x = some (y, s')) : ∃ t', t.out p ts m x = some (y, t') ∧ Ext2 D t s' t' := by
  unfold St.out at ho ⊢
  split at ho
  · simp only [Option.some.injEq, Prod.mk.injEq] at ho; obtain ⟨rfl, rfl⟩ := ho; exact ⟨t, rfl, h.two⟩
  · simp only [Option.some.injEq, Prod.mk.injEq] at ho; obtain ⟨rfl, rfl⟩ := ho; exact ⟨t, rfl, h.two⟩
  · split at ho
    · obtain ⟨⟨ys, s1⟩, h1, ho⟩ := Option.bind_eq_some_iff.1 ho
      obtain ⟨⟨t', g, e⟩, _⟩ := h.giveBox h1
      simp only at ho
      split at ho
      · rename_i hl
        simp only [Option.some.injEq, Prod.mk.injEq] at ho
        obtain ⟨rfl, rfl⟩ := ho
        exact ⟨t', by rw [g, Option.bind_some]; simp only [hl, if_true], e⟩
      · cases ho
    · cases ho
  · split at ho
    · obtain ⟨⟨ys, s1⟩, h1, he⟩ := Option.map_eq_some_iff.1 ho
      simp only [Prod.mk.injEq] at he
      obtain ⟨rfl, rfl⟩ := he
      obtain ⟨t', g, e⟩ := Ext.outCells h h1
      exact ⟨t', by rw [g]; rfl, e⟩
    · obtain ⟨⟨ys, s1⟩, h1, ho⟩ := Option.bind_eq_some_iff.1 ho
      obtain ⟨z, hz, he⟩ := Option.map_eq_some_iff.1 ho
      simp only [Prod.mk.injEq] at he
      obtain ⟨rfl, rfl⟩ := he
      obtain ⟨t', g, e⟩ := Ext.outCells h h1
      exact ⟨t', by rw [g, Option.bind_some]; simp only [hz]; rfl, e⟩
theorem Ext.outs : ∀ {xs : List V} {s t : St} {p : Nat} {ts : List TypeId} {ms : List Mode} {ys : List V}, Ext D s t → s.outs P p ts ms xs = some ys → t.outs P p ts ms xs = some ys := by
  intro xs
  induction xs with
  | nil => intro s t p ts ms ys h hs; exact hs
  | cons x xs ih =>
    intro s t p ts ms ys h hs
    simp only [St.outs] at hs ⊢
    obtain ⟨⟨y1, s1⟩, h1, hs⟩ := Option.bind_eq_some_iff.1 hs
    obtain ⟨zs, h2, rfl⟩ := Option.map_eq_some_iff.1 hs
    obtain ⟨t1, g1, e1⟩ := h.outOne h1
    rw [g1]
    simp only [Option.bind_some, ih e1.1 h2]; rfl

/-- What comes in, over blocks that nothing leads out of. -/
theorem ExtE.enter (h : ExtE D s t) (hD : ∀ id : Id, D id → 64000 ≤ id.2) {p : Nat} {m : Mode} {x : V} (he : s.enter p m x = some s') : ∃ t', t.enter p m x = some t' ∧ Ext3 D t s' t' := by
  have hnd : p < 1000 → ∀ j, 64 * p ≤ j → j < 64 * p + 64 → ¬ D (0, j) := fun hp j _ h2 hd => by have := hD _ hd; simp only at this; omega
  have one : ∀ {x y : V} {s1 : St}, p < 1000 → s.takeOne 0 (64 * p) x = some (y, s1) → ∃ t1, t.takeOne 0 (64 * p) x = some (y, t1) ∧ Ext3 D t (s1.put (some p) y) (t1.put (some p) y) := by
    intro x y s1 hp h1
    obtain ⟨t1, g, e⟩ := h.ext.takeOne (hnd hp) h1
    have henv : s1.env = s.env := by
      have h0 : Ext (fun _ => False) s ⟨s.env, s.heap, s.ep⟩ := ⟨rfl, fun _ _ => rfl, fun _ h => h.elim⟩
      obtain ⟨t', k1, k2⟩ := h0.takeOne (fun _ _ _ h => h.elim) h1
      have h3 : (some (y, t') : Option (V × St)) = some (y, s1) := by rw [← k1, ← h1]
      simp only [Option.some.injEq, Prod.mk.injEq, true_and] at h3
      subst h3
      exact k2.2.2.1
    have e3 := h.of2 e henv
    exact ⟨t1, g, e3.trans (e3.1.put _ _)⟩
  unfold St.enter at he ⊢
  split at he
  case isFalse => cases he
  rename_i hp
  rw [if_pos hp]
  split at he
  · simp only [Option.some.injEq] at he
    subst he
    exact ⟨_, rfl, h.put _ _⟩
  · split at he
    · obtain ⟨⟨y, s1⟩, h1, rfl⟩ := Option.map_eq_some_iff.1 he
      obtain ⟨t1, g, e⟩ := one hp h1
      exact ⟨_, by rw [g]; rfl, e⟩
    · cases he
  · split at he
    · cases he
    · rename_i hne
      obtain ⟨⟨y, s1⟩, h1, rfl⟩ := Option.map_eq_some_iff.1 he
      obtain ⟨t1, g, e⟩ := one hp h1
      refine ⟨_, ?_, e⟩
      rw [g]; rfl
  · split at he
    · cases he
    · rename_i hne
      obtain ⟨⟨y, s1⟩, h1, rfl⟩ := Option.map_eq_some_iff.1 he
      obtain ⟨t1, g, e⟩ := one hp h1
      refine ⟨_, ?_, e⟩
      rw [g]; rfl
theorem ExtE.enters (hD : ∀ id : Id, D id → 64000 ≤ id.2) : ∀ {xs : List V} {s t s' : St} {p : Nat} {ms : List Mode}, ExtE D s t → s.enters p ms xs = some s' → ∃ t', t.enters p ms xs = some t' ∧ Ext3 D t s' t' := by
  intro xs
  induction xs with
  | nil =>
    intro s t s' p ms h hs
    simp only [St.enters, Option.some.injEq] at hs
    subst hs
    exact ⟨t, rfl, h.three⟩
  | cons x xs ih =>
    intro s t s' p ms h hs
    simp only [St.enters] at hs ⊢
    obtain ⟨s1, h1, hs⟩ := Option.bind_eq_some_iff.1 hs
    obtain ⟨t1, g1, e1⟩ := h.enter hD h1
    obtain ⟨t2, g2, e2⟩ := ih e1.1 hs
    exact ⟨t2, by rw [g1]; exact g2, e1.trans e2⟩
end
end Go.Proofs.Ytolbhpampnjinaa.Ev
/- A call's arguments come in; its results and what it was lent go out. No condition. -/
namespace Go.Proofs.Ytolbhpampnjinaa.Ev
open Go Go.RowKit
set_option linter.unusedVariables false
set_option linter.unusedSimpArgs false

theorem En.slAny {w w' : World} {ok ok' : Nat → Prop} {ρ : Rho} {v : Value} {id : Id} {off len : Nat} (h : En w ok ρ v (.sl id off len)) : En w' ok' ρ v (.sl id off len) := by
  cases h with
  | sl h hc => exact .sl h hc
  | sle h => exact .sle h
theorem En.ptrAny {w w' : World} {ok ok' : Nat → Prop} {ρ : Rho} {v : Value} {id : Id} {i off : Nat} (h : En w ok ρ v (.ptr id i off)) : En w' ok' ρ v (.ptr id i off) := by
  generalize hq : V.ptr id i off = q at h
  cases h <;> cases hq
  rename_i h
  exact .ptr h

/-- Where an argument that goes back has its numbers. -/
def Pl (ρ : Rho) (p : Nat) (m : Mode) (u : Value) (x : V) : Prop :=
  match m with
  | .io => ∀ w ok, En w ok ρ u (.ptr (0, 64 * p + 63) 0 0)
  | .iov => match x with
    | .agg cs => ∃ us : Array Value, u = .agg us ∧ us.size = cs.length ∧ ∀ (j : Nat) (v : Value) (e : TypeId) (rows : List (List V)), us[j]? = some v → cs[j]? = some (.own e rows) → ∀ w ok, En w ok ρ v (.sl (0, 64 * p + j) 0 rows.length)
    | x => ∀ (e : TypeId) (rows : List (List V)), x = .own e rows → ∀ w ok, En w ok ρ u (.sl (0, 64 * p) 0 rows.length)
  | _ => True
inductive PlL (ρ : Rho) : Nat → List Mode → List Value → List V → Prop
  | nil {p : Nat} {ms : List Mode} : PlL ρ p ms [] []
  | cons {p : Nat} {ms : List Mode} {u : Value} {us : List Value} {x : V} {xs : List V} (h : Pl ρ p (ms.headD .rd) u x) (hs : PlL ρ (p + 1) ms.tail us xs) : PlL ρ p ms (u :: us) (x :: xs)
theorem Pl.ext {ρ ρ' : Rho} (hρ : ∀ id i, ρ id = some i → ρ' id = some i) {p : Nat} {m : Mode} {u : Value} {x : V} (h : Pl ρ p m u x) : Pl ρ' p m u x := by
  cases m
  · exact trivial
  · exact fun w ok => (h w ok).ext (fun _ h => h) hρ
  · exact trivial
  · unfold Pl at h ⊢
    simp only at h ⊢
    split
    · obtain ⟨us, h1, h2, h3⟩ := h
      exact ⟨us, h1, h2, fun j v e rows hv hc w ok => (h3 j v e rows hv hc w ok).ext (fun _ h => h) hρ⟩
    · rename_i hne
      split at h
      · rename_i cs; exact absurd rfl (hne cs)
      · exact fun e rows he w ok => (h e rows he w ok).ext (fun _ h => h) hρ
theorem PlL.ext {ρ ρ' : Rho} (hρ : ∀ id i, ρ id = some i → ρ' id = some i) {p : Nat} {ms : List Mode} {us : List Value} {xs : List V} (h : PlL ρ p ms us xs) : PlL ρ' p ms us xs := by
  induction h with
  | nil => exact .nil
  | cons h _ ih => exact .cons (h.ext hρ) ih

theorem takeCells_own {e : Nat} : ∀ {xs : List V} {s : St} {k : Nat} {ys : List V} {s' : St}, s.takeCells e k xs = some (ys, s') → ∀ (j : Nat) (e' : TypeId) (rows : List (List V)), xs[j]? = some (.own e' rows) → ys[j]? = some (.sl (e, k + j) 0 rows.length) := by
  intro xs
  induction xs with
  | nil => intro s k ys s' _ j e' rows h; simp at h
  | cons x xs ih =>
    intro s k ys s' hs j e' rows h
    simp only [St.takeCells] at hs
    obtain ⟨⟨y1, s1⟩, h1, hs⟩ := Option.bind_eq_some_iff.1 hs
    obtain ⟨⟨y2, s2⟩, h2, hs⟩ := Option.map_eq_some_iff.1 hs
    simp only [Prod.mk.injEq] at hs
    obtain ⟨rfl, rfl⟩ := hs
    cases j with
    | zero =>
      have : x = .own e' rows := by simpa using h
      subst this
      simp only [St.takeCell, Option.some.injEq, Prod.mk.injEq] at h1
      simp [h1.1]
    | succ j =>
      have := ih h2 j e' rows (by simpa using h)
      rw [List.getElem?_cons_succ, this]
      congr 2
      simp only [V.sl.injEq, Prod.mk.injEq, true_and, and_true]
      omega

section
variable {P : Program} {B : Nat} {io : Nat → Prop} {w w' : World} {tmps : Array Value} {s s' : St} {ρ ρ' : Rho} {F F' : Id → List Nat} {fl fl' : List Nat} {ok ok' : Nat → Prop}

/-- What came in so far. -/
structure Came (P : Program) (B : Nat) (io : Nat → Prop) (w : World) (tmps : Array Value) (s : St) (ρ : Rho) (fl : List Nat) (ok : Nat → Prop) (lo hi : Nat) (s' : St) (ρ' : Rho) (F' : Id → List Nat) : Prop where
  rel : RelG P B io w tmps s' ρ' F' fl ok
  ext : ∀ id i, ρ id = some i → ρ' id = some i
  dom : ∀ id, (ρ' id).isSome = true → (ρ id).isSome = true ∨ (id.1 = 0 ∧ lo ≤ id.2 ∧ id.2 < hi)
  ep : s'.ep = s.ep
  heap : ∀ id : Id, ¬ (id.1 = 0 ∧ lo ≤ id.2 ∧ id.2 < hi) → s'.heap id = s.heap id
  tops : ∀ g, Ev.tops s' ρ' g → Ev.tops s ρ g ∨ io g

theorem tops_put {d : Option Tmp} {v : V} {g : Nat} (h : tops (s.put d v) ρ g) : tops s ρ g := by
  obtain ⟨id, b, o, c, sz, h1, h2, h3⟩ := h
  rw [put_heap] at h1
  exact ⟨id, b, o, c, sz, h1, h2, h3⟩

theorem enter_ok {fp : List Nat} (h : RelG P B io w tmps s ρ F (fp ++ fl) ok) {p : Nat} {m : Mode} {u : Value} {x : V} (ha : ArgR P w ok io m u x fp) (hp : tmps[p]? = some u) (hep : s.ep = 0) (hnew : ∀ j, 64 * p ≤ j → j < 64 * p + 64 → ρ (0, j) = none ∧ s.heap (0, j) = none) (he : s.enter p m x = some s') :
    ∃ ρ' F', Came P B io w tmps s ρ fl ok (64 * p) (64 * p + 64) s' ρ' F' ∧ Pl ρ' p m u x := by
  have fin : ∀ {y : V} {s1 : St} {z : V} , GivO P w ok io u z fp → s.takeOne 0 (64 * p) z = some (y, s1) → ∃ ρ' F', Came P B io w tmps s ρ fl ok (64 * p) (64 * p + 64) (s1.put (some p) y) ρ' F' ∧ En w ok ρ' u y := by
    intro y s1 z hg ht
    obtain ⟨ρ', F', t, en⟩ := takeOne_ok h hg (fun g hg => .inl hg) (e := 0) (by omega) hnew ht
    exact ⟨ρ', F', ⟨t.rel.put hp en, t.ext, t.dom, by rw [put_ep]; exact t.ep, fun id hid => by rw [put_heap]; exact t.heap id hid, fun g hg => t.tops g (tops_put hg)⟩, en⟩
  unfold St.enter at he
  split at he
  case isFalse => cases he
  split at he
  · simp only [Option.some.injEq] at he
    subst he
    obtain ⟨h1, rfl⟩ := ha
    exact ⟨ρ, F, ⟨h.put hp (h1 ρ), fun _ _ h => h, fun _ h => .inl h, put_ep _ _ _, fun id _ => by rw [put_heap], fun g hg => .inl (tops_put hg)⟩, trivial⟩
  · split at he
    · rename_i cs
      obtain ⟨⟨y, s1⟩, h1, rfl⟩ := Option.map_eq_some_iff.1 he
      obtain ⟨cs', hcs, hg⟩ := ha
      injection hcs with hcs
      subst hcs
      obtain ⟨ρ', F', h2, h3⟩ := fin hg h1
      refine ⟨ρ', F', h2, fun w' ok' => ?_⟩
      simp only [St.takeOne] at h1
      split at h1
      · obtain ⟨_, _, he⟩ := Option.map_eq_some_iff.1 h1
        simp only [Prod.mk.injEq] at he
        rw [← he.1] at h3
        exact h3.ptrAny
      · cases h1
    · cases he
  · split at he
    · cases he
    · obtain ⟨⟨y, s1⟩, h1, rfl⟩ := Option.map_eq_some_iff.1 he
      obtain ⟨ρ', F', h2, h3⟩ := fin ha.2 h1
      exact ⟨ρ', F', h2, trivial⟩
  · split at he
    · cases he
    · obtain ⟨⟨y, s1⟩, h1, rfl⟩ := Option.map_eq_some_iff.1 he
      obtain ⟨ρ', F', h2, h3⟩ := fin ha.2 h1
      refine ⟨ρ', F', h2, ?_⟩
      unfold Pl
      simp only
      split
      · rename_i cs
        obtain ⟨us, rfl, hgl⟩ := ha.2
        refine ⟨us, rfl, by have := hgl.length; simpa using this, fun j v e rows hv hc w' ok' => ?_⟩
        simp only [St.takeOne] at h1
        split at h1
        · obtain ⟨⟨ys, s2⟩, h4, he⟩ := Option.map_eq_some_iff.1 h1
          simp only [Prod.mk.injEq] at he
          rw [← he.1] at h3
          cases h3 with
          | agg hl hcc hr => exact (hr j v _ hv (takeCells_own h4 j e rows hc)).slAny
        · cases h1
      · rename_i hne
        rintro e rows rfl w' ok'
        simp only [St.takeOne, St.takeCell, Option.some.injEq, Prod.mk.injEq] at h1
        rw [← h1.1] at h3
        exact h3.slAny

theorem enters_ok : ∀ (xs : List V) {us : List Value} {p : Nat} {ms : List Mode} {s s' : St} {ρ : Rho} {F : Id → List Nat} {G : List Nat}, RelG P B io w tmps s ρ F (G ++ fl) ok → ArgsR P w ok io ms us xs G → (∀ (j : Nat) (u : Value), us[j]? = some u → tmps[p + j]? = some u) → s.ep = 0 →
    (∀ j, 64 * p ≤ j → j < 64000 → ρ (0, j) = none ∧ s.heap (0, j) = none) → s.enters p ms xs = some s' → ∃ ρ' F', Came P B io w tmps s ρ fl ok (64 * p) 64000 s' ρ' F' ∧ PlL ρ' p ms us xs := by
  intro xs
  induction xs with
  | nil =>
    intro us p ms s s' ρ F G h ha ht hep hnew he
    cases ha
    simp only [St.enters, Option.some.injEq] at he
    subst he
    exact ⟨ρ, F, ⟨h, fun _ _ h => h, fun _ h => .inl h, rfl, fun _ _ => rfl, fun _ h => .inl h⟩, .nil⟩
  | cons x xs ih =>
    intro us p ms s s' ρ F G h ha ht hep hnew he
    cases ha with
    | @cons _ u us _ _ f1 f2 h1 hs =>
      simp only [St.enters] at he
      obtain ⟨s1, e1, he⟩ := Option.bind_eq_some_iff.1 he
      have hp : p < 1000 := by
        unfold St.enter at e1
        split at e1
        · assumption
        · cases e1
      obtain ⟨ρ1, F1, c1, p1⟩ := enter_ok (fl := f2 ++ fl) (by rw [← List.append_assoc]; exact h) h1 (by simpa using ht 0 u rfl) hep (fun j h1 h2 => hnew j h1 (by omega)) e1
      obtain ⟨ρ2, F2, c2, p2⟩ := ih c1.rel hs (fun j v hv => by have := ht (j + 1) v (by simpa using hv); rw [show p + 1 + j = p + (j + 1) by omega]; exact this) (by rw [c1.ep]; exact hep) (fun j h1 h2 => by
        obtain ⟨a1, a2⟩ := hnew j (by omega) h2
        refine ⟨?_, by rw [c1.heap _ (fun hh => by have := hh.2.2; simp only at this; omega)]; exact a2⟩
        cases hr : ρ1 (0, j) with
        | none => rfl
        | some i =>
          rcases c1.dom (0, j) (by rw [hr]; rfl) with hh | hh
          · rw [a1] at hh; cases hh
          · have := hh.2.2; simp only at this; omega) he
      refine ⟨ρ2, F2, ⟨c2.rel, fun id i hi => c2.ext id i (c1.ext id i hi), fun id hi => ?_, c2.ep.trans c1.ep, fun id hid => ?_, fun g hg => ?_⟩, .cons (p1.ext c2.ext) p2⟩
      · rcases c2.dom id hi with h3 | h3
        · rcases c1.dom id h3 with h4 | h4
          · exact .inl h4
          · exact .inr ⟨h4.1, h4.2.1, by omega⟩
        · exact .inr ⟨h3.1, by omega, h3.2.2⟩
      · rw [c2.heap id (fun hh => hid ⟨hh.1, by omega, hh.2.2⟩)]
        exact c1.heap id (fun hh => hid ⟨hh.1, hh.2.1, by omega⟩)
      · rcases c2.tops g hg with h3 | h3
        · exact c1.tops g h3
        · exact .inr h3
end
end Go.Proofs.Ytolbhpampnjinaa.Ev
/- A call's results and what it was lent go out. No condition. -/
namespace Go.Proofs.Ytolbhpampnjinaa.Ev
open Go Go.RowKit
set_option linter.unusedVariables false
set_option linter.unusedSimpArgs false

inductive GivOL (P : Program) (w : World) (ok top : Nat → Prop) : List Value → List V → List Nat → Prop
  | nil : GivOL P w ok top [] [] []
  | cons {v : Value} {x : V} {vs : List Value} {xs : List V} {f1 f2 : List Nat} (h : GivO P w ok top v x f1) (hs : GivOL P w ok top vs xs f2) : GivOL P w ok top (v :: vs) (x :: xs) (f1 ++ f2)
theorem GivOL.top {P : Program} {w : World} {ok top top' : Nat → Prop} {v : List Value} {x : List V} {fp : List Nat} (h : GivOL P w ok top v x fp) (ht : ∀ g, top g → top' g) : GivOL P w ok top' v x fp := by
  induction h with
  | nil => exact .nil
  | cons h _ ih => exact .cons (h.top ht) ih
/-- A slice that was written in place. -/
inductive OutL (P : Program) (w : World) (top : Nat → Prop) : List Value → List V → List V → List Nat → Prop
  | nil : OutL P w top [] [] [] []
  | own {u : Value} {e : TypeId} {rows rows' : List (List V)} {us : List Value} {xs ns : List V} {f1 f2 : List Nat} (h : OwT P w e u rows' f1) (ht : ∀ g, f1.head? = some g → top g) (hs : OutL P w top us xs ns f2) : OutL P w top (u :: us) (.own e rows :: xs) (.own e rows' :: ns) (f1 ++ f2)
  | skip {u : Value} {x : V} {us : List Value} {xs ns : List V} {f : List Nat} (hx : ∀ e rows, x ≠ .own e rows) (hs : OutL P w top us xs ns f) : OutL P w top (u :: us) (x :: xs) (.undef :: ns) f
theorem OutL.top {P : Program} {w : World} {top top' : Nat → Prop} {us : List Value} {xs ns : List V} {fp : List Nat} (h : OutL P w top us xs ns fp) (ht : ∀ g, top g → top' g) : OutL P w top' us xs ns fp := by
  induction h with
  | nil => exact .nil
  | own h k _ ih => exact .own h (fun g hg => ht g (k g hg)) ih
  | skip h _ ih => exact .skip h ih
def OutR (P : Program) (w : World) (ok top : Nat → Prop) (m : Mode) (u : Value) (x o : V) (fp : List Nat) : Prop :=
  match m with
  | .rd | .mv => fp = []
  | .io => ∃ cs cs', x = .agg cs ∧ o = .agg cs' ∧ cs'.length = cs.length ∧ GivO P w ok top u (.obx cs') fp
  | .iov => (∃ (us : Array Value) (cs ns : List V), x = .agg cs ∧ u = .agg us ∧ o = .agg ns ∧ OutL P w top us.toList cs ns fp) ∨ ((∀ cs, x ≠ .agg cs) ∧ OutL P w top [u] [x] [o] fp)
theorem OutR.top {P : Program} {w : World} {ok top top' : Nat → Prop} {m : Mode} {u : Value} {x o : V} {fp : List Nat} (h : OutR P w ok top m u x o fp) (ht : ∀ g, top g → top' g) : OutR P w ok top' m u x o fp := by
  cases m
  · exact h
  · obtain ⟨cs, cs', h1, h2, h3, h4⟩ := h; exact ⟨cs, cs', h1, h2, h3, h4.top ht⟩
  · exact h
  · rcases h with ⟨us, cs, ns, h1, h2, h3, h4⟩ | ⟨h1, h2⟩
    · exact .inl ⟨us, cs, ns, h1, h2, h3, h4.top ht⟩
    · exact .inr ⟨h1, h2.top ht⟩
inductive OutsR (P : Program) (w : World) (ok top : Nat → Prop) : List Mode → List Value → List V → List V → List Nat → Prop
  | nil {ms : List Mode} : OutsR P w ok top ms [] [] [] []
  | cons {ms : List Mode} {u : Value} {us : List Value} {x o : V} {xs os : List V} {f1 f2 : List Nat} (h : OutR P w ok top (ms.headD .rd) u x o f1) (hs : OutsR P w ok top ms.tail us xs os f2) : OutsR P w ok top ms (u :: us) (x :: xs) (o :: os) (f1 ++ f2)
theorem OutsR.top {P : Program} {w : World} {ok top top' : Nat → Prop} {ms : List Mode} {us : List Value} {xs os : List V} {fp : List Nat} (h : OutsR P w ok top ms us xs os fp) (ht : ∀ g, top g → top' g) : OutsR P w ok top' ms us xs os fp := by
  induction h with
  | nil => exact .nil
  | cons h _ ih => exact .cons (h.top ht) ih

section
variable {P : Program} {B : Nat} {io : Nat → Prop} {w w' : World} {tmps : Array Value} {s s' : St} {ρ ρ' : Rho} {F F' : Id → List Nat} {fl fl' : List Nat} {ok ok' : Nat → Prop}

theorem liftOne_ok (h0 : Rel P B io w tmps s ρ F fl) {s1 s2 : St} {fl1 : List Nat} (h : Rel P B io w tmps s1 ρ F fl1) (hless : Less s s1) {ts : List (Option TypeId)} {u : Value} {x y : V} (hu : En w (okS s ρ w) ρ u x) (hl : s1.liftOne ts x = some (y, s2)) :
    ∃ fp, Rel P B io w tmps s2 ρ F (fp ++ fl1) ∧ GivO P w (okS s ρ w) (Killed s1 s2 ρ F) u y fp ∧ Less s1 s2 := by
  have hok : ∀ g, okS s ρ w g → okS s1 ρ w g := fun g hg => okS_less hless hg
  unfold St.liftOne at hl
  split at hl
  · rename_i cs
    exact giveArg_ok h hu hok (show s1.giveArg ts (.agg cs) = some (y, s2) from hl)
  · rename_i id
    obtain ⟨⟨cs, s4⟩, h3, he⟩ := Option.map_eq_some_iff.1 hl
    simp only [Prod.mk.injEq] at he
    obtain ⟨rfl, rfl⟩ := he
    obtain ⟨fp, a, b, c, _⟩ := giveBox_ok h hu hok (fun b row hb => h0.boxCellsEn b row (hless.sub id b hb)) h3
    exact ⟨fp, a, b, c⟩
  · obtain ⟨fp, a, b, c⟩ := giveCell_ok h hu hok hl
    refine ⟨fp, a, ?_, c⟩
    cases b with
    | lit h => exact .lit h
    | tr h => exact .tr h
    | own h k => exact .own h k

theorem liftAll_ok (h0 : Rel P B io w tmps s ρ F fl) : ∀ (xs : List V) {us : List Value} {ts : List TypeId} {s1 s2 : St} {fl1 : List Nat} {ys : List V}, Rel P B io w tmps s1 ρ F fl1 → Less s s1 → us.length = xs.length →
    (∀ (j : Nat) (u : Value) (x : V), us[j]? = some u → xs[j]? = some x → En w (okS s ρ w) ρ u x) → s1.liftAll P ts xs = some (ys, s2) → ∃ fp, Rel P B io w tmps s2 ρ F (fp ++ fl1) ∧ GivOL P w (okS s ρ w) (Killed s1 s2 ρ F) us ys fp ∧ Less s1 s2 := by
  intro xs
  induction xs with
  | nil =>
    intro us ts s1 s2 fl1 ys h hless hl hen hg
    have : us = [] := List.eq_nil_of_length_eq_zero (by simpa using hl)
    subst this
    simp only [St.liftAll, Option.some.injEq, Prod.mk.injEq] at hg
    obtain ⟨rfl, rfl⟩ := hg
    exact ⟨[], h, .nil, .refl _⟩
  | cons x xs ih =>
    intro us ts s1 s2 fl1 ys h hless hl hen hg
    match us, hl with
    | u :: us, hl =>
      simp only [St.liftAll] at hg
      obtain ⟨⟨y, s3⟩, h1, hg⟩ := Option.bind_eq_some_iff.1 hg
      obtain ⟨⟨zs, s4⟩, h2, hg⟩ := Option.map_eq_some_iff.1 hg
      simp only [Prod.mk.injEq] at hg
      obtain ⟨rfl, rfl⟩ := hg
      simp only at h2
      obtain ⟨f1, r1, a1, l1⟩ := liftOne_ok h0 h hless (hen 0 u x rfl rfl) h1
      obtain ⟨f2, r2, a2, l2⟩ := ih r1 (hless.trans l1) (by simpa using hl) (fun j v z hv hz => hen (j + 1) v z (by simpa using hv) (by simpa using hz)) h2
      refine ⟨f1 ++ f2, r2.perm ?_, .cons (a1.top fun g hg => hg.left l2) (a2.top fun g hg => hg.right l1), l1.trans l2⟩
      rw [List.append_assoc]
      exact (List.perm_append_comm_assoc _ _ _)

theorem outCells_ok {p : Nat} : ∀ (xs : List V) {us : List Value} {k : Nat} {s1 s2 : St} {fl1 : List Nat} {ys : List V}, Rel P B io w tmps s1 ρ F fl1 → us.length = xs.length →
    (∀ (j : Nat) (v : Value) (e : TypeId) (rows : List (List V)), us[j]? = some v → xs[j]? = some (.own e rows) → ∀ w ok, En w ok ρ v (.sl (0, 64 * p + (k + j)) 0 rows.length)) → s1.outCells p k xs = some (ys, s2) →
    ∃ fp, Rel P B io w tmps s2 ρ F (fp ++ fl1) ∧ OutL P w (Killed s1 s2 ρ F) us xs ys fp ∧ Less s1 s2 := by
  intro xs
  induction xs with
  | nil =>
    intro us k s1 s2 fl1 ys h hl hen hg
    have : us = [] := List.eq_nil_of_length_eq_zero (by simpa using hl)
    subst this
    simp only [St.outCells, Option.some.injEq, Prod.mk.injEq] at hg
    obtain ⟨rfl, rfl⟩ := hg
    exact ⟨[], h, .nil, .refl _⟩
  | cons x xs ih =>
    intro us k s1 s2 fl1 ys h hl hen hg
    match us, hl with
    | u :: us, hl =>
      have hen' : ∀ (j : Nat) (v : Value) (e : TypeId) (rows : List (List V)), us[j]? = some v → xs[j]? = some (.own e rows) → ∀ w ok, En w ok ρ v (.sl (0, 64 * p + (k + 1 + j)) 0 rows.length) := fun j v e rows hv hx w' ok' => by
        have := hen (j + 1) v e rows (by simpa using hv) (by simpa using hx) w' ok'
        rw [show k + 1 + j = k + (j + 1) by omega]; exact this
      unfold St.outCells at hg
      split at hg
      · rename_i heq; cases heq
      · rename_i heq
        injection heq with e1 e2
        subst e1; subst e2
        obtain ⟨⟨e', rows'⟩, hw, hg⟩ := Option.bind_eq_some_iff.1 hg
        simp only at hg
        split at hg
        · rename_i hee
          obtain ⟨⟨zs, s3⟩, h2, he⟩ := Option.map_eq_some_iff.1 hg
          simp only [Prod.mk.injEq] at he
          obtain ⟨rfl, rfl⟩ := he
          subst hee
          have hu := hen 0 u _ _ rfl rfl w (okS s1 ρ w)
          obtain ⟨f1, r1, o1, hh⟩ := h.whole2 (by simpa using hu) hw
          obtain ⟨f2, r2, a2, l2⟩ := ih r1 (by simpa using hl) hen' h2
          refine ⟨f1 ++ f2, r2.perm ?_, .own o1 (fun g hg => ?_) (a2.top fun g hg => hg.right (.kill s1 _)), (Less.kill s1 _).trans l2⟩
          · rw [List.append_assoc]
            exact (List.perm_append_comm_assoc _ _ _)
          · unfold St.whole at hw
            obtain ⟨b, hb, hw⟩ := Option.bind_eq_some_iff.1 hw
            split at hw
            · rename_i hc
              exact ⟨_, b, hb, hc.2.1, l2.none kill_self, (hh g hg).1, (hh g hg).2⟩
            · cases hw
        · cases hg
      · rename_i hne heq
        injection heq with e1 e2
        subst e1; subst e2
        obtain ⟨⟨zs, s3⟩, h2, he⟩ := Option.map_eq_some_iff.1 hg
        simp only [Prod.mk.injEq] at he
        obtain ⟨rfl, rfl⟩ := he
        obtain ⟨f2, r2, a2, l2⟩ := ih h (by simpa using hl) hen' h2
        exact ⟨f2, r2, .skip (fun e rows hx => hne e rows hx) a2, l2⟩

theorem outs_ok {D : Id → Prop} (h0 : Rel P B io w tmps s ρ F fl) : ∀ (xs : List V) {us : List Value} {p : Nat} {ts : List TypeId} {ms : List Mode} {sa s1 : St} {fl1 : List Nat} {ys : List V}, Rel P B io w tmps s1 ρ F fl1 → Less s s1 → PlL ρ p ms us xs →
    Ext D sa s1 → sa.outs P p ts ms xs = some ys → s1.outs P p ts ms xs = some ys → ∃ s2 fp, (∀ id, D id → s2.heap id = s1.heap id) ∧ Rel P B io w tmps s2 ρ F (fp ++ fl1) ∧ OutsR P w (okS s ρ w) (Killed s1 s2 ρ F) ms us xs ys fp ∧ Less s1 s2 := by
  intro xs
  induction xs with
  | nil =>
    intro us p ts ms sa s1 fl1 ys h hless hpl hx hga hg
    cases hpl
    simp only [St.outs, Option.some.injEq] at hg
    subst hg
    exact ⟨s1, [], fun _ _ => rfl, h, .nil, .refl _⟩
  | cons x xs ih =>
    intro us p ts ms sa s1 fl1 ys h hless hpl hx hga hg
    cases hpl with
    | @cons _ _ u us _ _ hp hps =>
      simp only [St.outs] at hg hga
      obtain ⟨⟨y, s3⟩, h1, hg⟩ := Option.bind_eq_some_iff.1 hg
      obtain ⟨zs, h2, rfl⟩ := Option.map_eq_some_iff.1 hg
      obtain ⟨⟨ya, sa3⟩, ha1, hga⟩ := Option.bind_eq_some_iff.1 hga
      obtain ⟨zsa, ha2, hzs⟩ := Option.map_eq_some_iff.1 hga
      simp only at h2 ha2
      injection hzs with hya hzs
      have hya := hya.symm; have hzs := hzs.symm; subst hya; subst hzs
      obtain ⟨s3', k1, k2⟩ := hx.outOne ha1
      rw [h1] at k1
      simp only [Option.some.injEq, Prod.mk.injEq, true_and] at k1
      subst k1
      have hok : ∀ g, okS s ρ w g → okS s1 ρ w g := fun g hg => okS_less hless hg
      have one : ∃ fp, Rel P B io w tmps s3 ρ F (fp ++ fl1) ∧ OutR P w (okS s ρ w) (Killed s1 s3 ρ F) (ms.headD .rd) u x y fp ∧ Less s1 s3 := by
        unfold St.out at h1
        split at h1
        · rename_i hm
          simp only [Option.some.injEq, Prod.mk.injEq] at h1
          obtain ⟨rfl, rfl⟩ := h1
          rw [hm]
          exact ⟨[], h, rfl, .refl _⟩
        · rename_i hm
          simp only [Option.some.injEq, Prod.mk.injEq] at h1
          obtain ⟨rfl, rfl⟩ := h1
          rw [hm]
          exact ⟨[], h, rfl, .refl _⟩
        · rename_i hm
          rw [hm] at hp ⊢
          split at h1
          · rename_i cs
            obtain ⟨⟨cs', s4⟩, h3, h1⟩ := Option.bind_eq_some_iff.1 h1
            simp only at h1
            split at h1
            · rename_i hlen
              simp only [Option.some.injEq, Prod.mk.injEq] at h1
              obtain ⟨rfl, rfl⟩ := h1
              obtain ⟨fp, a, b, c, _⟩ := giveBox_ok h (hp w (okS s ρ w)) hok (fun b row hb => h0.boxCellsEn b row (hless.sub _ b hb)) h3
              exact ⟨fp, a, ⟨cs, cs', rfl, rfl, hlen, b⟩, c⟩
            · cases h1
          · cases h1
        · rename_i hm
          rw [hm] at hp ⊢
          unfold Pl at hp
          simp only at hp
          split at h1
          · rename_i cs
            obtain ⟨⟨ns, s4⟩, h3, he⟩ := Option.map_eq_some_iff.1 h1
            simp only [Prod.mk.injEq] at he
            obtain ⟨rfl, rfl⟩ := he
            obtain ⟨vs, rfl, hsz, hen⟩ := hp
            obtain ⟨fp, a, b, c⟩ := outCells_ok (p := p) cs (us := vs.toList) (k := 0) h (by simpa using hsz) (fun j v e rows hv hc w' ok' => by
              have := hen j v e rows (by simpa using hv) hc w' ok'
              rw [Nat.zero_add]; exact this) h3
            exact ⟨fp, a, .inl ⟨vs, cs, ns, rfl, rfl, rfl, b⟩, c⟩
          · rename_i hne
            obtain ⟨⟨ns, s4⟩, h3, h1⟩ := Option.bind_eq_some_iff.1 h1
            obtain ⟨z, hz, he⟩ := Option.map_eq_some_iff.1 h1
            simp only [Prod.mk.injEq] at he
            obtain ⟨rfl, rfl⟩ := he
            split at hp
            · rename_i cs; exact absurd rfl (hne cs)
            · obtain ⟨fp, a, b, c⟩ := outCells_ok (p := p) [x] (us := [u]) (k := 0) h rfl (fun j v e rows hv hc w' ok' => by
                cases j with
                | zero =>
                  have e1 : u = v := by simpa using hv
                  have e2 : x = .own e rows := by simpa using hc
                  subst e1
                  have := hp e rows e2 w' ok'
                  simpa using this
                | succ j => simp at hc) h3
              have hns : ns = [z] := by
                cases b with
                | own _ _ hs => cases hs; simp at hz; rw [hz]
                | skip _ hs => cases hs; simp at hz; rw [hz]
              subst hns
              exact ⟨fp, a, .inr ⟨hne, b⟩, c⟩
      obtain ⟨f1, r1, a1, l1⟩ := one
      obtain ⟨s5, f2, d2, r2, a2, l2⟩ := ih r1 (hless.trans l1) hps k2.1 ha2 h2
      refine ⟨s5, f1 ++ f2, fun id hd => (d2 id hd).trans (k2.2.1 id hd), r2.perm ?_, .cons (a1.top fun g hg => hg.left l2) (a2.top fun g hg => hg.right l1), l1.trans l2⟩
      rw [List.append_assoc]
      exact (List.perm_append_comm_assoc _ _ _)

/-- The results, as the model reads them. -/
theorem loadVar_run {t : TypeId} {g n : Nat} {us : List Value} {cs : List V} {v : V} (hl : us.length = sizeT P t) (hcl : us.length = cs.length) (hce : ∀ x ∈ cs, cellish x = true)
    (hc : ∀ j u, us[j]? = some u → w.cell? ⟨g, n + j, none⟩ = some u) (he : ofCells P t cs = some v) (hen : ∀ (j : Nat) (u : Value) (x : V), us[j]? = some u → cs[j]? = some x → En w (okS s ρ w) ρ u x) :
    ∃ u, (loadVar t ⟨g, n, none⟩).run P w = .ok u w ∧ En w (okS s ρ w) ρ u v := by
  unfold ofCells at he
  split at he
  · rename_i hsome
    obtain ⟨d, hu⟩ := Option.isSome_iff_exists.1 hsome
    split at he
    · rename_i hagg
      simp only [Option.some.injEq] at he
      subst he
      obtain ⟨ti, hti⟩ : ∃ ti, P.info? t = some ti := by
        unfold Program.underlying at hu
        split at hu
        · rename_i h; exact ⟨_, h⟩
        · rename_i h; exact ⟨_, h⟩
        · cases hu
      have hsz : ti.size = us.length := by rw [hl]; simp [sizeT, Program.cellsOf, hti]
      have hrun := run_loadCells_list (P := P) (w := w) ⟨g, n, none⟩ us (fun j u hj => by rw [Addr_add]; exact hc j u hj)
      rw [← hsz] at hrun
      refine ⟨.agg us.toArray, ?_, (.agg (by simpa using hcl) hce (fun j u x hj hx => hen j u x (by simpa using hj) hx))⟩
      cases d <;> simp [aggT, hu] at hagg <;> simp [loadVar, isAgg, underlying, hu, Go.sizeOf, typeInfo, hti, hrun]
    · rename_i hagg
      split at he
      · rename_i y
        simp only [Option.some.injEq] at he
        subst he
        match us, hcl with
        | [u], _ =>
          refine ⟨u, ?_, hen 0 u y rfl rfl⟩
          have h0 := hc 0 u rfl
          simp only [Nat.add_zero] at h0
          cases d <;> simp [aggT, hu] at hagg <;> simp [loadVar, isAgg, underlying, hu, load, Sem.run, h0]
      · cases he
  · cases he

def resF (tmps : Array Value) : ResultVar → Sem Value
  | .tmp t => pure (tmps.getD t undef)
  | .cell a t => do loadVar t (← asAddr (tmps.getD a undef))
theorem resV_ok (h : Rel P B io w tmps s ρ F fl) : ∀ (l : List ResultVar) {vs : List V}, resV P s l = some vs → ∃ us : List Value, us.length = vs.length ∧
    (l.mapM (resF tmps)).run P w = .ok us w ∧ ∀ (j : Nat) (u : Value) (x : V), us[j]? = some u → vs[j]? = some x → En w (okS s ρ w) ρ u x := by
  intro l
  induction l with
  | nil =>
    intro vs hr
    simp only [resV, Option.some.injEq] at hr
    subst hr
    exact ⟨[], rfl, by simp, fun j u x hu => by simp at hu⟩
  | cons r l ih =>
    intro vs hr
    have tm : ∀ t, s.env t ≠ .undef → t < tmps.size := fun t hne => by
      rcases Nat.lt_or_ge t tmps.size with h' | h'
      · exact h'
      · exact absurd (h.out t h') hne
    have fin : ∀ {u : Value} {x : V} {ys : List V}, (resF tmps r).run P w = .ok u w → En w (okS s ρ w) ρ u x → resV P s l = some ys → x :: ys = vs →
        ∃ us : List Value, us.length = vs.length ∧ ((r :: l).mapM (resF tmps)).run P w = .ok us w ∧ ∀ (j : Nat) (u : Value) (x : V), us[j]? = some u → vs[j]? = some x → En w (okS s ρ w) ρ u x := by
      rintro u x ys hrun hen hr2 rfl
      obtain ⟨us, h1, h2, h3⟩ := ih hr2
      refine ⟨u :: us, by simp [h1], ?_, fun j v z hv hz => ?_⟩
      · rw [List.mapM_cons]
        simp only [Sem.run_bind, hrun, h2, Result.andThen_ok, Sem.run_pure]
      · cases j with
        | zero =>
          have e1 : u = v := by simpa using hv
          have e2 : x = z := by simpa using hz
          subst e1; subst e2; exact hen
        | succ j => exact h3 j v z (by simpa using hv) (by simpa using hz)
    cases r with
    | tmp t =>
      simp only [resV] at hr
      split at hr
      · cases hr
      · rename_i hne
        obtain ⟨ys, h1, h2⟩ := Option.map_eq_some_iff.1 hr
        have hlt := tm t hne
        have hv : tmps[t]? = some tmps[t] := Array.getElem?_eq_getElem hlt
        exact fin (u := tmps.getD t undef) (by simp [resF]) (by rw [Array.getD_eq_getD_getElem?, hv]; exact h.env t _ hv) h1 h2
    | cell ad t =>
      simp only [resV] at hr
      split at hr
      · rename_i i j n hx
        obtain ⟨b, hb, hr⟩ := Option.bind_eq_some_iff.1 hr
        obtain ⟨row, hrow, hr⟩ := Option.bind_eq_some_iff.1 hr
        split at hr
        · rename_i hlen
          obtain ⟨x, hxe, hr⟩ := Option.bind_eq_some_iff.1 hr
          obtain ⟨ys, h1, h2⟩ := Option.map_eq_some_iff.1 hr
          have hlt := tm ad (by rw [hx]; simp)
          have hv : tmps[ad]? = some tmps[ad] := Array.getElem?_eq_getElem hlt
          have hen := h.env ad _ hv
          rw [hx] at hen
          generalize hq : tmps[ad] = q at hen hv
          generalize hpp : V.ptr i j n = pp at hen
          cases hen <;> cases hpp
          rename_i g o' c sz hρ
          have cell : ∀ (m : Nat) (y : V), row[m]? = some y → ∃ u, w.cell? ⟨g, o' + j * sz + m, none⟩ = some u ∧ En w (okS s ρ w) ρ u y ∧ cellish y = true := fun m y hy => by
            obtain ⟨u, k1, k2, k3⟩ := h.cell hb hρ hrow hy
            cases hbox : b.box with
            | true => exact ⟨u, k1, k2 hbox, h.boxCells hb hbox hrow y (List.mem_of_getElem? hy)⟩
            | false => exact ⟨u, k1, (k3 hbox).en, (k3 hbox).cellish⟩
          have each : ∀ m, ∃ u : Value, ∀ y, row[m]? = some y → w.cell? ⟨g, o' + j * sz + m, none⟩ = some u ∧ En w (okS s ρ w) ρ u y := fun m => by
            cases hm : row[m]? with
            | none => exact ⟨undef, fun y hy => by cases hy⟩
            | some z =>
              obtain ⟨u, k1, k2, _⟩ := cell m z hm
              exact ⟨u, fun y hy => by injection hy with hy; subst hy; exact ⟨k1, k2⟩⟩
          obtain ⟨uf, huf⟩ := Classical.axiomOfChoice each
          obtain ⟨u, hrun, hue⟩ := loadVar_run (P := P) (s := s) (ρ := ρ) (w := w) (t := t) (g := g) (n := o' + j * sz + n) (us := (List.range (sizeT P t)).map fun m => uf (n + m)) (cs := (row.drop n).take (sizeT P t)) (by simp) (by simp; omega) (fun x hx => by
            obtain ⟨m, hm⟩ := List.getElem?_of_mem hx
            rw [List.getElem?_take] at hm
            split at hm
            · rw [List.getElem?_drop] at hm
              obtain ⟨_, _, _, k4⟩ := cell _ x hm
              exact k4
            · cases hm) (fun m u hm => by
            simp only [List.getElem?_map, Option.map_eq_some_iff] at hm
            obtain ⟨m', hm', rfl⟩ := hm
            obtain ⟨hlt', rfl⟩ := List.getElem?_eq_some_iff.1 hm'
            simp only [List.length_range, List.getElem_range] at hlt' ⊢
            rw [Nat.add_assoc]
            exact (huf (n + m) _ (List.getElem?_eq_getElem (by omega))).1) hxe (fun m u y hm hy => by
            simp only [List.getElem?_map, Option.map_eq_some_iff] at hm
            obtain ⟨m', hm', rfl⟩ := hm
            obtain ⟨hlt', rfl⟩ := List.getElem?_eq_some_iff.1 hm'
            simp only [List.length_range, List.getElem_range] at hlt' ⊢
            rw [List.getElem?_take, if_pos hlt', List.getElem?_drop] at hy
            exact (huf (n + m) y hy).2)
          refine fin (u := u) ?_ hue h1 h2
          simp only [resF, Sem.run_bind]
          rw [Array.getD_eq_getD_getElem?, hv]
          simp [asAddr, hrun]
        · cases hr
      · cases hr
end
end Go.Proofs.Ytolbhpampnjinaa.Ev
/- A function's body keeps its contract. No condition. -/
namespace Go.Proofs.Ytolbhpampnjinaa.Ev
open Go Go.RowKit
set_option linter.unusedVariables false
set_option linter.unusedSimpArgs false

def ResR (P : Program) (w : World) (ok top : Nat → Prop) (v : Value) : V → List Nat → Prop
  | .tup rs, fp => ∃ us : Array Value, v = .tuple us ∧ GivOL P w ok top us.toList rs fp
  | x, fp => GivO P w ok top v x fp

/-- What a call leaves. -/
structure Done (P : Program) (ms : List Mode) (w : World) (us : Array Value) (xs : List V) (G : List Nat) (T X : Nat → Prop) (r : V) (os : List V) (v : Value) (w' : World) : Prop where
  left : Left w.heap.size T w w'
  ex : ∃ (ok' top' : Nat → Prop) (fr fo : List Nat), ResR P w' ok' top' v r fr ∧ OutsR P w' ok' top' ms us.toList xs os fo ∧ (fr ++ fo).Nodup ∧ (∀ g ∈ fr ++ fo, g < w'.heap.size ∧ (g ∈ G ∨ w.heap.size ≤ g)) ∧ (∀ g, top' g → T g ∨ w.heap.size ≤ g) ∧ (∀ g, ok' g → g < w'.heap.size ∧ ¬ top' g ∧ ¬ X g)

/-- A function answers so. -/
def Contract (P : Program) (ms : List Mode) (f : FuncId) (xs : List V) (r : V) (os : List V) : Prop :=
  ∀ (w : World) (us : Array Value) (G : List Nat) (T X ok : Nat → Prop), ArgsR P w ok T ms us.toList xs G → G.Nodup → (∀ g ∈ G, g < w.heap.size ∧ ¬ X g) → (∀ g, ok g → g < w.heap.size ∧ ¬ T g ∧ ¬ X g) →
    (∀ g, X g → ∃ cur e, w.heap[g]? = some (.cells cur e (0, 0))) → Calls P f us w (fun e w' => ∃ v, e = .returned v ∧ Done P ms w us xs G T X r os v w')

/-- Numbers for blocks that the call must leave alone. -/
def phId (b : Nat) (id : Id) : Prop := id.1 = 0 ∧ b ≤ id.2
def phBlk (w : World) (g : Nat) : Blk := match w.heap[g]? with | some (.cells _ e _) => ⟨false, true, false, e, []⟩ | _ => ⟨false, true, false, 0, []⟩
def phInfo (P : Program) (w : World) (g : Nat) : Info := match w.heap[g]? with | some (.cells cur e _) => .blk g cur.size 0 (P.cellsOf e) | _ => .emp
open Classical in
noncomputable def phSt (b : Nat) (w : World) (X : Nat → Prop) : St := ⟨fun _ => .undef, fun id => if id.1 = 0 ∧ b ≤ id.2 ∧ X (id.2 - b) then some (phBlk w (id.2 - b)) else none, 0⟩
open Classical in
noncomputable def phRho (b : Nat) (P : Program) (w : World) (X : Nat → Prop) : Rho := fun id => if id.1 = 0 ∧ b ≤ id.2 ∧ X (id.2 - b) then some (phInfo P w (id.2 - b)) else none

theorem ph_ext (b : Nat) (w : World) (X : Nat → Prop) : ExtE (phId b) ⟨fun _ => .undef, fun _ => none, 0⟩ (phSt b w X) := by
  refine ⟨⟨rfl, fun id hid => ?_, fun _ _ => rfl⟩, rfl, fun id bk hd hb => ?_⟩
  · simp only [phSt]
    rw [if_neg (fun h => hid ⟨h.1, h.2.1⟩)]
  · simp only [phSt] at hb
    split at hb
    · injection hb with hb
      subst hb
      unfold phBlk
      split <;> rfl
    · cases hb

section
variable {P : Program} {M : Hints} {C : CallF}

theorem ph_rel {b : Nat} {w : World} {X T ok : Nat → Prop} {tmps : Array Value} {fl : List Nat} (hX : ∀ g, X g → ∃ cur e, w.heap[g]? = some (.cells cur e (0, 0))) (hfl : ∀ g ∈ fl, g < w.heap.size ∧ ¬ X g) (hno : fl.Nodup) :
    RelG P w.heap.size T w tmps (phSt b w X) (phRho b P w X) (fun id => [id.2 - b]) fl ok := by
  have key : ∀ id k, (phSt b w X).heap id = some k → id.1 = 0 ∧ b ≤ id.2 ∧ X (id.2 - b) ∧ k = phBlk w (id.2 - b) := fun id k hb => by
    simp only [phSt] at hb
    split at hb
    · rename_i h; injection hb with hb; exact ⟨h.1, h.2.1, h.2.2, hb.symm⟩
    · cases hb
  have lt : ∀ g, X g → g < w.heap.size := fun g hg => by
    obtain ⟨cur, e, h⟩ := hX g hg
    exact (Array.getElem?_eq_some_iff.1 h).1
  refine ⟨fun t v hv => .undef, fun t ht => rfl, fun id k hb => ?_, fun id k hb ho g hg => ?_, fun id k hb ho hc g hg => ?_, fun id id' k k' hb ho hb' ho' hne g hg hg' => ?_, fun id k hb ho => by simp, fun id hid => ?_, Nat.le_refl _, fun g hg => (hfl g hg).1, fun id k hb ho g hg hg' => ?_, hno⟩
  · obtain ⟨h1, h2, h3, rfl⟩ := key id _ hb
    obtain ⟨cur, e, h⟩ := hX _ h3
    have hρ : phRho b P w X id = some (.blk (id.2 - b) cur.size 0 (P.cellsOf e)) := by
      simp only [phRho]
      rw [if_pos ⟨h1, h2, h3⟩]
      simp only [phInfo, h]
    have hbk : phBlk w (id.2 - b) = ⟨false, true, false, e, []⟩ := by simp only [phBlk, h]
    rw [hρ, hbk]
    exact .mkRow rfl rfl rfl h (Nat.le_refl _) (Nat.zero_le _) (by simp) (by simp) rfl (fun hf => by cases hf) (fun _ => ⟨rfl, fun k x hx => by simp at hx⟩)
  · obtain ⟨h1, h2, h3, rfl⟩ := key id _ hb
    rw [List.mem_singleton.1 hg]
    exact lt _ h3
  · obtain ⟨h1, h2, h3, rfl⟩ := key id _ hb
    obtain ⟨cur, e, h⟩ := hX _ h3
    obtain ⟨g1, o1, c1, z1, hi, hc⟩ := hc
    simp only [phRho] at hi
    rw [if_pos ⟨h1, h2, h3⟩] at hi
    simp only [phInfo, h] at hi
    injection hi with hi
    injection hi with _ _ hi _
    omega
  · obtain ⟨h1, h2, h3, _⟩ := key id _ hb
    obtain ⟨h1', h2', h3', _⟩ := key id' _ hb'
    have e1 := List.mem_singleton.1 hg
    have e2 := List.mem_singleton.1 hg'
    apply hne
    obtain ⟨i1, i2⟩ := id
    obtain ⟨j1, j2⟩ := id'
    simp only at *
    rw [h1, h1', show i2 = j2 by omega]
  · simp only [phRho] at hid
    split at hid
    · rename_i h; simp only [phSt]; omega
    · simp at hid
  · obtain ⟨h1, h2, h3, rfl⟩ := key id _ hb
    rw [List.mem_singleton.1 hg] at hg'
    exact (hfl _ hg').2 h3

/-- Functions whose temporaries are there, under a name that can be called. -/
structure FuncsOk (P : Program) : Prop where
  mixed : P.follows .mixedOrders = true
  dst : ∀ (f : FuncId) (fn : Func) (c : Code), P.funcs[f]? = some fn → fn.body = some c → codeDst fn.ntmps c = true
  name : ∀ (f : FuncId) (fn : Func), P.funcs[f]? = some fn → (fn.name == "runtime.NumGoroutine") = false

def oneOrTup : List Value → Value
  | [u] => u
  | l => .tuple l.toArray
theorem results_run {fn : Func} {tmps : Array Value} {w : World} {us : List Value} (h : (fn.results.toList.mapM (resF tmps)).run P w = .ok us w) :
    (results fn tmps).run P w = .ok (oneOrTup us) w := by
  have e : results fn tmps = (fn.results.mapM (resF tmps)) >>= fun vs => pure (if h : vs.size = 1 then vs[0] else .tuple vs) := by
    unfold results
    congr 1
  rw [e, Array.mapM_eq_mapM_toList]
  simp only [Sem.run_bind, Sem.run_map, h, Result.andThen_ok, Sem.run_pure]
  match us with
  | [] => rfl
  | [u] => rfl
  | u :: v :: l => rfl

theorem opsDst_le {n m : Nat} (h : n ≤ m) {l : List Oper} (hl : opsDst n l = true) : opsDst m l = true := by
  unfold opsDst at hl ⊢
  rw [List.all_eq_true] at hl ⊢
  intro o ho
  have := hl o ho
  cases hd : o.dst with
  | none => rfl
  | some d =>
    rw [hd] at this
    simp only [decide_eq_true_eq] at this ⊢
    exact Nat.lt_of_lt_of_le this h
theorem codeDst_le {n m : Nat} (h : n ≤ m) : ∀ (c : Code), codeDst n c = true → codeDst m c = true := by
  intro c
  induction c with
  | region id ops d => exact opsDst_le h
  | seq a b iha ihb => intro hc; simp only [codeDst, Bool.and_eq_true] at hc ⊢; exact ⟨iha hc.1, ihb hc.2⟩
  | cond x a b iha ihb => intro hc; simp only [codeDst, Bool.and_eq_true] at hc ⊢; exact ⟨iha hc.1, ihb hc.2⟩
  | block i c ih => intro hc; simp only [codeDst] at hc ⊢; exact ih hc
  | loop c ih => intro hc; simp only [codeDst] at hc ⊢; exact ih hc
  | _ => intro _; rfl
theorem GivOL.okm {w : World} {ok ok' top : Nat → Prop} {v : List Value} {x : List V} {fp : List Nat} (h : GivOL P w ok top v x fp) (ht : ∀ g, ok g → ok' g) : GivOL P w ok' top v x fp := by
  induction h with
  | nil => exact .nil
  | cons h _ ih => exact .cons (h.okm ht) ih
theorem GivOL.length {w : World} {ok top : Nat → Prop} {us : List Value} {xs : List V} {fp : List Nat} (h : GivOL P w ok top us xs fp) : us.length = xs.length := by
  induction h with
  | nil => rfl
  | cons _ _ ih => simp [ih]
theorem GivO.notTup {w : World} {ok top : Nat → Prop} {u : Value} {x : V} {fp : List Nat} (h : GivO P w ok top u x fp) : ∀ rs, x ≠ .tup rs := by
  rintro rs rfl
  cases h
theorem ResR.of {w : World} {ok top : Nat → Prop} {us : List Value} {ys : List V} {fp : List Nat} (h : GivOL P w ok top us ys fp) : ResR P w ok top (oneOrTup us) (oneOrV ys) fp := by
  cases h with
  | nil => exact ⟨#[], rfl, .nil⟩
  | @cons u x us xs f1 f2 h hs =>
    cases hs with
    | nil =>
      rw [List.append_nil]
      have := h.notTup
      cases x <;> first | exact h | exact absurd rfl (this _)
    | @cons v y us' xs' f3 f4 h2 hs2 => exact ⟨(u :: v :: us').toArray, rfl, .cons h (.cons h2 hs2)⟩

theorem evBody_ok (hP : FuncsOk P) (hC : CallsOk P M C) {n : Nat} {f : FuncId} {xs : List V} {r : V} {os : List V} (he : evBody P M C n f xs = some (r, os)) : Contract P (M.modes f) f xs r os := by
  unfold evBody at he
  obtain ⟨fn, hfn, he⟩ := Option.bind_eq_some_iff.1 he
  obtain ⟨c, hc, he⟩ := Option.bind_eq_some_iff.1 he
  obtain ⟨s1, hent, he⟩ := Option.bind_eq_some_iff.1 he
  obtain ⟨⟨ex, s2⟩, hcode, he⟩ := Option.bind_eq_some_iff.1 he
  have hex : (ex = .normal ∨ ex = .ret) ∧ ∃ vs, resV P s2 fn.results.toList = some vs ∧ ∃ ys s3, s2.liftAll P fn.resultTypes.toList vs = some (ys, s3) ∧ s3.outs P 0 fn.params.toList (M.modes f) xs = some os ∧ r = (oneOrV ys) := by
    have fin : ((resV P s2 fn.results.toList).bind fun vs => (s2.liftAll P fn.resultTypes.toList vs).bind fun y => (y.2.outs P 0 fn.params.toList (M.modes f) xs).map fun os => (oneOrV y.1, os)) = some (r, os) →
        ∃ vs, resV P s2 fn.results.toList = some vs ∧ ∃ ys s3, s2.liftAll P fn.resultTypes.toList vs = some (ys, s3) ∧ s3.outs P 0 fn.params.toList (M.modes f) xs = some os ∧ r = (oneOrV ys) := by
      intro he
      obtain ⟨vs, h1, he⟩ := Option.bind_eq_some_iff.1 he
      obtain ⟨⟨ys, s3⟩, h2, he⟩ := Option.bind_eq_some_iff.1 he
      obtain ⟨os', h3, he⟩ := Option.map_eq_some_iff.1 he
      simp only [Prod.mk.injEq] at he
      obtain ⟨rfl, rfl⟩ := he
      exact ⟨vs, h1, ys, s3, h2, h3, rfl⟩
    cases ex with
    | normal => exact ⟨.inl rfl, fin he⟩
    | ret => exact ⟨.inr rfl, fin he⟩
    | exit i => simp at he
  obtain ⟨hexs, vs, hres, ys, s3, hlift, houts, rfl⟩ := hex
  intro w us G T X ok hargs hGn hG hok hX
  obtain ⟨b, hb⟩ : ∃ b, b = 64000 := ⟨_, rfl⟩
  have hD1 : ∀ id : Id, phId b id → 64000 ≤ id.2 := fun id hid => by rw [← hb]; exact hid.2
  have hD0 : ∀ id : Id, phId b id → id.1 = 0 := fun id hid => hid.1
  obtain ⟨t1, hent', e1⟩ := ExtE.enters hD1 (ph_ext b w X) hent
  obtain ⟨t2, hcode', e2⟩ := ExtE.code hD0 n c e1.1 hcode
  have hres' := e2.1.res hres
  obtain ⟨t3, hlift', e3⟩ := Ext.liftAll e2.1.ext hlift
  have houts' := Ext.outs e3.1 houts
  let tmps := us ++ Array.replicate (fn.ntmps - us.size) undef
  have hphh : ∀ g, X g → t2.heap (0, b + g) = some (phBlk w g) := fun g hg => by
    have hd : phId b (0, b + g) := ⟨rfl, by simp⟩
    rw [e2.2 _ hd, e1.2 _ hd]
    simp only [phSt]
    rw [if_pos ⟨rfl, by omega, by rw [Nat.add_sub_cancel_left]; exact hg⟩, Nat.add_sub_cancel_left]
  open Classical in
  let fl0 : List Nat := (List.range w.heap.size).filter fun g => decide (g ∉ G ∧ ¬ X g)
  have hfl0 : ∀ g, g ∈ fl0 ↔ g < w.heap.size ∧ g ∉ G ∧ ¬ X g := fun g => by
    simp only [fl0, List.mem_filter, List.mem_range, decide_eq_true_eq]
  have hnod : (G ++ fl0).Nodup := List.nodup_append.2 ⟨hGn, List.nodup_range.sublist List.filter_sublist, fun x hx y hy e => by subst e; exact ((hfl0 x).1 hy).2.1 hx⟩
  have hbase : RelG P w.heap.size T w tmps (phSt b w X) (phRho b P w X) (fun id => [id.2 - b]) (G ++ fl0) ok :=
    ph_rel hX (fun g hg => by
      rcases List.mem_append.1 hg with h | h
      · exact hG g h
      · exact ⟨((hfl0 g).1 h).1, ((hfl0 g).1 h).2.2⟩) hnod
  obtain ⟨ρ1, F1, c1, p1⟩ := enters_ok (io := T) (fl := fl0) xs hbase hargs (fun j u hu => by
    have hlt := (List.getElem?_eq_some_iff.1 hu).1
    rw [Nat.zero_add]
    simp only [tmps]
    rw [Array.getElem?_append_left (by simpa using hlt)]
    simpa using hu) rfl (fun j h1 h2 => by
    simp only [phSt, phRho]
    constructor
    · rw [if_neg (fun h => by have := h.2.1; omega)]
    · rw [if_neg (fun h => by have := h.2.1; omega)]) hent'
  -- the state at the body's start
  have hR1g : RelG P w.heap.size T w tmps t1 ρ1 F1 fl0 ok := c1.rel
  have hR1 : Rel P w.heap.size T w tmps t1 ρ1 F1 fl0 := hR1g.toRel fun g hg => ⟨fun ht => by
    obtain ⟨h1, h2, h3⟩ := hok g hg
    rcases c1.tops g ht with h4 | h4
    · obtain ⟨id, bk, o, cc, sz, q1, q2, q3⟩ := h4
      simp only [phSt] at q1
      split at q1
      · rename_i hh
        obtain ⟨cur, e, hcell⟩ := hX _ hh.2.2
        simp only [phRho] at q3
        rw [if_pos hh] at q3
        simp only [phInfo, hcell] at q3
        injection q3 with q3
        injection q3 with q3
        exact h3 (q3 ▸ hh.2.2)
      · cases q1
    · exact h2 h4, (hok g hg).1⟩
  refine calls_of_wp hfn hc (evCode_ok (a := { tmps := tmps, defers := [] }) hC hP.mixed n c hR1 ?_ hcode' (fun a' w' hA => ?_))
  · refine codeDst_le ?_ c (hP.dst f fn c hfn hc)
    simp only [tmps, Array.size_append, Array.size_replicate]
    omega
  obtain ⟨ρ2, F2, hR2, hL2, hρ2, hts, hdf⟩ := hA
  obtain ⟨rus, hrl, hrrun, hren⟩ := resV_ok hR2 fn.results.toList hres'
  obtain ⟨fr, hR3, hgo, hl3⟩ := liftAll_ok hR2 vs (fl1 := fl0) hR2 (.refl _) hrl hren hlift'
  obtain ⟨t4, fo, hd4, hR4, hos, hl4⟩ := outs_ok (D := phId b) hR2 xs hR3 hl3 (p1.ext hρ2) e3.1 houts houts'
  have hphb : ∀ g, X g → ∃ e, phBlk w g = ⟨false, true, false, e, []⟩ := fun g hg => by
    obtain ⟨cur, e, hcell⟩ := hX g hg
    exact ⟨e, by simp only [phBlk, hcell]⟩
  have hphr : ∀ g, X g → ∃ o c sz, ρ2 (0, b + g) = some (.blk g o c sz) := fun g hg => by
    obtain ⟨cur, e, hcell⟩ := hX g hg
    have h1 : phRho b P w X (0, b + g) = some (.blk g cur.size 0 (P.cellsOf e)) := by
      simp only [phRho]
      rw [if_pos ⟨by trivial, by omega, by rw [Nat.add_sub_cancel_left]; exact hg⟩, Nat.add_sub_cancel_left]
      simp only [phInfo, hcell]
    exact ⟨_, _, _, hρ2 _ _ (c1.ext _ _ h1)⟩
  have hXtop : ∀ g, X g → tops t2 ρ2 g := fun g hg => by
    obtain ⟨e, he⟩ := hphb g hg
    obtain ⟨o, c, sz, hr⟩ := hphr g hg
    exact ⟨(0, b + g), _, o, c, sz, hphh g hg, by rw [he], hr⟩
  have hkt : ∀ g, Killed t2 t4 ρ2 F2 g → tops t2 ρ2 g := fun g ⟨id, bk, h1, h2, h3, h4, _⟩ => hR2.head_tops h1 h2 h4
  have hXF : ∀ g, X g → ∀ x ∈ fo ++ (fr ++ fl0), x ≠ g := fun g hg x hx e => by
    subst e
    obtain ⟨e, he⟩ := hphb x hg
    obtain ⟨o, c, sz, hr⟩ := hphr x hg
    have hal : t4.heap (0, b + x) = some (phBlk w x) := by
      have hd : phId b (0, b + x) := ⟨rfl, by simp⟩
      rw [hd4 _ hd, e3.2.1 _ hd]; exact hphh x hg
    have hown : (phBlk w x).own = true := by rw [he]
    have hB := hR4.heap _ _ hal
    rw [hr] at hB
    exact hR4.flApart _ _ hal hown x (hB.top hown) hx
  have hpost : bodyPost P fn (fun e w' => ∃ v, e = .returned v ∧ Done P (M.modes f) w us xs G T X (oneOrV ys) os v w') .normal a' w' := by
    refine ⟨hdf, _, results_run hrrun, _, rfl, hL2, okS t2 ρ2 w', fun g => Killed t2 t4 ρ2 F2 g, fr, fo, ?_, ?_, ?_, ?_, ?_, ?_⟩
    · exact ResR.of (hgo.top fun g hg => hg.left hl4)
    · exact hos.top fun g hg => hg.right hl3
    · have h1 := hR4.flOnce
      rw [← List.append_assoc] at h1
      exact (List.perm_append_comm.nodup_iff).1 (List.nodup_append.1 h1).1
    · intro g hg
      have hm : g ∈ fo ++ (fr ++ fl0) := by
        rcases List.mem_append.1 hg with h | h
        · exact List.mem_append_right _ (List.mem_append_left _ h)
        · exact List.mem_append_left _ h
      refine ⟨hR4.flMine g hm, ?_⟩
      rcases Nat.lt_or_ge g w.heap.size with hlt | hge
      · left
        rcases Classical.em (g ∈ G) with h | h
        · exact h
        · exfalso
          rcases Classical.em (X g) with hx | hx
          · exact hXF g hx g hm rfl
          · have hf : g ∈ fl0 := (hfl0 g).2 ⟨hlt, h, hx⟩
            have h1 := hR4.flOnce
            rw [← List.append_assoc] at h1
            refine (List.nodup_append.1 h1).2.2 g ?_ g hf rfl
            rcases List.mem_append.1 hg with h | h
            · exact List.mem_append_right _ h
            · exact List.mem_append_left _ h
      · exact .inr hge
    · rintro g ⟨id, bk, h1, h2, h3, h4, h5⟩
      exact hR2.top id bk h1 h2 h5 g h4
    · exact fun g hg => ⟨hg.2, fun h => hg.1 (hkt g h), fun h => hg.1 (hXtop g h)⟩
  rcases hexs with rfl | rfl
  · exact hpost
  · exact hpost
end
end Go.Proofs.Ytolbhpampnjinaa.Ev
/- Behind a call: what comes back. No condition. -/
namespace Go.Proofs.Ytolbhpampnjinaa.Ev
open Go Go.RowKit
set_option linter.unusedVariables false
set_option linter.unusedSimpArgs false

/-- A cell that will be written anew behind the call. -/
def BkC (P : Program) (ρ : Rho) (u : Value) (x y : V) : Prop := ∀ id len, x = .sl id 0 len → ∃ g o c e rows, y = .own e rows ∧ ρ id = some (.blk g o c (P.cellsOf e)) ∧ u = .slice (some ⟨g, o, none⟩) len c ∧ 0 < len
def Bk (P : Program) (ρ : Rho) (m : Mode) (u : Value) (x y : V) : Prop :=
  match m with
  | .io => ∀ id, x = .ptr id 0 0 → ∃ cs g, y = .agg cs ∧ ρ id = some (.blk g 0 1 cs.length) ∧ u = .pointer (some ⟨g, 0, none⟩)
  | .iov => (∃ (us : Array Value) (xs ys : List V), thin x = .agg xs ∧ y = .agg ys ∧ u = .agg us ∧ us.size = xs.length ∧ ys.length = xs.length ∧ ∀ (j : Nat) (v : Value) (a b : V), us[j]? = some v → xs[j]? = some a → ys[j]? = some b → BkC P ρ v a b) ∨ ((∀ cs, thin x ≠ .agg cs) ∧ (∀ cs, y ≠ .agg cs) ∧ BkC P ρ u (thin x) y)
  | _ => True
inductive BkL (P : Program) (ρ : Rho) : List Mode → List Value → List V → List V → Prop
  | nil {ms : List Mode} : BkL P ρ ms [] [] []
  | cons {ms : List Mode} {u : Value} {us : List Value} {x y : V} {xs ys : List V} (h : Bk P ρ (ms.headD .rd) u x y) (hs : BkL P ρ ms.tail us xs ys) : BkL P ρ ms (u :: us) (x :: xs) (y :: ys)

/-- The numbers that are written anew. -/
def bkC : V → List Id
  | .sl id 0 _ => [id]
  | _ => []
def bkT : V → List Id
  | .agg cs => cs.flatMap bkC
  | x => bkC x
def bkM (m : Mode) (x : V) : List Id := match m with
  | .io => match x with | .ptr id 0 0 => [id] | _ => []
  | .iov => bkT (thin x)
  | _ => []
def bkMs : List Mode → List V → List Id
  | _, [] => []
  | ms, x :: r => bkM (ms.headD .rd) x ++ bkMs ms.tail r

section
variable {P : Program} {B : Nat} {io : Nat → Prop} {w w' : World} {tmps : Array Value} {s s' s1 : St} {ρ ρ' : Rho} {F F' : Id → List Nat} {fl fl' : List Nat} {ok ok' top : Nat → Prop}

theorem bkC_kill {t : Option TypeId} {x y : V} (h : s.giveCell t x = some (y, s')) : (bkC x).Nodup ∧ ∀ id ∈ bkC x, s'.heap id = none ∧ ∃ b, s.heap id = some b := by
  unfold bkC
  split
  · rename_i id len
    refine ⟨by simp, fun id' hid => ?_⟩
    rw [List.mem_singleton.1 hid]
    simp only [St.giveCell] at h
    obtain ⟨er, hw, he⟩ := Option.map_eq_some_iff.1 h
    simp only [Prod.mk.injEq] at he
    obtain ⟨_, rfl⟩ := he
    unfold St.whole at hw
    obtain ⟨b, hb, _⟩ := Option.bind_eq_some_iff.1 hw
    exact ⟨kill_self, b, hb⟩
  · exact ⟨by simp, fun id hid => by simp at hid⟩
theorem giveCell_less {t : Option TypeId} {x y : V} (h : s.giveCell t x = some (y, s')) : Less s s' := by
  unfold St.giveCell at h
  split at h
  · obtain ⟨e, h1, he⟩ := Option.map_eq_some_iff.1 h
    simp only [Prod.mk.injEq] at he
    rw [← he.2]; exact .refl _
  · simp only [Option.some.injEq, Prod.mk.injEq] at h; rw [← h.2]; exact .refl _
  · simp only [Option.some.injEq, Prod.mk.injEq] at h; rw [← h.2]; exact .refl _
  · simp only [Option.some.injEq, Prod.mk.injEq] at h; rw [← h.2]; exact .refl _
  · obtain ⟨er, hw, he⟩ := Option.map_eq_some_iff.1 h
    simp only [Prod.mk.injEq] at he
    rw [← he.2]; exact .kill _ _
  · cases h
theorem nodup_join {a b : List Id} {x z y : St} (ha : a.Nodup ∧ ∀ id ∈ a, z.heap id = none ∧ ∃ k, x.heap id = some k) (hb : b.Nodup ∧ ∀ id ∈ b, y.heap id = none ∧ ∃ k, z.heap id = some k) (h1 : Less x z) (h2 : Less z y) : (a ++ b).Nodup ∧ ∀ id ∈ a ++ b, y.heap id = none ∧ ∃ k, x.heap id = some k := by
  refine ⟨List.nodup_append.2 ⟨ha.1, hb.1, fun i hi j hj e => ?_⟩, fun id hid => ?_⟩
  · subst e
    obtain ⟨k, hk⟩ := (hb.2 i hj).2
    rw [(ha.2 i hi).1] at hk; cases hk
  · rcases List.mem_append.1 hid with h | h
    · exact ⟨h2.none (ha.2 id h).1, (ha.2 id h).2⟩
    · obtain ⟨k, hk⟩ := (hb.2 id h).2
      exact ⟨(hb.2 id h).1, k, h1.sub id k hk⟩
theorem bkCells_kill : ∀ {xs : List V} {s s' : St} {ts : List (Option TypeId)} {ys : List V}, s.giveCells ts xs = some (ys, s') → ((xs.flatMap bkC).Nodup ∧ ∀ id ∈ xs.flatMap bkC, s'.heap id = none ∧ ∃ b, s.heap id = some b) ∧ Less s s' := by
  intro xs
  induction xs with
  | nil =>
    intro s s' ts ys h
    simp only [St.giveCells, Option.some.injEq, Prod.mk.injEq] at h
    rw [← h.2]
    exact ⟨⟨by simp, fun id hid => by simp at hid⟩, .refl _⟩
  | cons x xs ih =>
    intro s s' ts ys h
    simp only [St.giveCells] at h
    obtain ⟨⟨y1, s1⟩, h1, h⟩ := Option.bind_eq_some_iff.1 h
    obtain ⟨⟨y2, s2⟩, h2, h⟩ := Option.map_eq_some_iff.1 h
    simp only [Prod.mk.injEq] at h
    obtain ⟨_, rfl⟩ := h
    obtain ⟨i1, l1⟩ := ih h2
    rw [List.flatMap_cons]
    exact ⟨nodup_join (bkC_kill h1) i1 (giveCell_less h1) l1, (giveCell_less h1).trans l1⟩
theorem giveBox_kill {ts : List (Option TypeId)} {id : Id} {ys : List V} (h : s.giveBox ts id = some (ys, s')) : (s'.heap id = none ∧ ∃ b, s.heap id = some b) ∧ Less s s' := by
  unfold St.giveBox at h
  obtain ⟨b, hb, h⟩ := Option.bind_eq_some_iff.1 h
  split at h
  · split at h
    · have := (bkCells_kill h).2
      exact ⟨⟨this.none kill_self, b, hb⟩, (Less.kill s id).trans this⟩
    · cases h
  · cases h
theorem giveArg_kill {ts : List (Option TypeId)} {x y : V} (h : s.giveArg ts x = some (y, s')) : ((bkT x).Nodup ∧ ∀ id ∈ bkT x, s'.heap id = none ∧ ∃ b, s.heap id = some b) ∧ Less s s' := by
  unfold St.giveArg at h
  split at h
  · obtain ⟨⟨ys, s2⟩, h1, he⟩ := Option.map_eq_some_iff.1 h
    simp only [Prod.mk.injEq] at he
    obtain ⟨_, rfl⟩ := he
    exact bkCells_kill h1
  · rename_i hne
    refine ⟨?_, giveCell_less h⟩
    unfold bkT
    split
    · rename_i cs; exact absurd rfl (hne cs)
    · exact bkC_kill h
theorem gives_kill : ∀ {xs : List V} {s s' : St} {ts : List TypeId} {ms : List Mode} {ys : List V}, s.gives P ts ms xs = some (ys, s') → ((bkMs ms xs).Nodup ∧ ∀ id ∈ bkMs ms xs, s'.heap id = none ∧ ∃ b, s.heap id = some b) ∧ Less s s' := by
  intro xs
  induction xs with
  | nil =>
    intro s s' ts ms ys h
    simp only [St.gives, Option.some.injEq, Prod.mk.injEq] at h
    rw [← h.2]
    exact ⟨⟨by simp [bkMs], fun id hid => by simp [bkMs] at hid⟩, .refl _⟩
  | cons x xs ih =>
    intro s s' ts ms ys h
    simp only [St.gives] at h
    obtain ⟨⟨y1, s1⟩, h1, h⟩ := Option.bind_eq_some_iff.1 h
    obtain ⟨⟨y2, s2⟩, h2, h⟩ := Option.map_eq_some_iff.1 h
    simp only [Prod.mk.injEq] at h
    obtain ⟨_, rfl⟩ := h
    obtain ⟨i1, l1⟩ := ih h2
    have one : ((bkM (ms.headD .rd) x).Nodup ∧ ∀ id ∈ bkM (ms.headD .rd) x, s1.heap id = none ∧ ∃ b, s.heap id = some b) ∧ Less s s1 := by
      unfold St.give at h1
      unfold bkM
      split at h1
      · rename_i hm
        rw [hm]
        simp only [Option.some.injEq, Prod.mk.injEq] at h1
        rw [← h1.2]
        exact ⟨⟨by simp, fun id hid => by simp at hid⟩, .refl _⟩
      · rename_i hm
        rw [hm]
        split at h1
        · obtain ⟨⟨cs, s4⟩, h3, he⟩ := Option.map_eq_some_iff.1 h1
          simp only [Prod.mk.injEq] at he
          obtain ⟨_, rfl⟩ := he
          have := giveBox_kill h3
          exact ⟨⟨by simp, fun id hid => by rw [List.mem_singleton.1 hid]; exact this.1⟩, this.2⟩
        · cases h1
      · rename_i hm
        rw [hm]
        exact ⟨⟨by simp, fun id hid => by simp at hid⟩, (giveArg_kill h1).2⟩
      · rename_i hm
        rw [hm]
        exact giveArg_kill h1
    unfold bkMs
    exact ⟨nodup_join one.1 i1 one.2 l1, one.2.trans l1⟩

theorem bkC_of (h : Rel P B io w tmps s ρ F fl) (hl : Less s s1) {u : Value} {x y : V} {t : Option TypeId} (hu : En w (okS s ρ w) ρ u x) (hx : ∀ id, x ≠ .sl id 0 0) (hg : s1.giveCell t x = some (y, s')) : BkC P ρ u x y := by
  rintro id len rfl
  simp only [St.giveCell] at hg
  obtain ⟨⟨e, rows⟩, hw, he⟩ := Option.map_eq_some_iff.1 hg
  simp only [Prod.mk.injEq] at he
  obtain ⟨rfl, _⟩ := he
  unfold St.whole at hw
  obtain ⟨b, hb, hw⟩ := Option.bind_eq_some_iff.1 hw
  split at hw
  · rename_i hc
    simp only [Option.some.injEq, Prod.mk.injEq] at hw
    obtain ⟨rfl, rfl⟩ := hw
    have hB := h.heap id b (hl.sub id b hb)
    cases hu with
    | sle => exact absurd rfl (hx id)
    | @sl _ g o c sz _ _ hρ hcc =>
      have hlen : 0 < len := Nat.pos_of_ne_zero fun e => by subst e; exact hx id rfl
      rw [hρ] at hB
      unfold BlkR at hB
      rw [hc.1, hc.2.1] at hB
      rcases hB with ⟨hi, _⟩ | ⟨g', o', c', cur, hi, _⟩
      · cases hi
      · cases hi
        exact ⟨g, o, c, b.el, _, rfl, hρ, by simp, hlen⟩
  · cases hw

theorem thin1_ne (x : V) : ∀ id, thin1 x ≠ .sl id 0 0 := fun id e => by
  unfold thin1 at e
  split at e
  · cases e
  · rename_i hne; subst e; exact hne id 0 rfl

theorem giveCells_get : ∀ {xs : List V} {s s' : St} {ts : List (Option TypeId)} {ys : List V}, s.giveCells ts xs = some (ys, s') → ys.length = xs.length ∧ ∀ (j : Nat) (a b : V), xs[j]? = some a → ys[j]? = some b → ∃ s1 s2 t, Less s s1 ∧ s1.giveCell t a = some (b, s2) := by
  intro xs
  induction xs with
  | nil =>
    intro s s' ts ys h
    simp only [St.giveCells, Option.some.injEq, Prod.mk.injEq] at h
    rw [← h.1]
    exact ⟨rfl, fun j a b ha => by simp at ha⟩
  | cons x xs ih =>
    intro s s' ts ys h
    simp only [St.giveCells] at h
    obtain ⟨⟨y1, s1⟩, h1, h⟩ := Option.bind_eq_some_iff.1 h
    obtain ⟨⟨y2, s2⟩, h2, h⟩ := Option.map_eq_some_iff.1 h
    simp only [Prod.mk.injEq] at h
    obtain ⟨rfl, rfl⟩ := h
    obtain ⟨i1, i2⟩ := ih h2
    refine ⟨by simp [i1], fun j a b ha hb => ?_⟩
    cases j with
    | zero =>
      have e1 : x = a := by simpa using ha
      have e2 : y1 = b := by simpa using hb
      subst e1; subst e2
      exact ⟨s, s1, _, .refl _, h1⟩
    | succ j =>
      obtain ⟨s3, s4, t, k1, k2⟩ := i2 j a b (by simpa using ha) (by simpa using hb)
      exact ⟨s3, s4, t, (giveCell_less h1).trans k1, k2⟩

theorem gives_bk (h : Rel P B io w tmps s ρ F fl) : ∀ {xs : List V} {us : List Value} {s1 s' : St} {ts : List TypeId} {ms : List Mode} {ys : List V}, Less s s1 → us.length = xs.length → (∀ (j : Nat) (u : Value) (x : V), us[j]? = some u → xs[j]? = some x → En w (okS s ρ w) ρ u x) →
    s1.gives P ts ms xs = some (ys, s') → BkL P ρ ms us xs ys := by
  intro xs
  induction xs with
  | nil =>
    intro us s1 s' ts ms ys hl hlen hen hg
    have : us = [] := List.eq_nil_of_length_eq_zero (by simpa using hlen)
    subst this
    simp only [St.gives, Option.some.injEq, Prod.mk.injEq] at hg
    rw [← hg.1]
    exact .nil
  | cons x xs ih =>
    intro us s1 s' ts ms ys hl hlen hen hg
    match us, hlen with
    | u :: us, hlen =>
      have hall := gives_kill hg
      simp only [St.gives] at hg
      obtain ⟨⟨y, s2⟩, h1, hg⟩ := Option.bind_eq_some_iff.1 hg
      obtain ⟨⟨zs, s3⟩, h2, hg⟩ := Option.map_eq_some_iff.1 hg
      simp only [Prod.mk.injEq] at hg
      obtain ⟨rfl, rfl⟩ := hg
      have hu := hen 0 u x rfl rfl
      have hl2 : Less s1 s2 := by
        have := (gives_kill (P := P) (xs := [x]) (s := s1) (s' := s2) (ts := ts) (ms := ms) (ys := [y]) (by simp only [St.gives]; rw [h1]; rfl)).2
        exact this
      refine .cons ?_ (ih (hl.trans hl2) (by simpa using hlen) (fun j v z hv hz => hen (j + 1) v z (by simpa using hv) (by simpa using hz)) h2)
      unfold St.give at h1
      unfold Bk
      split at h1
      · rename_i hm; rw [hm]; exact trivial
      · rename_i hm
        rw [hm]
        rintro id rfl
        simp only at h1
        obtain ⟨⟨cs, s4⟩, h3, he⟩ := Option.map_eq_some_iff.1 h1
        simp only [Prod.mk.injEq] at he
        obtain ⟨rfl, rfl⟩ := he
        unfold St.giveBox at h3
        obtain ⟨b, hb, h3⟩ := Option.bind_eq_some_iff.1 h3
        split at h3
        · rename_i hc
          split at h3
          · rename_i row hr
            have hB := h.heap id b (hl.sub id b hb)
            unfold BlkR at hB
            rw [hc.1] at hB
            obtain ⟨_, g, cur, e, row', hi, hgc, hr', hs, _⟩ := hB
            rw [hr] at hr'
            injection hr' with hr' _
            subst hr'
            generalize hq : V.ptr id 0 0 = q at hu
            cases hu <;> cases hq
            rename_i g' o' c' sz hρ
            rw [hi] at hρ
            injection hρ with hρ
            injection hρ with e1 e2 e3 e4
            subst e1; subst e2
            exact ⟨cs, g, rfl, by rw [hi, (giveCells_get h3).1], by simp⟩
          · cases h3
        · cases h3
      · rename_i hm; rw [hm]; exact trivial
      · rename_i hm
        rw [hm]
        have hut := hu.thin
        have hne : ∀ cs, thin x = .agg cs → ∀ c ∈ cs, ∀ id, c ≠ .sl id 0 0 := fun cs hcs c hc id => by
          unfold thin at hcs
          split at hcs
          · injection hcs with hcs
            subst hcs
            obtain ⟨z, _, rfl⟩ := List.mem_map.1 hc
            exact thin1_ne z id
          · rename_i hna
            unfold thin1 at hcs
            split at hcs
            · cases hcs
            · exact absurd hcs (hna cs)
        have hne1 : (∀ cs, thin x ≠ .agg cs) → ∀ id, thin x ≠ .sl id 0 0 := fun hna id => by
          unfold thin at hna ⊢
          split
          · simp
          · exact thin1_ne x id
        generalize thin x = tx at h1 hut hne hne1
        unfold St.giveArg at h1
        split at h1
        · rename_i cs
          obtain ⟨⟨ys, s4⟩, h3, he⟩ := Option.map_eq_some_iff.1 h1
          simp only [Prod.mk.injEq] at he
          obtain ⟨rfl, rfl⟩ := he
          cases hut with
          | @agg vs _ hsz hcc hr =>
            obtain ⟨g1, g2⟩ := giveCells_get h3
            refine .inl ⟨vs, cs, ys, rfl, rfl, rfl, hsz, g1, fun j v a b hv ha hb => ?_⟩
            obtain ⟨s5, s6, t, k1, k2⟩ := g2 j a b ha hb
            exact bkC_of h (hl.trans k1) (hr j v a hv ha) (hne cs rfl a (List.mem_of_getElem? ha)) k2
        · rename_i hna
          refine .inr ⟨hna, fun cs e => ?_, bkC_of h hl hut (hne1 hna) h1⟩
          subst e
          unfold St.giveCell at h1
          split at h1 <;> simp at h1
end
end Go.Proofs.Ytolbhpampnjinaa.Ev
/- Behind a call: what was lent is written anew; the result is taken. No condition. -/
namespace Go.Proofs.Ytolbhpampnjinaa.Ev
open Go Go.RowKit
set_option linter.unusedVariables false
set_option linter.unusedSimpArgs false
section
variable {P : Program} {B : Nat} {io : Nat → Prop} {w w' : World} {tmps : Array Value} {s s' s1 : St} {ρ ρ' : Rho} {F F' : Id → List Nat} {fl fl' : List Nat} {ok ok' top : Nat → Prop}

theorem backOne {f1 : List Nat} (h : RelG P B io w tmps s ρ F (f1 ++ fl) ok) {id : Id} {len : Nat} {u : Value} {y : V} {e : TypeId} {rows rows' : List (List V)} (hb : BkC P ρ u (.sl id 0 len) (.own e rows)) (hO : OwT P w e u rows' f1) (ht : ∀ g, f1.head? = some g → top g) (htop : ∀ g, top g → io g ∨ B ≤ g) (hn : s.heap id = none) :
    ∃ F', Took P B io w tmps s ρ fl ok top (fun id' => id' = id) (s.setB id ⟨false, true, true, e, rows'⟩) ρ F' := by
  obtain ⟨g, o, c, e', r, hy, hρ, hu, hlen⟩ := hb id len rfl
  injection hy with hy _
  subst hy
  rcases hO with ⟨A, rfl, rfl, rfl⟩ | ⟨g', o', c', cur, fp', hv, hg, hl, hm, hun, hz, hOw, rfl⟩
  · injection hu with _ hu _; omega
  · rw [hu] at hv
    injection hv with hv hl2 hc
    injection hv with hv
    injection hv with e1 e2 _
    subst e1; subst e2; subst hc
    have hep : id.1 ≤ s.ep := h.dom id (by rw [hρ]; rfl)
    refine ⟨_, h.add hn hep (fun _ _ h => h) (fun _ _ => rfl) (by rw [hρ]; exact .mkRow rfl rfl rfl hg hl hm hun hz rfl (fun _ => hOw) (fun hf => by cases hf)) (fun _ g' hg' => htop g' (ht g' hg')), fun _ _ h => h, fun _ h => .inl h, rfl, rfl, fun id' e => setB_ne e, fun g' hg' => ?_⟩
    rcases tops_set (fun _ _ => rfl) hg' with h1 | ⟨_, o2, c2, z2, h1⟩
    · exact .inl h1
    · rw [hρ] at h1
      injection h1 with h1
      injection h1 with h1
      subst h1
      exact .inr (ht _ rfl)

theorem backCells_ok : ∀ (xs : List V) {us : List Value} {ys ns : List V} {s s' : St} {F : Id → List Nat} {fo fl : List Nat}, RelG P B io w tmps s ρ F (fo ++ fl) ok → OutL P w top us ys ns fo → us.length = xs.length → ys.length = xs.length →
    (∀ (j : Nat) (v : Value) (a b : V), us[j]? = some v → xs[j]? = some a → ys[j]? = some b → BkC P ρ v a b) → (∀ g, top g → io g ∨ B ≤ g) → (xs.flatMap bkC).Nodup → (∀ id ∈ xs.flatMap bkC, s.heap id = none) → s.backCells xs ns = some s' →
    ∃ F', Took P B io w tmps s ρ fl ok top (fun id => id ∈ xs.flatMap bkC) s' ρ F' := by
  intro xs
  induction xs with
  | nil =>
    intro us ys ns s s' F fo fl h ho hl hly _ _ _ _ hs
    simp only [St.backCells, Option.some.injEq] at hs
    subst hs
    have : us = [] := List.eq_nil_of_length_eq_zero (by simpa using hl)
    subst this
    cases ho
    exact ⟨F, (Took.refl h).mono (fun _ h => h.elim)⟩
  | cons x xs ih =>
    intro us ys ns s s' F fo fl h ho hl hly hbk htop hnd hnone hs
    rw [List.flatMap_cons] at hnd hnone
    have hnd2 := List.nodup_append.1 hnd
    have rest : ∀ {u : Value} {us' : List Value} {y : V} {ys' : List V} {n : V} {ns' : List V} {s2 : St} {F2 : Id → List Nat} {f2 : List Nat}, us = u :: us' → ys = y :: ys' → RelG P B io w tmps s2 ρ F2 (f2 ++ fl) ok → OutL P w top us' ys' ns' f2 → (∀ id ∈ xs.flatMap bkC, s2.heap id = none) → s2.backCells xs ns' = some s' →
        ∃ F', Took P B io w tmps s2 ρ fl ok top (fun id => id ∈ xs.flatMap bkC) s' ρ F' := by
      intro u us' y ys' n ns' s2 F2 f2 e1 e2 h2 ho2 hn2 hs2
      subst e1; subst e2
      exact ih h2 ho2 (by simpa using hl) (by simpa using hly) (fun j v a b hv ha hb => hbk (j + 1) v a b (by simpa using hv) (by simpa using ha) (by simpa using hb)) htop hnd2.2.1 hn2 hs2
    have hnx : ∀ id ∈ xs.flatMap bkC, s.heap id = none := fun id hid => hnone id (List.mem_append_right _ hid)
    cases ho with
    | nil => simp at hl
    | @own u e rows rows' us' ys' ns' f1 f2 hO ht hs2 =>
      rw [List.append_assoc] at h
      unfold St.backCells at hs
      split at hs
      · rename_i heq; cases heq
      · rename_i id len os1 e2 r2 ns2 heq1 heq2
        injection heq1 with a1 a2
        subst a1; subst a2
        injection heq2 with b1 b2
        injection b1 with b1 b3
        subst b1; subst b3; subst b2
        obtain ⟨F1, t1⟩ := backOne (fl := f2 ++ fl) (y := .undef) h (hbk 0 u _ _ rfl rfl rfl) hO ht htop (hnone id (List.mem_append_left _ (by simp [bkC])))
        obtain ⟨F2, t2⟩ := rest (n := .undef) rfl rfl t1.rel hs2 (fun id' hid' => by
          rw [t1.heap id' (fun e => by
            subst e
            exact hnd2.2.2 _ (by simp [bkC]) _ hid' rfl)]
          exact hnx id' hid') hs
        refine ⟨F2, (t1.trans t2).mono (fun id' hid' => ?_)⟩
        rw [List.flatMap_cons]
        rcases hid' with rfl | hid'
        · exact List.mem_append_left _ (by simp [bkC])
        · exact List.mem_append_right _ hid'
      · rename_i heq1 heq2
        injection heq1 with a1 a2
        subst a1; subst a2
        injection heq2 with b1 b2
        subst b2
        obtain ⟨F2, t2⟩ := rest (n := .undef) rfl rfl (h.less (List.sublist_append_right _ _)) hs2 hnx hs
        exact ⟨F2, t2.mono (fun id' hid' => by rw [List.flatMap_cons]; exact List.mem_append_right _ hid')⟩
      · cases hs
    | @skip u y us' ys' ns' f hx hs2 =>
      unfold St.backCells at hs
      split at hs
      · rename_i heq; cases heq
      · rename_i heq1 heq2
        injection heq2 with b1 b2
        cases b1
      · rename_i heq1 heq2
        injection heq1 with a1 a2
        subst a1; subst a2
        injection heq2 with b1 b2
        subst b2
        obtain ⟨F2, t2⟩ := rest (n := .undef) rfl rfl h hs2 hnx hs
        exact ⟨F2, t2.mono (fun id' hid' => by rw [List.flatMap_cons]; exact List.mem_append_right _ hid')⟩
      · cases hs

theorem back_ok {fo : List Nat} (h : RelG P B io w tmps s ρ F (fo ++ fl) ok) {m : Mode} {e k : Nat} {u : Value} {x y o : V} (hb : Bk P ρ m u x y) (ho : OutR P w ok top m u y o fo) (htop : ∀ g, top g → io g ∨ B ≤ g) (hep : e ≤ s.ep) (hnew : ∀ j, 64 * k ≤ j → j < 64 * k + 64 → ρ (e, j) = none ∧ s.heap (e, j) = none)
    (hnd : (bkM m x).Nodup) (hnone : ∀ id ∈ bkM m x, s.heap id = none) (hs : s.back m e k x o = some s') :
    ∃ ρ' F', Took P B io w tmps s ρ fl ok top (fun id => (id.1 = e ∧ 64 * k ≤ id.2 ∧ id.2 < 64 * k + 64) ∨ id ∈ bkM m x) s' ρ' F' := by
  unfold St.back at hs
  split at hs
  · simp only [Option.some.injEq] at hs
    subst hs
    have : fo = [] := ho
    subst this
    exact ⟨ρ, F, (Took.refl h).mono (fun _ h => h.elim)⟩
  · simp only [Option.some.injEq] at hs
    subst hs
    have : fo = [] := ho
    subst this
    exact ⟨ρ, F, (Took.refl h).mono (fun _ h => h.elim)⟩
  · split at hs
    · rename_i id cs'
      split at hs
      · rename_i hl62
        obtain ⟨⟨zs, s2⟩, h1, rfl⟩ := Option.map_eq_some_iff.1 hs
        obtain ⟨cs, g, rfl, hρ, hu⟩ := hb id rfl
        obtain ⟨cs0, cs1, e1, e2, hlen, g', cur, et, fp', hu', hgc, hgl, rfl, htg⟩ := ho
        injection e1 with e1
        injection e2 with e2
        subst e1; subst e2
        rw [hu] at hu'
        injection hu' with hu'
        injection hu' with hu'
        injection hu' with hu' _ _
        subst hu'
        have hperm : ((fp' ++ ([g] ++ fl)) : List Nat).Perm (g :: fp' ++ fl) := List.perm_middle
        obtain ⟨ρ1, F1, t, l, c, en⟩ := takeCells_ok cs' (fl := [g] ++ fl) (h.perm hperm) hgl htop hep (fun j hj hlt => hnew j hj (by omega)) h1
        have hidn : s.heap id = none := hnone id (by simp [bkM])
        have hidJ : ¬ (id.1 = e ∧ 64 * k ≤ id.2 ∧ id.2 < 64 * k + cs'.length) := fun hh => by
          have := (hnew id.2 hh.2.1 (by omega)).1
          rw [← hh.1] at this
          rw [show (id.1, id.2) = id from rfl, hρ] at this
          cases this
        have hr1 : ρ1 id = some (.blk g 0 1 zs.length) := by
          rw [t.ext id _ hρ]
          have : zs.length = cs.length := by rw [← l, ← hlen]; exact hgl.length
          rw [this]
        have hadd := t.rel.add (fp := [g]) (fl := fl) (id := id) (ρ' := ρ1) (b := ⟨true, true, true, 0, [zs]⟩) (by rw [t.heap _ hidJ]; exact hidn) (by rw [t.ep]; exact h.dom id (by rw [hρ]; rfl)) (fun _ _ h => h) (fun _ _ => rfl) (by
          rw [hr1]
          exact .mkBox rfl rfl rfl hgc rfl (by simpa using l) (fun j v z hv hz => en j v z (by simpa using hv) hz) c rfl) (fun _ g' hg' => by
          have : g = g' := by simpa using hg'
          subst this; exact htop g htg)
        refine ⟨ρ1, _, ⟨hadd, t.ext, fun id' hi => ?_, t.env, t.ep, fun id' hid' => ?_, fun g' hg' => ?_⟩⟩
        · rcases t.dom id' hi with hh | hh
          · exact .inl hh
          · exact .inr (.inl ⟨hh.1, hh.2.1, by omega⟩)
        · rw [setB_ne (fun e => hid' (.inr (by rw [e]; simp [bkM])))]
          exact t.heap id' (fun hh => hid' (.inl ⟨hh.1, hh.2.1, by omega⟩))
        · rcases tops_set (fun _ _ => rfl) hg' with h3 | ⟨_, o2, c2, z2, h3⟩
          · exact t.tops g' h3
          · rw [hr1] at h3
            injection h3 with h3
            injection h3 with h3
            subst h3; exact .inr htg
      · cases hs
    · cases hs
  · unfold Bk at hb
    unfold OutR at ho
    unfold bkM at hnd hnone ⊢
    simp only at hb ho hnd hnone ⊢
    rcases hb with ⟨us, xs, ys, ht, rfl, rfl, hsz, hyl, hbk⟩ | ⟨hnt, hny, hbk⟩
    · rw [ht] at hs hnd hnone ⊢
      simp only [bkT] at hnd hnone ⊢
      rcases ho with ⟨us', cs, ns, e1, e2, rfl, hO⟩ | ⟨hne, _⟩
      · injection e1 with e1
        injection e2 with e2
        subst e1; subst e2
        simp only at hs
        obtain ⟨F', t⟩ := backCells_ok xs h hO (by simpa using hsz) hyl (fun j v a b hv ha hb => hbk j v a b (by simpa using hv) ha hb) htop hnd hnone hs
        exact ⟨ρ, F', t.mono (fun id hid => .inr hid)⟩
      · exact absurd rfl (hne ys)
    · rcases ho with ⟨us', cs, ns, e1, _⟩ | ⟨_, hO⟩
      · exact absurd e1 (hny cs)
      · generalize thin x = tx at hs hnd hnone hnt hbk
        have hs' : s.backCells [tx] [o] = some s' := by
          split at hs
          · rename_i cs ns; exact absurd rfl (hnt cs)
          · exact hs
        have hnd' : ([tx].flatMap bkC) = bkC tx := by simp
        have hm : bkT tx = bkC tx := by
          cases tx <;> first | rfl | exact absurd rfl (hnt _)
        rw [hm] at hnd hnone
        obtain ⟨F', t⟩ := backCells_ok [tx] h hO rfl rfl (fun j v a b hv ha hb => by
          cases j with
          | zero =>
            have e1 : u = v := by simpa using hv
            have e2 : tx = a := by simpa using ha
            have e3 : y = b := by simpa using hb
            subst e1; subst e2; subst e3; exact hbk
          | succ j => simp at hv) htop (by rw [hnd']; exact hnd) (by rw [hnd']; exact hnone) hs'
        exact ⟨ρ, F', t.mono (fun id hid => .inr (by rw [hm]; rw [hnd'] at hid; exact hid))⟩

theorem bk_some {m : Mode} {u : Value} {x y : V} (hb : Bk P ρ m u x y) {w : World} (hu : En w ok ρ u x) : ∀ id ∈ bkM m x, (ρ id).isSome = true := by
  intro id hid
  unfold bkM at hid
  split at hid
  · split at hid
    · rename_i id'
      rw [List.mem_singleton.1 hid]
      obtain ⟨cs, g, _, hρ, _⟩ := hb id' rfl
      rw [hρ]; rfl
    · simp at hid
  · have hut := hu.thin
    have one : ∀ {v : Value} {c : V}, En w ok ρ v c → id ∈ bkC c → (ρ id).isSome = true := fun {v c} hv hc => by
      unfold bkC at hc
      split at hc
      · rw [List.mem_singleton.1 hc]
        cases hv with
        | sl h => rw [h]; rfl
        | sle h => exact h
      · simp at hc
    unfold bkT at hid
    split at hid
    · rename_i cs hcs
      rw [hcs] at hut
      obtain ⟨c, hc, hid⟩ := List.mem_flatMap.1 hid
      cases hut with
      | @agg vs _ hl _ hr =>
        obtain ⟨j, hj⟩ := List.getElem?_of_mem hc
        have hlt := (List.getElem?_eq_some_iff.1 hj).1
        exact one (hr j _ c (Array.getElem?_eq_getElem (by omega)) hj) hid
    · exact one hut hid
  · simp at hid

theorem backs_ok {e : Nat} : ∀ (xs : List V) {us : List Value} {ys os : List V} {ms : List Mode} {k : Nat} {s s' : St} {ρ : Rho} {F : Id → List Nat} {fo fl : List Nat}, RelG P B io w tmps s ρ F (fo ++ fl) ok → BkL P ρ ms us xs ys → OutsR P w ok top ms us ys os fo →
    (∀ (j : Nat) (u : Value) (x : V), us[j]? = some u → xs[j]? = some x → ∃ w ok, En w ok ρ u x) → (∀ g, top g → io g ∨ B ≤ g) → e ≤ s.ep → (∀ j, 64 * k ≤ j → j < 64 * (k + xs.length) → ρ (e, j) = none ∧ s.heap (e, j) = none) →
    (bkMs ms xs).Nodup → (∀ id ∈ bkMs ms xs, s.heap id = none) → s.backs e ms k xs os = some s' →
    ∃ ρ' F', Took P B io w tmps s ρ fl ok top (fun id => (id.1 = e ∧ 64 * k ≤ id.2 ∧ id.2 < 64 * (k + xs.length)) ∨ id ∈ bkMs ms xs) s' ρ' F' := by
  intro xs
  induction xs with
  | nil =>
    intro us ys os ms k s s' ρ F fo fl h hb ho hen htop hep hnew hnd hnone hs
    cases hb
    cases ho
    simp only [St.backs, Option.some.injEq] at hs
    subst hs
    exact ⟨ρ, F, (Took.refl h).mono (fun _ h => h.elim)⟩
  | cons x xs ih =>
    intro us ys os ms k s s' ρ F fo fl h hb ho hen htop hep hnew hnd hnone hs
    simp only [List.length_cons] at hnew
    cases hb with
    | @cons _ u us _ y _ ys hb hbs =>
      cases ho with
      | @cons _ _ _ _ o _ os f1 f2 ho hos =>
        simp only [St.backs] at hs
        obtain ⟨s1, h1, hs⟩ := Option.bind_eq_some_iff.1 hs
        unfold bkMs at hnd hnone
        have hnd2 := List.nodup_append.1 hnd
        rw [List.append_assoc] at h
        obtain ⟨ρ1, F1, t1⟩ := back_ok h hb ho htop hep (fun j hj hlt => hnew j hj (by omega)) hnd2.1 (fun id hid => hnone id (List.mem_append_left _ hid)) h1
        have hsome : ∀ id ∈ bkMs ms.tail xs, (ρ id).isSome = true := by
          have key : ∀ {xs : List V} {ms : List Mode} {us : List Value} {ys : List V}, BkL P ρ ms us xs ys → (∀ (j : Nat) (u : Value) (x : V), us[j]? = some u → xs[j]? = some x → ∃ w ok, En w ok ρ u x) → ∀ id ∈ bkMs ms xs, (ρ id).isSome = true := by
            intro xs ms us ys hb
            induction hb with
            | nil => intro _ id hid; simp [bkMs] at hid
            | cons h _ ih =>
              intro hen id hid
              unfold bkMs at hid
              rcases List.mem_append.1 hid with hid | hid
              · obtain ⟨w', ok'', hu⟩ := hen 0 _ _ rfl rfl
                exact bk_some h hu id hid
              · exact ih (fun j u x hu hx => hen (j + 1) u x (by simpa using hu) (by simpa using hx)) id hid
          exact key hbs (fun j u x hu hx => hen (j + 1) u x (by simpa using hu) (by simpa using hx))
        have hsome1 : ∀ id ∈ bkM (ms.headD .rd) x, (ρ id).isSome = true := fun id hid => by
          obtain ⟨w', ok'', hu⟩ := hen 0 _ _ rfl rfl
          exact bk_some hb hu id hid
        have hnew2 : ∀ j, 64 * (k + 1) ≤ j → j < 64 * (k + 1 + xs.length) → ρ1 (e, j) = none ∧ s1.heap (e, j) = none := fun j hj hlt => by
          obtain ⟨a1, a2⟩ := hnew j (by omega) (by omega)
          have hnJ : ¬ ((((e, j) : Id).1 = e ∧ 64 * k ≤ ((e, j) : Id).2 ∧ ((e, j) : Id).2 < 64 * k + 64) ∨ (e, j) ∈ bkM (ms.headD .rd) x) := fun hh => by
            rcases hh with hh | hh
            · have := hh.2.2; simp only at this; omega
            · have := hsome1 _ hh; rw [a1] at this; cases this
          refine ⟨?_, by rw [t1.heap _ hnJ]; exact a2⟩
          cases hr : ρ1 (e, j) with
          | none => rfl
          | some i =>
            rcases t1.dom (e, j) (by rw [hr]; rfl) with hh | hh
            · rw [a1] at hh; cases hh
            · exact absurd hh hnJ
        have bkext : BkL P ρ1 ms.tail us xs ys := by
          have ce : ∀ {v : Value} {a b : V}, BkC P ρ v a b → BkC P ρ1 v a b := fun hb id len hx => by
            obtain ⟨g, o, c, e, rows, h1, h2, h3⟩ := hb id len hx
            exact ⟨g, o, c, e, rows, h1, t1.ext _ _ h2, h3⟩
          have one : ∀ {m : Mode} {u : Value} {x y : V}, Bk P ρ m u x y → Bk P ρ1 m u x y := fun {m u x y} hb => by
            cases m
            · exact trivial
            · intro id hx
              obtain ⟨cs, g, h1, h2, h3⟩ := hb id hx
              exact ⟨cs, g, h1, t1.ext _ _ h2, h3⟩
            · exact trivial
            · rcases hb with ⟨us, xs, ys, h1, h2, h3, h4, h5, h6⟩ | ⟨h1, h2, h3⟩
              · exact .inl ⟨us, xs, ys, h1, h2, h3, h4, h5, fun j v a b hv ha hb => ce (h6 j v a b hv ha hb)⟩
              · exact .inr ⟨h1, h2, ce h3⟩
          have key : ∀ {xs : List V} {ms : List Mode} {us : List Value} {ys : List V}, BkL P ρ ms us xs ys → BkL P ρ1 ms us xs ys := by
            intro xs ms us ys hb
            induction hb with
            | nil => exact .nil
            | cons h _ ih => exact .cons (one h) ih
          exact key hbs
        obtain ⟨ρ2, F2, t2⟩ := ih t1.rel bkext hos (fun j u x hu hx => by
          obtain ⟨w', ok'', hu'⟩ := hen (j + 1) u x (by simpa using hu) (by simpa using hx)
          exact ⟨w', ok'', hu'.ext (fun _ h => h) t1.ext⟩) htop (by rw [t1.ep]; exact hep) hnew2 hnd2.2.1 (fun id hid => by
          rw [t1.heap id (fun hh => by
            rcases hh with hh | hh
            · have := (hnew id.2 hh.2.1 (by omega)).1
              rw [← hh.1, show (id.1, id.2) = id from rfl] at this
              have h2 := hsome id hid
              rw [this] at h2; cases h2
            · exact hnd2.2.2 id hh id hid rfl)]
          exact hnone id (List.mem_append_right _ hid)) hs
        refine ⟨ρ2, F2, (t1.trans t2).mono (fun id hid => ?_)⟩
        rcases hid with (hid | hid) | (hid | hid)
        · exact .inl ⟨hid.1, hid.2.1, by simp only [List.length_cons]; omega⟩
        · exact .inr (by unfold bkMs; exact List.mem_append_left _ hid)
        · exact .inl ⟨hid.1, by omega, by simp only [List.length_cons]; omega⟩
        · exact .inr (by unfold bkMs; exact List.mem_append_right _ hid)

theorem takeAll_ok {e : Nat} : ∀ (xs : List V) {us : List Value} {k : Nat} {fp fl : List Nat} {s s' : St} {ρ : Rho} {F : Id → List Nat} {ys : List V}, RelG P B io w tmps s ρ F (fp ++ fl) ok → GivOL P w ok top us xs fp → (∀ g, top g → io g ∨ B ≤ g) → e ≤ s.ep →
    (∀ j, 64 * k ≤ j → j < 64 * (k + xs.length) → ρ (e, j) = none ∧ s.heap (e, j) = none) → s.takeAll e k xs = some (ys, s') →
    ∃ ρ' F', Took P B io w tmps s ρ fl ok top (fun id => id.1 = e ∧ 64 * k ≤ id.2 ∧ id.2 < 64 * (k + xs.length)) s' ρ' F' ∧ us.length = ys.length ∧ (∀ (j : Nat) (u : Value) (y : V), us[j]? = some u → ys[j]? = some y → En w ok ρ' u y) := by
  intro xs
  induction xs with
  | nil =>
    intro us k fp fl s s' ρ F ys h hg htop hep hnew ht
    cases hg
    simp only [St.takeAll, Option.some.injEq, Prod.mk.injEq] at ht
    obtain ⟨rfl, rfl⟩ := ht
    exact ⟨ρ, F, (Took.refl h).mono (fun _ h => h.elim), rfl, fun j u y hu => by simp at hu⟩
  | cons x xs ih =>
    intro us k fp fl s s' ρ F ys h hg htop hep hnew ht
    simp only [List.length_cons] at hnew
    cases hg with
    | @cons u _ us _ f1 f2 hg hgs =>
      simp only [St.takeAll] at ht
      obtain ⟨⟨y, s1⟩, h1, ht⟩ := Option.bind_eq_some_iff.1 ht
      obtain ⟨⟨zs, s2⟩, h2, ht⟩ := Option.map_eq_some_iff.1 ht
      simp only [Prod.mk.injEq] at ht
      obtain ⟨rfl, rfl⟩ := ht
      simp only at h2
      obtain ⟨ρ1, F1, t1, e1⟩ := takeOne_ok (fl := f2 ++ fl) (by rw [← List.append_assoc]; exact h) hg htop hep (fun j hj hlt => hnew j hj (by omega)) h1
      obtain ⟨ρ2, F2, t2, l2, e2⟩ := ih t1.rel hgs htop (by rw [t1.ep]; exact hep) (fun j hj hlt => by
        obtain ⟨a1, a2⟩ := hnew j (by omega) (by omega)
        have hne : ¬ (((e, j) : Id).1 = e ∧ 64 * k ≤ ((e, j) : Id).2 ∧ ((e, j) : Id).2 < 64 * k + 64) := fun hh => by have := hh.2.2; simp only at this; omega
        refine ⟨?_, by rw [t1.heap _ hne]; exact a2⟩
        cases hr : ρ1 (e, j) with
        | none => rfl
        | some i =>
          rcases t1.dom (e, j) (by rw [hr]; rfl) with hh | hh
          · rw [a1] at hh; cases hh
          · exact absurd hh hne) h2
      refine ⟨ρ2, F2, (t1.trans t2).mono (fun id hid => ?_), by simp [l2], fun j u' z hu hz => ?_⟩
      · rcases hid with ⟨a, b, c⟩ | ⟨a, b, c⟩
        · exact ⟨a, b, by simp only [List.length_cons]; omega⟩
        · exact ⟨a, by omega, by simp only [List.length_cons]; omega⟩
      · cases j with
        | zero =>
          have a1 : u = u' := by simpa using hu
          have a2 : y = z := by simpa using hz
          subst a1; subst a2
          exact e1.ext (fun _ h => h) t2.ext
        | succ j => exact e2 j u' z (by simpa using hu) (by simpa using hz)

theorem takeRes_ok {fp : List Nat} (h : RelG P B io w tmps s ρ F (fp ++ fl) ok) {u : Value} {x y : V} (hg : ResR P w ok top u x fp) (htop : ∀ g, top g → io g ∨ B ≤ g) {e k : Nat} (hep : e ≤ s.ep) (hnew : ∀ j, 64 * k ≤ j → j < 64 * (k + 8) → ρ (e, j) = none ∧ s.heap (e, j) = none) (ht : s.takeRes e k x = some (y, s')) :
    ∃ ρ' F', Took P B io w tmps s ρ fl ok top (fun id => id.1 = e ∧ 64 * k ≤ id.2 ∧ id.2 < 64 * (k + 8)) s' ρ' F' ∧ En w ok ρ' u y := by
  unfold St.takeRes at ht
  split at ht
  · rename_i vs
    split at ht
    · rename_i hl
      obtain ⟨⟨ys, s1⟩, h1, he⟩ := Option.map_eq_some_iff.1 ht
      simp only [Prod.mk.injEq] at he
      obtain ⟨rfl, rfl⟩ := he
      obtain ⟨us, rfl, hgl⟩ := hg
      obtain ⟨ρ', F', t, l, en⟩ := takeAll_ok vs h hgl htop hep (fun j hj hlt => hnew j hj (by omega)) h1
      exact ⟨ρ', F', t.mono (fun id hid => ⟨hid.1, hid.2.1, by omega⟩), .tup (by simpa using l) (fun j v z hv hz => en j v z (by simpa using hv) hz)⟩
    · cases ht
  · rename_i hne
    have hg' : GivO P w ok top u x fp := by
      cases x <;> first | exact hg | exact absurd rfl (hne _)
    obtain ⟨ρ', F', t, en⟩ := takeOne_ok h hg' htop hep (fun j hj hlt => hnew j hj (by omega)) ht
    exact ⟨ρ', F', t.mono (fun id hid => ⟨hid.1, hid.2.1, by omega⟩), en⟩
end
end Go.Proofs.Ytolbhpampnjinaa.Ev
