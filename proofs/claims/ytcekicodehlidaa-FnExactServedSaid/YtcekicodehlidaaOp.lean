/- An argument that came in (a struct, a slice of structs, nested) is read as Lean's own data of the print's kinds; conditions: the types' own rows of the table. -/
import Derived.Test.YtcekicodehlidaaWWords
import Derived.WalkKit
import Derived.ProofKit
import Derived.OpenShut
import Derived.ChangeOld
namespace Go.Proofs.Ytcekicodehlidaa.Op
open Go Go.RowKit Go.ChangeShapes Go.WideShapes Go.Proofs.YtcekicodehlidaaW.PrintWords
set_option linter.unusedVariables false
section
variable {H : Type} {enc : TypeId × Value → H} {P : Program} {w : World}

def Opens {α : Type} (enc : TypeId × Value → H) (P : Program) (w : World) (t : TypeId) (d : Kd α) (Q : α → Prop) : Prop :=
  ∀ (fuel : Nat) (cs : List Value) (x : DataW H × List MemPlace), DataW.trod enc P w 0 (fun _ => true) true fuel t cs = some x → ∃ a, d.K w a cs ∧ Q a

theorem opens_int {t : TypeId} {k : IntKind} (ht : P.underlying t = some (.int k)) : Opens enc P w t (Kd.int k) (fun n => (Lit.int k n).wf = true) := by
  intro fuel cs x h
  obtain ⟨n, rfl, _, hw⟩ := DataW.trod_int ht h
  exact ⟨n, rfl, hw⟩

theorem opens_bool {t : TypeId} (ht : P.underlying t = some .bool) : Opens enc P w t Kd.bool (fun _ => True) := by
  intro fuel cs x h
  obtain ⟨n, rfl, _⟩ := DataW.trod_bool ht h
  exact ⟨n, rfl, trivial⟩

theorem opens_iso {α β : Type} {t : TypeId} {d : Kd α} {Q : α → Prop} (f : β → α) (g : α → β) (hg : ∀ a, f (g a) = a) (h : Opens enc P w t d Q) : Opens enc P w t (Kd.iso d f) (fun b => Q (f b)) := by
  intro fuel cs x hx
  obtain ⟨a, hK, hQ⟩ := h fuel cs x hx
  refine ⟨g a, ?_, ?_⟩
  · show d.K w (f (g a)) cs
    rw [hg]; exact hK
  · show Q (f (g a))
    rw [hg]; exact hQ

theorem opens_slice {α : Type} {t e : TypeId} {d : Kd α} {Q : α → Prop} (ht : P.underlying t = some (.slice e)) (hs : P.cellsOf e = d.sz) (he : Opens enc P w e d Q) :
    Opens enc P w t (Kd.slice e d) (fun xs => xs.length ≤ 9223372036854775807 ∧ ∀ x ∈ xs, Q x) := by
  intro fuel cs x h
  rcases DataW.trod_slice ht h with ⟨rfl, _⟩ | ⟨a, len, cap, elems, rest, n, _, rfl, rfl, hb, hl, hm, hlen, hel, _, _⟩
  · exact ⟨[], ⟨none, 0, rfl, Nat.le_refl _, rfl, Nat.zero_le _, fun h => absurd h (by simp)⟩, by simp, by simp⟩
  · have each : ∀ i : Fin len, ∃ p, ∃ c : List Value, d.K w p c ∧ Q p ∧ c.length = d.sz ∧ ∀ (j : Nat) (u : Value), c[j]? = some u → w.cell? (a.add (i.1 * d.sz + j)) = some u := by
      intro i
      have h1 := hel i.1 i.2
      have h2 : elems[i.1]? = some elems[i.1] := List.getElem?_eq_getElem (by omega)
      rw [h2] at h1
      obtain ⟨c, hc, hy⟩ := Option.bind_eq_some_iff.1 h1
      obtain ⟨p, hK, hQ⟩ := he _ _ _ hy
      obtain ⟨_, hcl, hcc⟩ := World.cells?_some hc
      refine ⟨p, c, hK, hQ, by rw [hcl, hs], fun j u hj => ?_⟩
      have hjl : j < P.cellsOf e := by
        have := (List.getElem?_eq_some_iff.1 hj).1
        omega
      have h3 := hcc j hjl
      rw [hj] at h3
      rw [← hs, ← h3]
      congr 1
      simp only [Addr.add]
      split <;> split <;> split <;> simp_all <;> omega
    refine ⟨List.ofFn fun i => Classical.choose (each i), ?_, ?_, ?_⟩
    · refine ⟨some a, cap, by simp, by simpa using hl, rfl, by simp; unfold maxLen at hm; omega, fun hn => ⟨a, rfl, fun j p hj => ?_⟩⟩
      obtain ⟨hjl, rfl⟩ := List.getElem?_eq_some_iff.1 hj
      rw [List.length_ofFn] at hjl
      obtain ⟨c, hK, hQ, hcl, hcc⟩ := Classical.choose_spec (each ⟨j, hjl⟩)
      refine ⟨c, hcl, ?_, hcc⟩
      simpa using hK
    · simp; unfold maxLen at hm; omega
    · intro p hp
      obtain ⟨i, rfl⟩ := List.mem_ofFn.1 hp
      obtain ⟨c, hK, hQ, _⟩ := Classical.choose_spec (each i)
      exact hQ

def OpensF {α : Type} (enc : TypeId × Value → H) (P : Program) (w : World) (fs : List Field) (off : Nat) (d : Kd α) (Q : α → Prop) : Prop :=
  ∀ (n : Nat) (cs : List Value) (xs : List (DataW H × List MemPlace)), cs.length = off + d.sz → xs.length = fs.length →
    (∀ (i : Nat) (f : Field), fs[i]? = some f → DataW.trod enc P w 0 (fun _ => true) true n f.type ((cs.drop f.offset).take (P.cellsOf f.type)) = xs[i]?) → ∃ a, d.K w a (cs.drop off) ∧ Q a

theorem opensF_one {α : Type} {f : Field} {off : Nat} {d : Kd α} {Q : α → Prop} (ho : f.offset = off) (hs : P.cellsOf f.type = d.sz) (h : Opens enc P w f.type d Q) : OpensF enc P w [f] off d Q := by
  intro n cs xs hl hx hf
  have h0 := hf 0 f rfl
  match xs, hx with
  | [y], _ =>
    obtain ⟨a, hK, hQ⟩ := h _ _ _ h0
    refine ⟨a, ?_, hQ⟩
    rw [ho, hs, List.take_of_length_le (by rw [List.length_drop]; omega)] at hK
    exact hK

theorem opensF_cons {α β : Type} {f : Field} {fs : List Field} {off : Nat} {a : Kd α} {b : Kd β} {Qa : α → Prop} {Qb : β → Prop} (ho : f.offset = off) (hs : P.cellsOf f.type = a.sz) (ha : Opens enc P w f.type a Qa)
    (hb : OpensF enc P w fs (off + a.sz) b Qb) : OpensF enc P w (f :: fs) off (Kd.pair a b) (fun x => Qa x.1 ∧ Qb x.2) := by
  intro n cs xs hl hx hf
  have hl' : cs.length = off + (a.sz + b.sz) := hl
  match xs, hx with
  | y :: ys, hx =>
    have h0 := hf 0 f rfl
    obtain ⟨x0, hK, hQ⟩ := ha _ _ _ h0
    obtain ⟨x1, hK1, hQ1⟩ := hb n cs ys (by omega) (by simpa using hx) (fun i g hg => by simpa using hf (i + 1) g (by simpa using hg))
    refine ⟨(x0, x1), ⟨(cs.drop off).take a.sz, cs.drop (off + a.sz), ?_, ?_, hK1⟩, hQ, hQ1⟩
    · rw [← List.drop_drop, List.take_append_drop]
    · rw [ho, hs] at hK; exact hK

theorem opens_struct {α : Type} {t : TypeId} {fs : Array Field} {d : Kd α} {Q : α → Prop} (ht : P.underlying t = some (.struct fs)) (hs : P.cellsOf t = d.sz) (h : OpensF enc P w fs.toList 0 d Q) : Opens enc P w t d Q := by
  intro fuel cs x hx
  obtain ⟨xs, n, _, rfl, hl, hxl, hf⟩ := DataW.trod_struct ht hx
  obtain ⟨a, hK, hQ⟩ := h n cs xs (by omega) (by simpa using hxl) (fun i f hif => hf i f (by simpa using hif))
  exact ⟨a, by simpa using hK, hQ⟩

theorem opens_imp {α : Type} {t : TypeId} {d : Kd α} {Q Q' : α → Prop} (h : Opens enc P w t d Q) (hq : ∀ a, Q a → Q' a) : Opens enc P w t d Q' := by
  intro fuel cs x hx
  obtain ⟨a, hK, hQ⟩ := h fuel cs x hx
  exact ⟨a, hK, hq a hQ⟩

/-- A struct that came in by value. -/
theorem arg_struct {α : Type} {t : TypeId} {fs : Array Field} {d : Kd α} {Q : α → Prop} {r : Reach} {b0 : Nat} {v : Value} {x : DataW H} {p : List MemPlace} (ht : P.underlying t = some (.struct fs)) (ho : Opens enc P w t d Q)
    (hv : Value.okWide P w r b0 t v) (h : DataW.Trod enc P w 0 (fun _ => true) true t v x p) : ∃ (a : α) (cs : List Value), v = .agg cs.toArray ∧ d.K w a cs ∧ Q a := by
  obtain ⟨cs, rfl, _⟩ := okWide_struct ht hv
  obtain ⟨n, hn⟩ := h
  obtain ⟨a, hK, hQ⟩ := ho _ _ _ hn
  exact ⟨a, cs.toList, by simp, by simpa [Value.cells] using hK, hQ⟩

/-- A slice that came in. -/
theorem arg_slice {α : Type} {t e : TypeId} {d : Kd α} {Q : List α → Prop} {r : Reach} {b0 : Nat} {v : Value} {x : DataW H} {p : List MemPlace} (ht : P.underlying t = some (.slice e)) (ho : Opens enc P w t (Kd.slice e d) Q)
    (hv : Value.okWide P w r b0 t v) (h : DataW.Trod enc P w 0 (fun _ => true) true t v x p) : ∃ (xs : List α) (A : Option Addr) (c : Nat), v = .slice A xs.length c ∧ xs.length ≤ c ∧ Kd.C d w A xs.length xs ∧ Q xs := by
  obtain ⟨A0, len, cap, rfl⟩ := okWide_slice ht hv
  obtain ⟨n, hn⟩ := h
  obtain ⟨xs, ⟨A, c, hcs, hl, hC⟩, hQ⟩ := ho _ _ _ hn
  simp only [Value.cells, List.cons.injEq, Value.slice.injEq, and_true] at hcs
  obtain ⟨rfl, rfl, rfl⟩ := hcs
  exact ⟨xs, A0, cap, rfl, hl, hC, hQ⟩

theorem trod_lt {t : TypeId} {v : Value} {x : DataW H} {p : List MemPlace} (h : DataW.Trod enc P w 0 (fun _ => true) true t v x p) : ∀ y ∈ p, y.block < w.heap.size := by
  obtain ⟨m, hm⟩ := h
  exact DataW.trod_lt m _ _ _ hm
end
end Go.Proofs.Ytcekicodehlidaa.Op
