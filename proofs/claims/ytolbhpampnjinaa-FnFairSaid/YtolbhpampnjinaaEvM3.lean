/- A pure evaluator of the translated program's code, and that it is sound (part 3). Conditions: those in each line. -/
import Derived.Test.YtolbhpampnjinaaEvM2
import Derived.ChangeOld
import Derived.KernelRfl
import Derived.OpenShut
import Derived.ProofKit
import Derived.WalkKit
/- The evaluator is sound: what it answers is what the call answers. The conditions are in each theorem's own line. -/
namespace Go.Proofs.Ytolbhpampnjinaa.Ev
open Go Go.RowKit
set_option linter.unusedVariables false
set_option linter.unusedSimpArgs false
section
variable {P : Program} {M : Hints} {C : CallF}

theorem gives_plain : ∀ {xs : List V} {s s' : St} {ts : List TypeId} {ms : List Mode} {ys : List V}, s.gives P ts ms xs = some (ys, s') → plains ms xs = true → plains ms ys = true := by
  intro xs
  induction xs with
  | nil =>
    intro s s' ts ms ys h _
    simp only [St.gives, Option.some.injEq, Prod.mk.injEq] at h
    rw [← h.1]; rfl
  | cons x xs ih =>
    intro s s' ts ms ys h hp
    simp only [St.gives] at h
    obtain ⟨⟨y1, s1⟩, h1, h⟩ := Option.bind_eq_some_iff.1 h
    obtain ⟨⟨y2, s2⟩, h2, h⟩ := Option.map_eq_some_iff.1 h
    simp only [Prod.mk.injEq] at h
    obtain ⟨rfl, rfl⟩ := h
    simp only [plains, Bool.and_eq_true] at hp ⊢
    refine ⟨?_, ih h2 hp.2⟩
    unfold St.give at h1
    unfold plainM at hp ⊢
    split at h1
    · rename_i hm
      rw [hm] at hp ⊢
      simp only [Option.some.injEq, Prod.mk.injEq] at h1
      rw [← h1.1]; exact hp.1
    all_goals (rename_i hm; rw [hm])

theorem isTr_okm {w : World} {ok ok' top : Nat → Prop} {v : Value} {x : V} {fp : List Nat} (h : Giv P w ok top v x fp) (ht : isTr x = false) : Giv P w ok' top v x fp := by
  cases h with
  | lit h => exact .lit h
  | tr h => simp [isTr] at ht
  | own h k => exact .own h k
theorem isTr_okmL {w : World} {ok ok' top : Nat → Prop} {v : List Value} {x : List V} {fp : List Nat} (h : GivL P w ok top v x fp) (ht : x.any isTr = false) : GivL P w ok' top v x fp := by
  induction h with
  | nil => exact .nil
  | cons h _ ih =>
    simp only [List.any_cons, Bool.or_eq_false_iff] at ht
    exact .cons (isTr_okm h ht.1) (ih ht.2)
theorem hasTr1_okm {w : World} {ok ok' top : Nat → Prop} {v : Value} {x : V} {fp : List Nat} (h : GivO P w ok top v x fp) (ht : hasTr1 x = false) : GivO P w ok' top v x fp := by
  cases x
  case agg cs => obtain ⟨us, h1, h2⟩ := h; exact ⟨us, h1, isTr_okmL h2 ht⟩
  case obx cs => obtain ⟨g, cur, e, fp', h1, h2, h3, h4, h5⟩ := h; exact ⟨g, cur, e, fp', h1, h2, isTr_okmL h3 ht, h4, h5⟩
  all_goals exact isTr_okm h ht
theorem hasTrL_okm {w : World} {ok ok' top : Nat → Prop} {v : List Value} {x : List V} {fp : List Nat} (h : GivOL P w ok top v x fp) (ht : x.any hasTr1 = false) : GivOL P w ok' top v x fp := by
  induction h with
  | nil => exact .nil
  | cons h _ ih =>
    simp only [List.any_cons, Bool.or_eq_false_iff] at ht
    exact .cons (hasTr1_okm h ht.1) (ih ht.2)
theorem hasTr_okm {w : World} {ok ok' top : Nat → Prop} {v : Value} {x : V} {fp : List Nat} (h : ResR P w ok top v x fp) (ht : hasTr x = false) : ResR P w ok' top v x fp := by
  cases x
  case tup rs => obtain ⟨us, h1, h2⟩ := h; exact ⟨us, h1, hasTrL_okm h2 ht⟩
  all_goals (simp only [ResR] at h ⊢; exact hasTr1_okm h ht)
theorem outR_okm {w : World} {ok ok' top : Nat → Prop} {m : Mode} {u : Value} {x o : V} {fp : List Nat} (h : OutR P w ok top m u x o fp) (ht : (∀ g, ok g → ok' g) ∨ hasTr1 o = false) : OutR P w ok' top m u x o fp := by
  cases m
  · exact h
  · obtain ⟨cs, cs', h1, rfl, h3, h4⟩ := h
    refine ⟨cs, cs', h1, rfl, h3, ?_⟩
    rcases ht with ht | ht
    · exact h4.okm ht
    · exact hasTr1_okm h4 ht
  · exact h
  · exact h
theorem outsR_okm {w : World} {ok ok' top : Nat → Prop} {ms : List Mode} {us : List Value} {xs os : List V} {fp : List Nat} (h : OutsR P w ok top ms us xs os fp) (ht : (∀ g, ok g → ok' g) ∨ os.any hasTr1 = false) : OutsR P w ok' top ms us xs os fp := by
  induction h with
  | nil => exact .nil
  | cons h _ ih =>
    refine .cons (outR_okm h (ht.imp (fun h => h) (fun h => by simp only [List.any_cons, Bool.or_eq_false_iff] at h; exact h.1))) (ih (ht.imp (fun h => h) (fun h => by simp only [List.any_cons, Bool.or_eq_false_iff] at h; exact h.2)))
theorem resR_okm {w : World} {ok ok' top : Nat → Prop} {v : Value} {x : V} {fp : List Nat} (h : ResR P w ok top v x fp) (ht : ∀ g, ok g → ok' g) : ResR P w ok' top v x fp := by
  cases x
  case tup rs => obtain ⟨us, h1, h2⟩ := h; exact ⟨us, h1, h2.okm ht⟩
  all_goals (simp only [ResR] at h ⊢; exact GivO.okm h ht)

/-- What the callee gets and what was given are the same, but for what is only read. -/
theorem outsR_ys {w : World} {ok top : Nat → Prop} : ∀ {ys : List V} {ms : List Mode} {us : List Value} {xs os : List V} {fp : List Nat} {s : St}, s.rdAll ms ys = some xs → OutsR P w ok top ms us xs os fp → OutsR P w ok top ms us ys os fp := by
  intro ys
  induction ys with
  | nil =>
    intro ms us xs os fp s hr h
    simp only [St.rdAll, Option.some.injEq] at hr
    subst hr
    exact h
  | cons y ys ih =>
    intro ms us xs os fp s hr h
    simp only [St.rdAll] at hr
    obtain ⟨z, h1, hr⟩ := Option.bind_eq_some_iff.1 hr
    obtain ⟨zs, h2, rfl⟩ := Option.map_eq_some_iff.1 hr
    cases h with
    | cons h hs =>
      refine .cons ?_ (ih h2 hs)
      unfold St.rdArgM at h1
      cases hm : ms.headD .rd with
      | rd => rw [hm] at h; exact h
      | io => rw [hm] at h h1; simp only [Option.some.injEq] at h1; subst h1; exact h
      | mv => rw [hm] at h; exact h
      | iov => rw [hm] at h h1; simp only [Option.some.injEq] at h1; subst h1; exact h

theorem calls_ok (hP : FuncsOk P) (hcon : ∀ (f : FuncId) (xs : List V) (r : V) (os : List V), C f xs = some (r, os) → (∃ fn, P.funcs[f]? = some fn ∧ fn.body.isSome = true) ∧ Contract P (M.modes f) f xs r os) : CallsOk P M C := by
  intro B io w tmps s ρ F fl k v s' h hnew g args us hsz hen he
  unfold evCall at he
  split at he
  case isFalse => cases he
  rename_i hl8
  obtain ⟨⟨ys, s1⟩, hgive, he⟩ := Option.bind_eq_some_iff.1 he
  obtain ⟨xs, hrd, he⟩ := Option.bind_eq_some_iff.1 he
  obtain ⟨⟨r, os⟩, hc, he⟩ := Option.bind_eq_some_iff.1 he
  simp only at hrd he
  split at he
  case isTrue => cases he
  rename_i hplain
  obtain ⟨s2, hback, hres⟩ := Option.bind_eq_some_iff.1 he
  obtain ⟨⟨fn, hfn, hbody⟩, hcontract⟩ := hcon g xs r os hc
  have hen' : ∀ (j : Nat) (u : Value) (x : V), us.toList[j]? = some u → args[j]? = some x → En w (okS s ρ w) ρ u x := fun j u x hu hx => hen j u x (by simpa using hu) hx
  obtain ⟨G, hR1, hargsP, hless⟩ := gives_ok h args (us := us.toList) h (.refl _) (by simpa using hsz) hen' hgive
  have hbk := gives_bk h (.refl _) (by simpa using hsz) hen' hgive
  have hkill := gives_kill hgive
  refine ⟨fn, hfn, hbody, hP.name g fn hfn, ?_⟩
  have hGn := (List.nodup_append.1 hR1.flOnce).1
  have hGlt : ∀ x ∈ G, x < w.heap.size := fun x hx => hR1.flMine x (List.mem_append_left _ hx)
  -- the tops of what is handed over
  let T : Nat → Prop := Killed s s1 ρ F
  have hTtop : ∀ x, T x → tops s ρ x := fun x ⟨id, b, h1, h2, h3, h4, _⟩ => h.head_tops h1 h2 h4
  have htops1 : ∀ x, tops s1 ρ x → tops s ρ x := fun x ⟨id, b, o, c, sz, h1, h2, h3⟩ => ⟨id, b, o, c, sz, hless.sub id b h1, h2, h3⟩
  have halive : ∀ id b, s1.heap id = some b → b.own = true → ∀ x ∈ F id, ¬ T x := fun id b hb ho x hx ⟨id2, b2, h1, h2, h3, h4, _⟩ => by
    have hne : id ≠ id2 := fun e => by subst e; rw [hb] at h3; cases h3
    have hx2 : x ∈ F id2 := by
      cases hf : F id2 with
      | nil => rw [hf] at h4; simp at h4
      | cons y l => rw [hf] at h4; have : y = x := by simpa using h4
                    subst this; exact List.mem_cons_self
    exact h.apart id id2 b b2 (hless.sub id b hb) ho h1 h2 hne x hx hx2
  have halive1 : ∀ x, tops s1 ρ x → ¬ T x ∧ x ∉ G := fun x ⟨id, b, o, c, sz, h1, h2, h3⟩ => by
    have hx : x ∈ F id := by
      have := hR1.heap id b h1
      rw [h3] at this
      exact this.top h2
    exact ⟨halive id b h1 h2 x hx, fun hg => hR1.flApart id b h1 h2 x hx (List.mem_append_left _ hg)⟩
  -- behind the call
  have behind : ∀ (X : Nat → Prop) (ok0 : Nat → Prop), (∀ x, okS s ρ w x → ok0 x) → (∀ x, ok0 x → x < w.heap.size ∧ ¬ T x) → (hasTr r = false ∧ os.any hasTr1 = false ∨ (∀ x, tops s1 ρ x → X x)) → ∀ (val : Value) (w' : World), Done P (M.modes g) w us xs G T X r os val w' → Stp P B io w tmps s ρ fl k v s' val w' := by
    intro X ok0 _ _ htrX val w' hd
    obtain ⟨hleft, ok', top', fr, fo, hresR, houts, hnd, hsrc, htop', hok'⟩ := hd
    -- what is looked at stays
    have hkeep : ∀ x, okS s ρ w x → w'.heap[x]? = w.heap[x]? := fun x hx => hleft.block x hx.2 (fun ht => hx.1 (hTtop x ht))
    have hkeepF : ∀ id b, s1.heap id = some b → ∀ x ∈ F id, w'.heap[x]? = w.heap[x]? := fun id b hb x hx => by
      refine hleft.block x (hR1.F_lt hb x hx) ?_
      cases ho : b.own with
      | true => exact halive id b hb ho x hx
      | false =>
        have hB := h.heap id b (hless.sub id b hb)
        unfold BlkR at hB
        rw [ho] at hB
        split at hB
        · cases hB.1
        · rename_i h2; cases h2
        · rw [hB.1] at hx; cases hx
    have hflk : ∀ x ∈ fl, x < w.heap.size := fun x hx => h.flMine x hx
    let okc : Nat → Prop := fun x => okS s ρ w x ∨ (ok' x ∧ ¬ tops s1 ρ x)
    have hRG : RelG P B io w' tmps s1 ρ F (fo ++ (fr ++ fl)) (fun x => okS s ρ w x ∨ (ok' x ∧ ¬ tops s1 ρ x)) := by
      refine ⟨fun t u hu => ?_, fun t ht => by rw [hless.env]; exact h.out t ht, fun id b hb => ?_, fun id b hb ho x hx => Nat.lt_of_lt_of_le (hR1.mine id b hb ho x hx) hleft.size, fun id b hb ho hcap x hx => hR1.top id b hb ho hcap x hx, hR1.apart, hR1.once, fun id hid => hR1.dom id hid, Nat.le_trans h.base hleft.size, fun x hx => ?_, fun id b hb ho x hx hx2 => ?_, ?_⟩
      · rw [hless.env]
        exact ((h.env t u hu).world hkeep).ext (fun x hx => .inl hx) (fun _ _ h => h)
      · exact ((h.heap id b (hless.sub id b hb)).world hkeep (hkeepF id b hb)).ext (fun x hx => .inl hx) (fun _ _ h => h)
      · rcases List.mem_append.1 hx with hx | hx
        · exact (hsrc x (List.mem_append_right _ hx)).1
        · rcases List.mem_append.1 hx with hx | hx
          · exact (hsrc x (List.mem_append_left _ hx)).1
          · exact Nat.lt_of_lt_of_le (hflk x hx) hleft.size
      · have hlt := hR1.mine id b hb ho x hx
        have nf : x ∉ fr ++ fo := fun hm => by
          rcases (hsrc x hm).2 with hG | hge
          · exact hR1.flApart id b hb ho x hx (List.mem_append_left _ hG)
          · omega
        rcases List.mem_append.1 hx2 with hx2 | hx2
        · exact nf (List.mem_append_right _ hx2)
        · rcases List.mem_append.1 hx2 with hx2 | hx2
          · exact nf (List.mem_append_left _ hx2)
          · exact hR1.flApart id b hb ho x hx (List.mem_append_right _ hx2)
      · have n1 : ((fr ++ fo) ++ fl).Nodup := List.nodup_append.2 ⟨hnd, h.flOnce, fun x hx y hy e => by
          subst e
          rcases (hsrc x hx).2 with hG | hge
          · exact (List.nodup_append.1 hR1.flOnce).2.2 x hG x hy rfl
          · have := hflk x hy; omega⟩
        have p1 : (fo ++ (fr ++ fl)).Perm ((fr ++ fo) ++ fl) := by
          rw [← List.append_assoc]
          exact List.Perm.append_right _ List.perm_append_comm
        exact p1.nodup_iff.2 n1
    have htopio : ∀ x, top' x → io x ∨ B ≤ x := fun x hx => by
      rcases htop' x hx with ⟨id, b, h1, h2, h3, h4, h5⟩ | hge
      · exact h.top id b h1 h2 h5 x h4
      · have := h.base; exact .inr (by omega)
    -- trees that are looked at
    have htrok : hasTr r = false ∧ os.any hasTr1 = false ∨ ∀ x, ok' x → (okS s ρ w x ∨ (ok' x ∧ ¬ tops s1 ρ x)) := by
      rcases htrX with h1 | h1
      · exact .inl h1
      · exact .inr fun x hx => .inr ⟨hx, fun ht => (hok' x hx).2.2 (h1 x ht)⟩
    have houts2 : OutsR P w' (fun x => okS s ρ w x ∨ (ok' x ∧ ¬ tops s1 ρ x)) top' (M.modes g) us.toList ys os fo :=
      outsR_okm (outsR_ys hrd houts) (htrok.symm.imp (fun h => h) (fun h => h.2))
    have hresR2 : ResR P w' (fun x => okS s ρ w x ∨ (ok' x ∧ ¬ tops s1 ρ x)) top' val r fr := by
      rcases htrok with h1 | h1
      · exact hasTr_okm hresR h1.1
      · exact resR_okm hresR h1
    have hfree : ∀ id : Id, id.1 = s.ep → id.2 / 1024 = k → ρ id = none ∧ s1.heap id = none := fun id h1 h2 => by
      have hn := hnew id h1 h2
      refine ⟨hn, ?_⟩
      cases hb : s1.heap id with
      | none => rfl
      | some b =>
        exfalso
        have hB := hR1.heap id b hb
        rw [hn] at hB
        unfold BlkR at hB
        split at hB
        · obtain ⟨_, _, _, _, _, hi, _⟩ := hB; cases hi
        · rcases hB with ⟨hi, _⟩ | ⟨_, _, _, _, hi, _⟩ <;> cases hi
        · obtain ⟨_, hB⟩ := hB
          rcases hB with ⟨hi, _⟩ | ⟨_, _, _, _, hi, _⟩ <;> cases hi
    obtain ⟨ρ2, F2, t2⟩ := backs_ok (e := s.ep) (k := 16 * k + 8) args hRG hbk houts2 (fun j u x hu hx => ⟨w, okS s ρ w, hen' j u x hu hx⟩) htopio (by rw [hless.ep]; exact Nat.le_refl _) (fun j hj hlt => hfree _ rfl (by simp only; omega)) hkill.1.1 (fun id hid => (hkill.1.2 id hid).1) hback
    have hbkρ : ∀ id ∈ bkMs (M.modes g) args, ∀ j, 64 * (16 * k) ≤ j → j < 64 * (16 * k + 8) → id ≠ (s.ep, j) := fun id hid j hj hlt e => by
      subst e
      obtain ⟨b, hb⟩ := (hkill.1.2 _ hid).2
      have hB := h.heap _ b hb
      rw [hnew (s.ep, j) rfl (by simp only; omega)] at hB
      unfold BlkR at hB
      split at hB
      · obtain ⟨_, _, _, _, _, hi, _⟩ := hB; cases hi
      · rcases hB with ⟨hi, _⟩ | ⟨_, _, _, _, hi, _⟩ <;> cases hi
      · obtain ⟨_, hB⟩ := hB
        rcases hB with ⟨hi, _⟩ | ⟨_, _, _, _, hi, _⟩ <;> cases hi
    obtain ⟨ρ3, F3, t3, en3⟩ := takeRes_ok (e := s.ep) (k := 16 * k) t2.rel hresR2 htopio (by rw [t2.ep, hless.ep]; exact Nat.le_refl _) (fun j hj hlt => by
      obtain ⟨a1, a2⟩ := hfree (s.ep, j) rfl (by simp only; omega)
      have hnJ : ¬ ((((s.ep, j) : Id).1 = s.ep ∧ 64 * (16 * k + 8) ≤ ((s.ep, j) : Id).2 ∧ ((s.ep, j) : Id).2 < 64 * (16 * k + 8 + args.length)) ∨ (s.ep, j) ∈ bkMs (M.modes g) args) := fun hh => by
        rcases hh with hh | hh
        · have := hh.2.1; simp only at this; omega
        · exact hbkρ _ hh j hj hlt rfl
      refine ⟨?_, by rw [t2.heap _ hnJ]; exact a2⟩
      cases hr : ρ2 (s.ep, j) with
      | none => rfl
      | some i =>
        rcases t2.dom _ (by rw [hr]; rfl) with hh | hh
        · rw [a1] at hh; cases hh
        · exact absurd hh hnJ) hres
    have hfin : ∀ x, (okS s ρ w x ∨ (ok' x ∧ ¬ tops s1 ρ x)) → okS s' ρ3 w' x := fun x hx => by
      have htopx : tops s' ρ3 x → tops s1 ρ x ∨ top' x := fun ht => by
        rcases t3.tops x ht with h1 | h1
        · exact t2.tops x h1
        · exact .inr h1
      rcases hx with hx | hx
      · refine ⟨fun ht => ?_, Nat.lt_of_lt_of_le hx.2 hleft.size⟩
        rcases htopx ht with h1 | h1
        · exact hx.1 (htops1 x h1)
        · rcases htop' x h1 with h2 | h2
          · exact hx.1 (hTtop x h2)
          · have := hx.2; omega
      · refine ⟨fun ht => ?_, (hok' x hx.1).1⟩
        rcases htopx ht with h1 | h1
        · exact hx.2 h1
        · exact (hok' x hx.1).2.1 h1
    refine ⟨by rw [t3.env, t2.env, hless.env], by rw [t3.ep, t2.ep, hless.ep], ⟨hleft.os, hleft.tape, hleft.output, hleft.size, fun x hx hio => hleft.block x (by have := h.base; omega) (fun ⟨id, b, h1, h2, h3, h4, h5⟩ => ?_)⟩, ρ3, F3, t3.rel.toRel hfin, en3.ext hfin (fun _ _ h => h), fun id i hi => t3.ext id i (t2.ext id i hi), fun id hid => ?_⟩
    · rcases h.top id b h1 h2 h5 x h4 with h6 | h6
      · exact hio h6
      · omega
    · rcases t3.dom id hid with h1 | h1
      · rcases t2.dom id h1 with h2 | h2
        · exact .inl h2
        · rcases h2 with h2 | h2
          · exact .inr ⟨h2.1, by omega⟩
          · left
            obtain ⟨b, hb⟩ := (hkill.1.2 id h2).2
            have hB := h.heap id b hb
            cases hr : ρ id with
            | some i => rfl
            | none =>
              exfalso
              rw [hr] at hB
              unfold BlkR at hB
              split at hB
              · obtain ⟨_, _, _, _, _, hi, _⟩ := hB; cases hi
              · rcases hB with ⟨hi, _⟩ | ⟨_, _, _, _, hi, _⟩ <;> cases hi
              · obtain ⟨_, hB⟩ := hB
                rcases hB with ⟨hi, _⟩ | ⟨_, _, _, _, hi, _⟩ <;> cases hi
      · exact .inr ⟨h1.1, by omega⟩
  -- two ways: with views among what is handed back, or without
  by_cases htr : hasTr r = false ∧ os.any hasTr1 = false
  · have hok0 : ∀ x, okS s ρ w x → x < w.heap.size ∧ ¬ T x ∧ ¬ False := fun x hx => ⟨hx.2, fun ht => hx.1 (hTtop x ht), fun h => h⟩
    refine (hcontract w us G T (fun _ => False) (fun x => x < w.heap.size ∧ ¬ T x) ?_ hGn (fun x hx => ⟨hGlt x hx, fun h => h⟩) (fun x hx => ⟨hx.1, hx.2, fun h => h⟩) (fun x hx => hx.elim)).mono (fun e w' ⟨val, he, hd⟩ => ⟨val, he, behind _ (fun x => x < w.heap.size ∧ ¬ T x) (fun x hx => ⟨(hok0 x hx).1, (hok0 x hx).2.1⟩) (fun x hx => hx) (.inl htr) val w' hd⟩)
    refine rdAll_ok h hless (fun x hx => ⟨(hok0 x hx).1, (hok0 x hx).2.1⟩) hargsP (.inr fun id b x o c sz hb ho hρ => ?_) hrd
    have hx : x ∈ F id := by
      have := hR1.heap id b hb
      rw [hρ] at this
      exact this.top ho
    exact ⟨hR1.mine id b hb ho x hx, halive id b hb ho x hx⟩
  · have hpl : plains (M.modes g) args = true := by
      cases hp : plains (M.modes g) args with
      | true => rfl
      | false =>
        exfalso
        apply hplain
        rw [hp]
        cases h1 : hasTr r <;> cases h2 : os.any hasTr1 <;> simp
        exact htr ⟨h1, h2⟩
    refine (hcontract w us G T (tops s1 ρ) (okS s ρ w) ?_ hGn (fun x hx => ⟨hGlt x hx, fun ht => (halive1 x ht).2 hx⟩) (fun x hx => ⟨hx.2, fun ht => hx.1 (hTtop x ht), fun ht => hx.1 (htops1 x ht)⟩) (fun x hx => ?_)).mono (fun e w' ⟨val, he, hd⟩ => ⟨val, he, behind _ (okS s ρ w) (fun x hx => hx) (fun x hx => ⟨hx.2, fun ht => hx.1 (hTtop x ht)⟩) (.inr fun x hx => hx) val w' hd⟩)
    · exact rdAll_ok h hless (fun x hx => hx) hargsP (.inl (gives_plain hgive hpl)) hrd
    · obtain ⟨id, b, o, c, sz, h1, h2, h3⟩ := hx
      have hB := hR1.heap id b h1
      rw [h3] at hB
      unfold BlkR at hB
      split at hB
      · obtain ⟨_, g', cur, e, row, hi, hg, _⟩ := hB
        cases hi
        exact ⟨cur, e, hg⟩
      · rcases hB with ⟨hi, _⟩ | ⟨g', o', c', cur, hi, hg, _⟩
        · cases hi
        · cases hi; exact ⟨cur, _, hg⟩
      · rename_i hh; rw [h2] at hh; cases hh

/-- THE EVALUATOR IS SOUND. -/
theorem evF_ok (hP : FuncsOk P) {E : CallF} {ex : FuncId → Bool} (hE : ∀ (f : FuncId) (xs : List V) (r : V) (os : List V), ex f = true → E f xs = some (r, os) → (∃ fn, P.funcs[f]? = some fn ∧ fn.body.isSome = true) ∧ Contract P (M.modes f) f xs r os) :
    ∀ (n : Nat) (f : FuncId) (xs : List V) (r : V) (os : List V), evF P M E ex n f xs = some (r, os) → (∃ fn, P.funcs[f]? = some fn ∧ fn.body.isSome = true) ∧ Contract P (M.modes f) f xs r os := by
  intro n
  induction n with
  | zero => intro f xs r os h; simp [evF] at h
  | succ n ih =>
    intro f xs r os h
    simp only [evF] at h
    split at h
    · rename_i hx; exact hE f xs r os hx h
    · refine ⟨?_, evBody_ok hP (calls_ok hP ih) h⟩
      unfold evBody at h
      obtain ⟨fn, h1, h⟩ := Option.bind_eq_some_iff.1 h
      obtain ⟨c, h2, _⟩ := Option.bind_eq_some_iff.1 h
      exact ⟨fn, h1, by rw [h2]; rfl⟩
end
end Go.Proofs.Ytolbhpampnjinaa.Ev
/- Operations over plain values, each by one equation. No condition but those in each line. -/
namespace Go.Proofs.Ytolbhpampnjinaa.Ev
open Go
set_option linter.unusedVariables false
set_option linter.unusedSimpArgs false

/-- Over integers. -/
def binI (op : BinOp) (k k' : IntKind) (a b : Int) : Option V :=
  match op with
  | .shl => if b < 0 then none else some (.lit (.int k (k.wrap (a * 2 ^ min b.toNat k.bits))))
  | .shr => if b < 0 then none else some (.lit (.int k (a.fdiv (2 ^ min b.toNat k.bits))))
  | op => if k = k' then match op with
    | .add => some (.lit (.int k (k.wrap (a + b))))
    | .sub => some (.lit (.int k (k.wrap (a - b))))
    | .mul => some (.lit (.int k (k.wrap (a * b))))
    | .quo => if b = 0 then none else some (.lit (.int k (k.wrap (a.tdiv b))))
    | .rem => if b = 0 then none else some (.lit (.int k (a.tmod b)))
    | .and => some (.lit (.int k (k.wrap ((BitVec.ofInt k.bits a &&& BitVec.ofInt k.bits b).toNat))))
    | .or => some (.lit (.int k (k.wrap ((BitVec.ofInt k.bits a ||| BitVec.ofInt k.bits b).toNat))))
    | .xor => some (.lit (.int k (k.wrap ((BitVec.ofInt k.bits a ^^^ BitVec.ofInt k.bits b).toNat))))
    | .andNot => some (.lit (.int k (k.wrap ((BitVec.ofInt k.bits a &&& ~~~BitVec.ofInt k.bits b).toNat))))
    | .eql => some (.lit (.bool (decide (a = b))))
    | .neq => some (.lit (.bool (decide (a ≠ b))))
    | .lss => some (.lit (.bool (decide (a < b))))
    | .leq => some (.lit (.bool (decide (a ≤ b))))
    | .gtr => some (.lit (.bool (decide (a > b))))
    | .geq => some (.lit (.bool (decide (a ≥ b))))
    | _ => none
    else none
def binS (op : BinOp) (a b : ByteArray) : Option V :=
  match op with
  | .add => if ((a.size + b.size : Nat) : Int) > IntKind.i64.max then none else some (.lit (.string (a ++ b)))
  | .eql => some (.lit (.bool (a.toList == b.toList)))
  | .neq => some (.lit (.bool (!(a.toList == b.toList))))
  | .lss => some (.lit (.bool (Go.Op.bytesLess a.toList b.toList)))
  | .leq => some (.lit (.bool (Go.Op.bytesLess a.toList b.toList || a.toList == b.toList)))
  | .gtr => some (.lit (.bool (!(Go.Op.bytesLess a.toList b.toList || a.toList == b.toList))))
  | .geq => some (.lit (.bool (!(Go.Op.bytesLess a.toList b.toList))))
  | _ => none

section
variable {P : Program} {v : Operand → V}
theorem eval_bind {α β : Type} (x : Sem α) (f : α → Sem β) : eval? P (x >>= f) = (eval? P x).bind fun a => eval? P (f a) := by
  induction x with
  | pure a => rfl
  | program k ih => exact ih P
  | _ => rfl
theorem eval_map {α β : Type} (x : Sem α) (f : α → β) : eval? P (f <$> x) = (eval? P x).map f := by
  induction x with
  | pure a => rfl
  | program k ih => exact ih P
  | _ => rfl
def binX (P : Program) (op : BinOp) (t : TypeId) (x y : Operand) (X Y : V) : Option V :=
  if (toVal X).isSome && (toVal Y).isSome then (eval? P (do eqGuard op t x y ((toVal X).getD undef) ((toVal Y).getD undef); binOp op t ((toVal X).getD undef) ((toVal Y).getD undef))).bind ofVal else none
theorem ev_one {x : Sem Value} : (match eval? P (Next.value <$> x) with | some (.value v) => ofVal v | _ => none) = (eval? P x).bind ofVal := by
  rw [eval_map]
  cases eval? P x <;> rfl
theorem ev_bin {d : Option Tmp} {op : BinOp} {t yt ty : TypeId} {x y : Operand} {p : String} {af : Array Edge} {g : Option (Nat × Bool)} : evScalar P v ⟨d, .binOp op t x y yt, ty, p, af, g⟩ = binX P op t x y (v x) (v y) := by
  unfold evScalar binX
  rw [← ev_one]
  simp only [plainOp, Op.operands, Bool.true_and, List.all_cons, List.all_nil, Bool.and_true]
  rfl
theorem eqGuard_int {op : BinOp} {t : TypeId} {x y : Operand} {k k' : IntKind} {a b : Int} : eqGuard op t x y (.int k a) (.int k' b) = pure () := by
  unfold eqGuard
  cases op <;> rfl
theorem eqGuard_str {op : BinOp} {t : TypeId} {x y : Operand} {a b : ByteArray} : eqGuard op t x y (.string a) (.string b) = pure () := by
  unfold eqGuard
  cases op <;> rfl
theorem eqGuard_bool {op : BinOp} {t : TypeId} {x y : Operand} {a b : Bool} : eqGuard op t x y (.bool a) (.bool b) = pure () := by
  unfold eqGuard
  cases op <;> rfl
theorem binX_int {op : BinOp} {t : TypeId} {x y : Operand} {k k' : IntKind} {a b : Int} : binX P op t x y (.lit (.int k a)) (.lit (.int k' b)) = binI op k k' a b := by
  have e : binX P op t x y (.lit (.int k a)) (.lit (.int k' b)) = (eval? P (binOp op t (.int k a) (.int k' b))).bind ofVal := by
    simp only [binX, toVal, Option.isSome_some, Bool.and_self, if_true, Option.getD_some, eqGuard_int]
    rfl
  rw [e]
  unfold binOp
  by_cases hk : k = k'
  · subst hk
    cases op <;> simp only [ne_eq, not_true, if_false, if_true, binI] <;> first | rfl | skip
    · unfold Go.Op.intDiv; by_cases hb : b = 0 <;> simp only [hb, if_true, if_false] <;> rfl
    · unfold Go.Op.intDiv; by_cases hb : b = 0 <;> simp only [hb, if_true, if_false] <;> rfl
    · unfold Go.Op.shift; by_cases hb : b < 0 <;> simp only [hb, if_true, if_false] <;> rfl
    · unfold Go.Op.shift; by_cases hb : b < 0 <;> simp only [hb, if_true, if_false] <;> rfl
    · simp only [Go.Op.intCmp, bne]; exact congrArg (fun c => some (V.lit (.bool c))) (by by_cases h : a = b <;> simp [h])
  · cases op <;> simp only [ne_eq, hk, not_false_eq_true, if_true, if_false, binI] <;> first | rfl | skip
    · unfold Go.Op.shift; by_cases hb : b < 0 <;> simp only [hb, if_true, if_false] <;> rfl
    · unfold Go.Op.shift; by_cases hb : b < 0 <;> simp only [hb, if_true, if_false] <;> rfl
theorem binX_str {op : BinOp} {t : TypeId} {x y : Operand} {a b : ByteArray} : binX P op t x y (.lit (.string a)) (.lit (.string b)) = binS op a b := by
  have e : binX P op t x y (.lit (.string a)) (.lit (.string b)) = (eval? P (binOp op t (.string a) (.string b))).bind ofVal := by
    simp only [binX, toVal, Option.isSome_some, Bool.and_self, if_true, Option.getD_some, eqGuard_str]
    rfl
  rw [e]
  unfold binOp
  cases op <;> simp only [binS] <;> first | rfl | skip
  unfold Go.Op.stringOp
  simp only []
  by_cases hb : ((a.size + b.size : Nat) : Int) > IntKind.i64.max <;> simp only [hb, if_true, if_false] <;> rfl
theorem equal_bool {t : TypeId} {a b : Bool} (ht : P.underlying t = some .bool) : eval? P (Go.Op.equal t (.bool a) (.bool b)) = some (a == b) := by
  have hu : eval? P (underlying t) = some .bool := by
    unfold underlying
    rw [eval_bind]
    show eval? P (match P.underlying t with | some d => pure d | none => stuck "no such type" : Sem TypeDesc) = some .bool
    rw [ht]; rfl
  show eval? P (Go.Op.equalIn (9999 + 1) t (.bool a) (.bool b)) = _
  unfold Go.Op.equalIn
  rw [eval_bind, hu]
  rfl
theorem binX_eqB {t : TypeId} {x y : Operand} {a b : Bool} (ht : P.underlying t = some .bool) : binX P .eql t x y (.lit (.bool a)) (.lit (.bool b)) = some (.lit (.bool (a == b))) := by
  simp only [binX, toVal, Option.isSome_some, Bool.and_self, if_true, Option.getD_some, eqGuard_bool]
  have e : (pure () >>= fun _ => binOp .eql t (.bool a) (.bool b) : Sem Value) = ((fun b => Value.bool b) <$> Go.Op.equal t (.bool a) (.bool b)) := rfl
  rw [e, eval_map, equal_bool ht]
  rfl
theorem binX_neB {t : TypeId} {x y : Operand} {a b : Bool} (ht : P.underlying t = some .bool) : binX P .neq t x y (.lit (.bool a)) (.lit (.bool b)) = some (.lit (.bool (a != b))) := by
  simp only [binX, toVal, Option.isSome_some, Bool.and_self, if_true, Option.getD_some, eqGuard_bool]
  have e : (pure () >>= fun _ => binOp .neq t (.bool a) (.bool b) : Sem Value) = ((fun b => Value.bool (!b)) <$> Go.Op.equal t (.bool a) (.bool b)) := rfl
  rw [e, eval_map, equal_bool ht]
  rfl
def unX (P : Program) (op : UnOp) (X : V) : Option V :=
  if (toVal X).isSome then (eval? P (Go.Op.unary op ((toVal X).getD undef))).bind ofVal else none
theorem ev_un {d : Option Tmp} {op : UnOp} {t ty : TypeId} {x : Operand} {p : String} {af : Array Edge} {g : Option (Nat × Bool)} : evScalar P v ⟨d, .unOp op t x, ty, p, af, g⟩ = unX P op (v x) := by
  unfold evScalar unX
  rw [← ev_one]
  simp only [plainOp, Op.operands, Bool.true_and, List.all_cons, List.all_nil, Bool.and_true]
  rfl
theorem unX_not {b : Bool} : unX P .not (.lit (.bool b)) = some (.lit (.bool (!b))) := rfl
theorem unX_neg {k : IntKind} {n : Int} : unX P .neg (.lit (.int k n)) = some (.lit (.int k (k.wrap (0 - n)))) := rfl
end
end Go.Proofs.Ytolbhpampnjinaa.Ev
/- An argument that came in is read as the evaluator's tree over Lean data. Conditions: the types' rows of the table. -/
namespace Go.Proofs.Ytolbhpampnjinaa.Ev
open Go Go.RowKit Go.ChangeShapes Go.WideShapes
set_option linter.unusedVariables false
set_option linter.unusedSimpArgs false
section
variable {H : Type} {enc : TypeId × Value → H} {P : Program} {w : World}
def okW (w : World) (g : Nat) : Prop := g < w.heap.size
/-- Cells that read as the trees. -/
def RdC (w : World) (cs : List Value) (xs : List V) : Prop := cs.length = xs.length ∧ ∀ (k : Nat) (v : Value) (x : V), cs[k]? = some v → xs[k]? = some x → Rd w (okW w) v x
theorem RdC.one {v : Value} {x : V} (h : Rd w (okW w) v x) : RdC w [v] [x] := by
  refine ⟨rfl, fun k u y h1 h2 => ?_⟩
  cases k with
  | zero => simp at h1 h2; subst h1; subst h2; exact h
  | succ k => simp at h1
theorem RdC.append {cs ds : List Value} {xs ys : List V} (h : RdC w cs xs) (k : RdC w ds ys) : RdC w (cs ++ ds) (xs ++ ys) := by
  refine ⟨by rw [List.length_append, List.length_append, h.1, k.1], fun i v x h1 h2 => ?_⟩
  rcases Nat.lt_or_ge i cs.length with hi | hi
  · rw [List.getElem?_append_left hi] at h1
    rw [List.getElem?_append_left (by rw [← h.1]; exact hi)] at h2
    exact h.2 i v x h1 h2
  · rw [List.getElem?_append_right hi] at h1
    rw [List.getElem?_append_right (by rw [← h.1]; exact hi), ← h.1] at h2
    exact k.2 _ v x h1 h2
def OpV {α : Type} (enc : TypeId × Value → H) (P : Program) (w : World) (t : TypeId) (e : α → List V) (Q : α → Prop) : Prop :=
  ∀ (fuel : Nat) (cs : List Value) (x : DataW H × List MemPlace), DataW.trod enc P w 0 (fun _ => true) true fuel t cs = some x → ∃ a, RdC w cs (e a) ∧ Q a
theorem opv_int {t : TypeId} {k : IntKind} (ht : P.underlying t = some (.int k)) : OpV enc P w t (fun n : Int => [.lit (.int k n)]) (fun n => (Lit.int k n).wf = true) := by
  intro fuel cs x h
  obtain ⟨n, rfl, _, hw⟩ := DataW.trod_int ht h
  exact ⟨n, .one (.lit rfl), hw⟩
theorem opv_bool {t : TypeId} (ht : P.underlying t = some .bool) : OpV enc P w t (fun b : Bool => [.lit (.bool b)]) (fun _ => True) := by
  intro fuel cs x h
  obtain ⟨n, rfl, _⟩ := DataW.trod_bool ht h
  exact ⟨n, .one (.lit rfl), trivial⟩
theorem opv_imp {α β : Type} {t : TypeId} {e : α → List V} {e' : β → List V} {Q : α → Prop} {Q' : β → Prop} (h : OpV enc P w t e Q) (f : α → β) (he : ∀ a, Q a → e' (f a) = e a) (hq : ∀ a, Q a → Q' (f a)) : OpV enc P w t e' Q' := by
  intro fuel cs x hx
  obtain ⟨a, h1, h2⟩ := h fuel cs x hx
  exact ⟨f a, by rw [he a h2]; exact h1, hq a h2⟩
theorem opv_slice {α : Type} {t el : TypeId} {e : α → List V} {Q : α → Prop} (ht : P.underlying t = some (.slice el)) (hs : ∀ a, (e a).length = P.cellsOf el) (hz : P.cellsOf el ≠ 0) (he : OpV enc P w el e Q) :
    OpV enc P w t (fun xs : List α => [.tr (xs.map e)]) (fun xs => xs.length ≤ maxLen ∧ ∀ x ∈ xs, Q x) := by
  intro fuel cs x h
  rcases DataW.trod_slice ht h with ⟨rfl, _⟩ | ⟨a, len, cap, elems, rest, n, _, rfl, rfl, hb, hl, hm, hlen, hel, _, _⟩
  · exact ⟨[], .one .emp, by simp, by simp⟩
  · have each : ∀ i : Fin len, ∃ p, ∃ c : List Value, RdC w c (e p) ∧ Q p ∧ c.length = P.cellsOf el ∧ ∀ (j : Nat) (u : Value), c[j]? = some u → w.cell? (a.add (i.1 * P.cellsOf el + j)) = some u := by
      intro i
      have h1 := hel i.1 i.2
      have h2 : elems[i.1]? = some elems[i.1] := List.getElem?_eq_getElem (by omega)
      rw [h2] at h1
      obtain ⟨c, hc, hy⟩ := Option.bind_eq_some_iff.1 h1
      obtain ⟨p, hK, hQ⟩ := he _ _ _ hy
      obtain ⟨_, hcl, hcc⟩ := World.cells?_some hc
      refine ⟨p, c, hK, hQ, hcl, fun j u hj => ?_⟩
      have hjl : j < P.cellsOf el := by
        have := (List.getElem?_eq_some_iff.1 hj).1
        omega
      have h3 := hcc j hjl
      rw [hj] at h3
      rw [← h3]
      congr 1
      simp only [Addr.add]
      split <;> split <;> split <;> simp_all <;> omega
    refine ⟨List.ofFn fun i => Classical.choose (each i), .one ?_, by simp; omega, ?_⟩
    · rcases Nat.eq_zero_or_pos len with rfl | hpos
      · exact .emp
      · have hget : ∀ (k : Nat) (x : V), ((List.ofFn fun i => Classical.choose (each i)).map e).flatten[k]? = some x → ∃ v, w.cell? (a.add k) = some v ∧ Rd w (okW w) v x := by
          intro k x hk
          obtain ⟨i, j, row, h1, h2, rfl⟩ := flatten_inv (sz := P.cellsOf el) (fun r hr => by
            obtain ⟨p, _, rfl⟩ := List.mem_map.1 hr
            exact hs p) hk
          rw [List.getElem?_map] at h1
          obtain ⟨p, h3, rfl⟩ := Option.map_eq_some_iff.1 h1
          obtain ⟨hi, rfl⟩ := List.getElem?_eq_some_iff.1 h3
          rw [List.length_ofFn] at hi
          obtain ⟨c, hK, hQ, hcl, hcc⟩ := Classical.choose_spec (each ⟨i, hi⟩)
          rw [List.getElem_ofFn] at h2
          have hjl : j < c.length := by
            have := (List.getElem?_eq_some_iff.1 h2).1
            rw [hK.1]; exact this
          exact ⟨c[j], hcc j _ (List.getElem?_eq_getElem hjl), hK.2 j _ _ (List.getElem?_eq_getElem hjl) h2⟩
        have hspot : a.spot = none := by
          obtain ⟨c, hK, hQ, hcl, hcc⟩ := Classical.choose_spec (each ⟨0, hpos⟩)
          have h0 := hcc 0 c[0] (List.getElem?_eq_getElem (by omega))
          simp only [Nat.zero_mul, Nat.add_zero, Addr.add, if_true] at h0
          exact World.cell?_spot h0
        obtain ⟨g, o, sp⟩ := a
        simp only at hspot
        subst hspot
        have hadd : ∀ k, (Addr.mk g o none).add k = ⟨g, o + k, none⟩ := fun k => by
          unfold Addr.add
          split
          · rename_i h; rw [h]; rfl
          · rfl
        refine .tr (u := fun k => (w.cell? ⟨g, o + k, none⟩).getD undef) (by simp) hl hm (sz := P.cellsOf el) (fun r hr => by
            obtain ⟨p, _, rfl⟩ := List.mem_map.1 hr
            exact hs p) ?_ (fun k x hk => ?_) (fun k x hk => ?_)
        · obtain ⟨c, hK, hQ, hcl, hcc⟩ := Classical.choose_spec (each ⟨0, hpos⟩)
          have h0 := hcc 0 c[0] (List.getElem?_eq_getElem (by omega))
          rw [hadd] at h0
          exact cell_lt h0
        · obtain ⟨v, hv, _⟩ := hget k x hk
          rw [hadd] at hv
          rw [hv]; rfl
        · obtain ⟨v, hv, hr⟩ := hget k x hk
          rw [hadd] at hv
          rw [hv]; exact hr
    · intro p hp
      obtain ⟨i, rfl⟩ := List.mem_ofFn.1 hp
      obtain ⟨c, hK, hQ, _⟩ := Classical.choose_spec (each i)
      exact hQ

def OpVF {α : Type} (enc : TypeId × Value → H) (P : Program) (w : World) (fs : List Field) (off sz : Nat) (e : α → List V) (Q : α → Prop) : Prop :=
  ∀ (n : Nat) (cs : List Value) (xs : List (DataW H × List MemPlace)), cs.length = off + sz → xs.length = fs.length →
    (∀ (i : Nat) (f : Field), fs[i]? = some f → DataW.trod enc P w 0 (fun _ => true) true n f.type ((cs.drop f.offset).take (P.cellsOf f.type)) = xs[i]?) → ∃ a, RdC w (cs.drop off) (e a) ∧ Q a
theorem opvf_one {α : Type} {f : Field} {off sz : Nat} {e : α → List V} {Q : α → Prop} (ho : f.offset = off) (hs : P.cellsOf f.type = sz) (h : OpV enc P w f.type e Q) : OpVF enc P w [f] off sz e Q := by
  intro n cs xs hl hx hf
  have h0 := hf 0 f rfl
  match xs, hx with
  | [y], _ =>
    obtain ⟨a, hK, hQ⟩ := h _ _ _ h0
    refine ⟨a, ?_, hQ⟩
    rw [ho, hs, List.take_of_length_le (by rw [List.length_drop]; omega)] at hK
    exact hK
theorem opvf_cons {α β : Type} {f : Field} {fs : List Field} {off sa sb : Nat} {a : α → List V} {b : β → List V} {Qa : α → Prop} {Qb : β → Prop} (ho : f.offset = off) (hs : P.cellsOf f.type = sa) (ha : OpV enc P w f.type a Qa)
    (hb : OpVF enc P w fs (off + sa) sb b Qb) : OpVF enc P w (f :: fs) off (sa + sb) (fun x : α × β => a x.1 ++ b x.2) (fun x => Qa x.1 ∧ Qb x.2) := by
  intro n cs xs hl hx hf
  match xs, hx with
  | y :: ys, hx =>
    have h0 := hf 0 f rfl
    obtain ⟨x0, hK, hQ⟩ := ha _ _ _ h0
    obtain ⟨x1, hK1, hQ1⟩ := hb n cs ys (by omega) (by simpa using hx) (fun i g hg => by simpa using hf (i + 1) g (by simpa using hg))
    refine ⟨(x0, x1), ?_, hQ, hQ1⟩
    rw [ho, hs] at hK
    have e : cs.drop off = (cs.drop off).take sa ++ cs.drop (off + sa) := by rw [← List.drop_drop, List.take_append_drop]
    rw [e]
    exact hK.append hK1
theorem opv_struct {α : Type} {t : TypeId} {fs : Array Field} {e : α → List V} {Q : α → Prop} {sz : Nat} (ht : P.underlying t = some (.struct fs)) (hs : P.cellsOf t = sz) (h : OpVF enc P w fs.toList 0 sz e Q) : OpV enc P w t e Q := by
  intro fuel cs x hx
  obtain ⟨xs, n, _, rfl, hl, hxl, hf⟩ := DataW.trod_struct ht hx
  obtain ⟨a, hK, hQ⟩ := h n cs xs (by omega) (by simpa using hxl) (fun i f hif => hf i f (by simpa using hif))
  exact ⟨a, by simpa using hK, hQ⟩

theorem Rd.cellish0 {ok : Nat → Prop} {v : Value} {x : V} (h : Rd w ok v x) : Ev.cellish x = true := by
  cases h <;> rfl
/-- A slice that came in. -/
theorem argv_slice {α : Type} {t el : TypeId} {e : α → V} {Q : α → Prop} {r : Reach} {b0 : Nat} {v : Value} {x : DataW H} {p : List MemPlace} (ht : P.underlying t = some (.slice el)) (ho : OpV enc P w t (fun a => [e a]) Q)
    (hv : Value.okWide P w r b0 t v) (h : DataW.Trod enc P w 0 (fun _ => true) true t v x p) : ∃ a : α, Q a ∧ ∀ ρ, En w (okW w) ρ v (e a) := by
  obtain ⟨A0, len, cap, rfl⟩ := okWide_slice ht hv
  obtain ⟨n, hn⟩ := h
  obtain ⟨a, hK, hQ⟩ := ho _ _ _ hn
  exact ⟨a, hQ, fun ρ => (hK.2 0 _ _ rfl rfl).en⟩
/-- A struct that came in by value. -/
theorem argv_struct {α : Type} {t : TypeId} {fs : Array Field} {e : α → List V} {Q : α → Prop} {r : Reach} {b0 : Nat} {v : Value} {x : DataW H} {p : List MemPlace} (ht : P.underlying t = some (.struct fs)) (ho : OpV enc P w t e Q)
    (hv : Value.okWide P w r b0 t v) (h : DataW.Trod enc P w 0 (fun _ => true) true t v x p) : ∃ a : α, Q a ∧ ∀ ρ, En w (okW w) ρ v (.agg (e a)) := by
  obtain ⟨cs, rfl, _⟩ := okWide_struct ht hv
  obtain ⟨n, hn⟩ := h
  obtain ⟨a, hK, hQ⟩ := ho _ _ _ hn
  simp only [Value.cells] at hK
  refine ⟨a, hQ, fun ρ => .agg (by rw [← Array.length_toList]; exact hK.1) (fun y hy => ?_) (fun k u y h1 h2 => (hK.2 k u y (by simpa using h1) h2).en)⟩
  obtain ⟨k, hk, rfl⟩ := List.getElem_of_mem hy
  exact (hK.2 k _ _ (List.getElem?_eq_getElem (by rw [hK.1]; exact hk)) (List.getElem?_eq_getElem hk)).cellish0
theorem argv_int {v : Int} {k : IntKind} {ρ : Rho} : En w (okW w) ρ (.int k v) (.lit (.int k v)) := .lit rfl
/-- Arguments, one behind the other. -/
inductive Ens (w : World) : List Value → List V → Prop
  | nil : Ens w [] []
  | cons {u : Value} {x : V} {us : List Value} {xs : List V} (h : ∀ ρ, En w (okW w) ρ u x) (hs : Ens w us xs) : Ens w (u :: us) (x :: xs)
theorem ens_nil : Ens w [] [] := .nil
theorem ens_cons {u : Value} {x : V} {us : List Value} {xs : List V} (h : ∀ ρ, En w (okW w) ρ u x) (hs : Ens w us xs) : Ens w (u :: us) (x :: xs) := .cons h hs
theorem ens_get {us : List Value} {xs : List V} (h : Ens w us xs) : ∀ (j : Nat) (u : Value) (x : V), us[j]? = some u → xs[j]? = some x → ∀ ρ, En w (okW w) ρ u x := by
  induction h with
  | nil => intro j u x h1; simp at h1
  | cons h hs ih =>
    intro j u x h1 h2
    cases j with
    | zero => simp at h1 h2; subst h1; subst h2; exact h
    | succ j => exact ih j u x (by simpa using h1) (by simpa using h2)
/-- A function that answers true, its arguments only read. -/
theorem law_true {M : Hints} {f : FuncId} {us : List Value} {xs os : List V} (hm : M.modes f = []) (hc : Contract P (M.modes f) f xs (.lit (.bool true)) os) (ha : us.length = xs.length) (he : ∀ (j : Nat) (u : Value) (x : V), us[j]? = some u → xs[j]? = some x → ∀ ρ, En w (okW w) ρ u x) :
    Calls P f us.toArray w (fun e w' => e = .returned (.bool true) ∧ Below w.heap.size w w') := by
  have hA : ∀ (us : List Value) (xs : List V), us.length = xs.length → (∀ (j : Nat) (u : Value) (x : V), us[j]? = some u → xs[j]? = some x → ∀ ρ, En w (okW w) ρ u x) → ArgsR P w (okW w) (fun _ => False) [] us xs [] := by
    intro us
    induction us with
    | nil => intro xs hl _; cases xs with
      | nil => exact .nil
      | cons x xs => simp at hl
    | cons u us ih => intro xs hl he; cases xs with
      | nil => simp at hl
      | cons x xs => exact .cons (f1 := []) (f2 := []) ⟨he 0 u x rfl rfl, rfl⟩ (ih xs (by simpa using hl) (fun j v y h1 h2 => he (j + 1) v y (by simpa using h1) (by simpa using h2)))
  refine (hc w us.toArray [] (fun _ => False) (fun _ => False) (okW w) (by rw [hm]; exact hA us xs ha he) List.nodup_nil (fun g hg => by simp at hg) (fun g hg => ⟨hg, fun h => h, fun h => h⟩) (fun g hg => hg.elim)).mono (fun e w' ⟨v, hv, hd⟩ => ?_)
  obtain ⟨hleft, ok', top', fr, fo, hres, _⟩ := hd
  have : v = .bool true := by
    simp only [ResR] at hres
    cases hres with
    | lit h => rfl
  subst this
  exact ⟨hv, hleft.below⟩
end
end Go.Proofs.Ytolbhpampnjinaa.Ev
/- Code by its parts: what holds behind it (Cx); the state may be written anew between the parts. No condition but those in each line. -/
namespace Go.Proofs.Ytolbhpampnjinaa.Ev
open Go Go.RowKit
set_option linter.unusedVariables false
set_option linter.unusedSimpArgs false

/-! ### loops, round by round -/
def Lw (P : Program) (c : Code) (Q : Exit → Act → World → Prop) (a : Act) (w : World) : Prop :=
  ∀ (b : Frame) (k : List Item) (cs : List Frame), ∃ e a' w', Q e a' w' ∧ Arrives P (lone (b.at a (.code c :: .inLoop c :: k)) cs w) b k cs e a' w'
def wpL (P : Program) (c : Code) (Q : Exit → Act → World → Prop) (a : Act) (w : World) : Prop :=
  match c with
  | .loop c => Lw P c Q a w
  | c => c.wp P Q a w
section
variable {P : Program} {c : Code} {Q : Exit → Act → World → Prop} {a : Act} {w : World}
theorem wpL_wp (h : wpL P c Q a w) : c.wp P Q a w := by
  cases c with
  | loop c =>
    intro b k cs
    obtain ⟨e, a', w', hq, harr⟩ := h b k cs
    exact ⟨e, a', w', hq, .of_steps (.one step_loop) harr⟩
  | _ => exact h
theorem Lw_round (h : c.wp P (Exit.then (fun a' w' => Lw P c Q a' w') Q) a w) : Lw P c Q a w := by
  intro b k cs
  obtain ⟨e, a₁, w₁, hq, harr⟩ := h b (.inLoop c :: k) cs
  cases e with
  | normal =>
    obtain ⟨e₂, a₂, w₂, hq₂, harr₂⟩ := hq b k cs
    exact ⟨e₂, a₂, w₂, hq₂, .of_steps (Steps.trans harr (.one step_inLoop)) harr₂⟩
  | exit id => exact ⟨_, a₁, w₁, hq, .pass (x := .inLoop c) rfl (fun _ _ => .inl (by simp)) harr⟩
  | goto l => exact ⟨_, a₁, w₁, hq, .pass (x := .inLoop c) rfl (fun _ _ => .inl (by simp)) harr⟩
  | ret => exact ⟨_, a₁, w₁, hq, .pass (x := .inLoop c) rfl (fun _ _ => .inl (by simp)) harr⟩
  | panic ch => exact ⟨_, a₁, w₁, hq, .pass (x := .inLoop c) rfl (fun _ _ => .inl (by simp)) harr⟩
  | outgrown => exact ⟨_, a₁, w₁, hq, .pass (x := .inLoop c) rfl (fun _ _ => .inl (by simp)) harr⟩
end

/-! ### what holds behind code -/
def D0 : Id → Prop := phId 64000
theorem D0.zero {id : Id} (h : D0 id) : id.1 = 0 := h.1
def AfterX (P : Program) (B : Nat) (io : Nat → Prop) (fl : List Nat) (w : World) (a : Act) (ρ : Rho) (t' : St) (a' : Act) (w' : World) : Prop :=
  ∃ ρ' F', Rel P B io w' a'.tmps t' ρ' F' fl ∧ Left B io w w' ∧ (∀ id i, id.1 = 0 → ρ id = some i → ρ' id = some i) ∧ a'.tmps.size = a.tmps.size ∧ a'.defers = a.defers
def Cx (P : Program) (c : Code) (S : St) (R : Ex → St → Prop) : Prop :=
  ∀ (t : St) (B : Nat) (io : Nat → Prop) (w : World) (a : Act) (ρ : Rho) (F : Id → List Nat) (fl : List Nat) (Q : Exit → Act → World → Prop),
    ExtE D0 S t → Rel P B io w a.tmps t ρ F fl → codeDst a.tmps.size c = true →
    (∀ ex S' t' a' w', R ex S' → Ext3 D0 t S' t' → AfterX P B io fl w a ρ t' a' w' → Q ex.to a' w') → wpL P c Q a w

section
variable {P : Program} {M : Hints} {C : CallF} {S : St} {R : Ex → St → Prop} {B : Nat} {io : Nat → Prop} {w w1 : World} {a a1 a' : Act} {w' : World} {ρ ρ1 : Rho} {F F1 : Id → List Nat} {fl : List Nat} {t t' : St}
theorem After.x (h : After P B io fl w a ρ t' a' w') : AfterX P B io fl w a ρ t' a' w' := by
  obtain ⟨ρ', F', h1, h2, h3, h4, h5⟩ := h
  exact ⟨ρ', F', h1, h2, fun id i _ h => h3 id i h, h4, h5⟩
theorem AfterX.trans (hl : Left B io w w1) (hρ : ∀ id i, id.1 = 0 → ρ id = some i → ρ1 id = some i) (ht : a1.tmps.size = a.tmps.size) (hd : a1.defers = a.defers) (h : AfterX P B io fl w1 a1 ρ1 t' a' w') : AfterX P B io fl w a ρ t' a' w' := by
  obtain ⟨ρ', F', h1, h2, h3, h4, h5⟩ := h
  exact ⟨ρ', F', h1, hl.trans h2, fun id i h0 h => h3 id i h0 (hρ id i h0 h), h4.trans ht, h5.trans hd⟩

theorem Cx_skip (h : R .normal S) : Cx P .skip S R := fun t B io w a ρ F fl Q hE hR hd hQ => wp_skip (hQ _ _ _ _ _ h hE.three (After.refl hR).x)
theorem Cx_ret (h : R .ret S) : Cx P .ret S R := fun t B io w a ρ F fl Q hE hR hd hQ => wp_ret (hQ _ _ _ _ _ h hE.three (After.refl hR).x)
theorem Cx_exit {i : Nat} (h : R (.exit i) S) : Cx P (.exit i) S R := fun t B io w a ρ F fl Q hE hR hd hQ => wp_exit (hQ _ _ _ _ _ h hE.three (After.refl hR).x)
theorem Cx_region (hC : CallsOk P M C) (hm : P.follows .mixedOrders = true) {i : Nat} {ops : Array Oper} {d : Bool} {S' : St} (he : evCode P M C 1 (.region i ops d) S = some (.normal, S')) (h : R .normal S') : Cx P (.region i ops d) S R := by
  intro t B io w a ρ F fl Q hE hR hd hQ
  obtain ⟨t', g, x⟩ := ExtE.code (D := D0) (fun id h => h.zero) 1 _ hE he
  exact evCode_ok hC hm 1 _ hR hd g (fun a' w' hA => hQ _ _ _ _ _ h x hA.x)
def thenX (K : St → Prop) (R : Ex → St → Prop) : Ex → St → Prop
  | .normal, s => K s
  | e, s => R e s
theorem Cx_seq {x y : Code} (h : Cx P x S (thenX (fun s => Cx P y s R) R)) : Cx P (.seq x y) S R := by
  intro t B io w a ρ F fl Q hE hR hd hQ
  simp only [codeDst, Bool.and_eq_true] at hd
  refine wp_seq (wpL_wp (h t B io w a ρ F fl _ hE hR hd.1 (fun ex S' t' a' w' hr hx hA => ?_)))
  cases ex with
  | normal =>
    obtain ⟨ρ', F', r1, r2, r3, r4, r5⟩ := hA
    show y.wp P Q a' w'
    exact wpL_wp (hr t' B io w' a' ρ' F' fl Q hx.1 r1 (by rw [r4]; exact hd.2) (fun ex2 S2 t2 a2 w2 hr2 hx2 hA2 => hQ _ _ _ _ _ hr2 (hx.trans hx2) (.trans r2 r3 r4 r5 hA2)))
  | ret => exact hQ _ _ _ _ _ hr hx hA
  | exit i => exact hQ _ _ _ _ _ hr hx hA
theorem Cx_cond {c : Operand} {x y : Code} {b : Bool} (hc : S.opV c = .lit (.bool b)) (h : Cx P (if b then x else y) S R) : Cx P (.cond c x y) S R := by
  intro t B io w a ρ F fl Q hE hR hd hQ
  simp only [codeDst, Bool.and_eq_true] at hd
  have hv := hR.opV c
  rw [hE.opV, hc] at hv
  generalize hq : a.eval c = q at hv
  cases hv
  refine wp_cond hq (wpL_wp ?_)
  refine h t B io w a ρ F fl Q hE hR ?_ hQ
  cases b
  · exact hd.2
  · exact hd.1
def inX (i : Nat) (R : Ex → St → Prop) : Ex → St → Prop
  | .exit j, s => if j = i then R .normal s else R (.exit j) s
  | e, s => R e s
theorem Cx_block {i : Nat} {c : Code} (h : Cx P c S (inX i R)) : Cx P (.block i c) S R := by
  intro t B io w a ρ F fl Q hE hR hd hQ
  simp only [codeDst] at hd
  refine wp_block (wpL_wp (h t B io w a ρ F fl _ hE hR hd (fun ex S' t' a' w' hr hx hA => ?_)))
  cases ex with
  | exit j =>
    show Exit.inBlock i Q (.exit j) a' w'
    simp only [inX] at hr
    by_cases hj : j = i
    · subst hj
      rw [if_pos rfl] at hr
      simp only [Exit.inBlock, if_true]
      exact hQ _ _ _ _ _ hr hx hA
    · rw [if_neg hj] at hr
      simp only [Exit.inBlock, if_neg hj]
      exact hQ _ _ _ _ _ hr hx hA
  | normal => exact hQ _ _ _ _ _ hr hx hA
  | ret => exact hQ _ _ _ _ _ hr hx hA
theorem Cx_loop {c : Code} (h : Cx P c S (thenX (fun s => Cx P (.loop c) s R) R)) : Cx P (.loop c) S R := by
  intro t B io w a ρ F fl Q hE hR hd hQ
  refine Lw_round (wpL_wp (h t B io w a ρ F fl _ hE hR hd (fun ex S' t' a' w' hr hx hA => ?_)))
  cases ex with
  | normal =>
    obtain ⟨ρ', F', r1, r2, r3, r4, r5⟩ := hA
    show Lw P c Q a' w'
    exact hr t' B io w' a' ρ' F' fl Q hx.1 r1 (by rw [r4]; exact hd) (fun ex2 S2 t2 a2 w2 hr2 hx2 hA2 => hQ _ _ _ _ _ hr2 (hx.trans hx2) (.trans r2 r3 r4 r5 hA2))
  | ret => exact hQ _ _ _ _ _ hr hx hA
  | exit i => exact hQ _ _ _ _ _ hr hx hA
theorem Cx_mono {c : Code} {R' : Ex → St → Prop} (h : Cx P c S R) (hR : ∀ e s, R e s → R' e s) : Cx P c S R' := fun t B io w a ρ F fl Q hE hRel hd hQ => h t B io w a ρ F fl Q hE hRel hd (fun ex S' t' a' w' hr => hQ ex S' t' a' w' (hR _ _ hr))

/-! ### answers, one by one -/
abbrev Ans := FuncId × List V × V × List V
open Classical in
noncomputable def one (q : Ans) : CallF := fun f xs => if f = q.1 ∧ xs = q.2.1 then some q.2.2 else none
def none0 : CallF := fun _ _ => none
def Fine (P : Program) (M : Hints) (q : Ans) : Prop := (∃ fn, P.funcs[q.1]? = some fn ∧ fn.body.isSome = true) ∧ Contract P (M.modes q.1) q.1 q.2.1 q.2.2.1 q.2.2.2
theorem one_ok (hP : FuncsOk P) {q : Ans} (h : Fine P M q) : CallsOk P M (one q) := calls_ok hP fun f xs r os hc => by
  obtain ⟨q1, q2, q3, q4⟩ := q
  unfold one at hc
  split at hc
  · rename_i hh
    obtain ⟨rfl, rfl⟩ := hh
    injection hc with hc
    injection hc with h1 h2
    subst h1; subst h2
    exact h
  · cases hc
theorem none_ok (hP : FuncsOk P) : CallsOk P M none0 := calls_ok hP fun f xs r os hc => by cases hc
/-- A region in its order. -/
theorem Cx_ops (hP : FuncsOk P) (C : Nat → CallF) (hC : ∀ k, CallsOk P M (C k)) {i : Nat} {ops : Array Oper} {S' : St} (he : evOps P M C ops ⟨S.env, S.heap, S.ep + 1⟩ 0 ops.toList = some S') (h : R .normal S') : Cx P (.region i ops false) S R := by
  intro t B io w a ρ F fl Q hE hR hd hQ
  have ht := hE.tick
  obtain ⟨t', g, x, _⟩ := ExtE.evops (D := D0) (fun id h => h.zero) ops.toList ht.1 (by simp) he
  have hnew : ∀ id : Id, id.1 = t.ep + 1 → ρ id = none := fun id hid => by
    cases hr : ρ id with
    | none => rfl
    | some x => have := hR.dom id (by rw [hr]; rfl); omega
  refine wp_region ?_
  rw [List.range_eq_range', ← Array.length_toList]
  exact evOps_ok hC ops.toList hR.tick (by simp) hd (fun id h2 _ => hnew id h2) g (fun a' w' hA => hQ _ _ _ _ _ h (ht.trans x) hA.x)
theorem Cx_draw (hP : FuncsOk P) (C : Nat → CallF) (hC : ∀ k, CallsOk P M (C k)) {i : Nat} {ops : Array Oper} (hs : Region.noSelect ops = true) {S' : St} (he : evDraw P M C ops ⟨S.env, S.heap, S.ep + 1⟩ [] 0 ops.toList = some S') (h : R .normal S') : Cx P (.region i ops true) S R := by
  intro t B io w a ρ F fl Q hE hR hd hQ
  have ht := hE.tick
  obtain ⟨t', g, x⟩ := ExtE.draw (D := D0) (fun id h => h.zero) ops.toList ht.1 (by simp) he
  have hnew : ∀ id : Id, id.1 = t.ep + 1 → ρ id = none := fun id hid => by
    cases hr : ρ id with
    | none => rfl
    | some x => have := hR.dom id (by rw [hr]; rfl); omega
  refine wp_region_any hP.mixed (evDraw_ok hC (hR.tick.drawn _) g hnew hd (fun a' w' hA => hQ _ _ _ _ _ h (ht.trans x) ?_))
  obtain ⟨ρ', F', r1, r2, r3, r4, r5⟩ := hA
  exact ⟨ρ', F', r1, ⟨r2.os, r2.tape, r2.output, r2.size, r2.block⟩, fun id i _ h => r3 id i h, r4, r5⟩
end
end Go.Proofs.Ytolbhpampnjinaa.Ev
/- A function's body keeps its contract, by its parts. No condition. -/
namespace Go.Proofs.Ytolbhpampnjinaa.Ev
open Go Go.RowKit
set_option linter.unusedVariables false
set_option linter.unusedSimpArgs false
theorem En.ptr0 {w : World} {ok : Nat → Prop} {ρ ρ' : Rho} {v : Value} {id : Id} {i off : Nat} (hρ : ∀ i, ρ id = some i → ρ' id = some i) (h : En w ok ρ v (.ptr id i off)) : En w ok ρ' v (.ptr id i off) := by
  generalize hq : V.ptr id i off = q at h
  cases h <;> cases hq
  rename_i h
  exact .ptr (hρ _ h)
theorem En.sl0 {w : World} {ok : Nat → Prop} {ρ ρ' : Rho} {v : Value} {id : Id} {off len : Nat} (hρ : ∀ i, ρ id = some i → ρ' id = some i) (h : En w ok ρ v (.sl id off len)) : En w ok ρ' v (.sl id off len) := by
  cases h with
  | sl h hc => exact .sl (hρ _ h) hc
  | sle h =>
    obtain ⟨i, hi⟩ := Option.isSome_iff_exists.1 h
    exact .sle (by rw [hρ _ hi]; rfl)
theorem Pl.ext0 {ρ ρ' : Rho} (hρ : ∀ id i, id.1 = 0 → ρ id = some i → ρ' id = some i) {p : Nat} {m : Mode} {u : Value} {x : V} (h : Pl ρ p m u x) : Pl ρ' p m u x := by
  cases m
  · exact trivial
  · exact fun w ok => (h w ok).ptr0 (fun i => hρ _ i rfl)
  · exact trivial
  · unfold Pl at h ⊢
    simp only at h ⊢
    split
    · obtain ⟨us, h1, h2, h3⟩ := h
      exact ⟨us, h1, h2, fun j v e rows hv hc w ok => (h3 j v e rows hv hc w ok).sl0 (fun i => hρ _ i rfl)⟩
    · rename_i hne
      split at h
      · rename_i cs; exact absurd rfl (hne cs)
      · exact fun e rows he w ok => (h e rows he w ok).sl0 (fun i => hρ _ i rfl)
theorem PlL.ext0 {ρ ρ' : Rho} (hρ : ∀ id i, id.1 = 0 → ρ id = some i → ρ' id = some i) {p : Nat} {ms : List Mode} {us : List Value} {xs : List V} (h : PlL ρ p ms us xs) : PlL ρ' p ms us xs := by
  induction h with
  | nil => exact .nil
  | cons h _ ih => exact .cons (h.ext0 hρ) ih
/-- What a body leaves is what is answered. -/
def RetC (P : Program) (M : Hints) (f : FuncId) (fn : Func) (xs : List V) (y : V × List V) (e : Ex) (s : St) : Prop :=
  (match e with | .exit _ => False | _ => True) ∧ ((resV P s fn.results.toList).bind fun vs => (s.liftAll P fn.resultTypes.toList vs).bind fun z => (z.2.outs P 0 fn.params.toList (M.modes f) xs).map fun os => (oneOrV z.1, os)) = some y
section
variable {P : Program} {M : Hints}
theorem body_ok (hP : FuncsOk P) {f : FuncId} {fn : Func} {c : Code} {xs : List V} {r : V} {os : List V} {s1 : St} (hfn : P.funcs[f]? = some fn) (hc : fn.body = some c) (hent : St.enters ⟨fun _ => .undef, fun _ => none, 0⟩ 0 (M.modes f) xs = some s1)
    (hcx : Cx P c s1 (RetC P M f fn xs (r, os))) : Contract P (M.modes f) f xs r os := by
  intro w us G T X ok hargs hGn hG hok hX
  obtain ⟨b, hb⟩ : ∃ b, b = 64000 := ⟨_, rfl⟩
  have hD1 : ∀ id : Id, phId b id → 64000 ≤ id.2 := fun id hid => by rw [← hb]; exact hid.2
  have hD0 : ∀ id : Id, phId b id → id.1 = 0 := fun id hid => hid.1
  obtain ⟨t1, hent', e1⟩ := ExtE.enters hD1 (ph_ext b w X) hent
  let tmps := us ++ Array.replicate (fn.ntmps - us.size) undef
  open Classical in
  let fl0 : List Nat := (List.range w.heap.size).filter fun g => decide (g ∉ G ∧ ¬ X g)
  have hfl0 : ∀ g, g ∈ fl0 ↔ g < w.heap.size ∧ g ∉ G ∧ ¬ X g := fun g => by
    simp only [fl0, List.mem_filter, List.mem_range, decide_eq_true_eq]
  have hnod : (G ++ fl0).Nodup := List.nodup_append.2 ⟨hGn, List.nodup_range.sublist List.filter_sublist, fun x hx y hy e => by subst e; exact ((hfl0 x).1 hy).2.1 hx⟩
  have hbase : RelG P w.heap.size T w tmps (phSt b w X) (phRho b P w X) (fun id => [id.2 - b]) (G ++ fl0) ok :=
    ph_rel hX (fun g hg => by
      rcases List.mem_append.1 hg with h | h
      · exact hG g h
      · exact ⟨((hfl0 g).1 h).1, ((hfl0 g).1 h).2.2⟩) hnod
  obtain ⟨ρ1, F1, c1, p1⟩ := enters_ok (io := T) (fl := fl0) xs hbase hargs (fun j u hu => by
    have hlt := (List.getElem?_eq_some_iff.1 hu).1
    rw [Nat.zero_add]
    simp only [tmps]
    rw [Array.getElem?_append_left (by simpa using hlt)]
    simpa using hu) rfl (fun j h1 h2 => by
    simp only [phSt, phRho]
    constructor
    · rw [if_neg (fun h => by have := h.2.1; omega)]
    · rw [if_neg (fun h => by have := h.2.1; omega)]) hent'
  -- the state at the body's start
  have hR1g : RelG P w.heap.size T w tmps t1 ρ1 F1 fl0 ok := c1.rel
  have hR1 : Rel P w.heap.size T w tmps t1 ρ1 F1 fl0 := hR1g.toRel fun g hg => ⟨fun ht => by
    obtain ⟨h1, h2, h3⟩ := hok g hg
    rcases c1.tops g ht with h4 | h4
    · obtain ⟨id, bk, o, cc, sz, q1, q2, q3⟩ := h4
      simp only [phSt] at q1
      split at q1
      · rename_i hh
        obtain ⟨cur, e, hcell⟩ := hX _ hh.2.2
        simp only [phRho] at q3
        rw [if_pos hh] at q3
        simp only [phInfo, hcell] at q3
        injection q3 with q3
        injection q3 with q3
        exact h3 (q3 ▸ hh.2.2)
      · cases q1
    · exact h2 h4, (hok g hg).1⟩
  have hDb : D0 = phId b := by rw [hb]; rfl
  have e1' : ExtE D0 s1 t1 := by rw [hDb]; exact e1.1
  refine calls_of_wp hfn hc (wpL_wp (hcx t1 w.heap.size T w { tmps := tmps, defers := [] } ρ1 F1 fl0 _ e1' hR1 ?_ (fun ex s2 t2 a' w' hret hx hA => ?_)))
  · refine codeDst_le ?_ c (hP.dst f fn c hfn hc)
    simp only [tmps, Array.size_append, Array.size_replicate]
    omega
  have e2 : Ext3 (phId b) t1 s2 t2 := by rw [← hDb]; exact hx
  obtain ⟨hexn, hret⟩ := hret
  obtain ⟨vs, hres, hret⟩ := Option.bind_eq_some_iff.1 hret
  obtain ⟨⟨ys, s3⟩, hlift, hret⟩ := Option.bind_eq_some_iff.1 hret
  obtain ⟨os', houts, hret⟩ := Option.map_eq_some_iff.1 hret
  simp only [Prod.mk.injEq] at hret
  obtain ⟨rfl, rfl⟩ := hret
  have hexs : ex = .normal ∨ ex = .ret := by
    cases ex with
    | normal => exact .inl rfl
    | ret => exact .inr rfl
    | exit i => exact hexn.elim
  have hres' := e2.1.res hres
  obtain ⟨t3, hlift', e3⟩ := Ext.liftAll e2.1.ext hlift
  have houts' := Ext.outs e3.1 houts
  have hphh : ∀ g, X g → t2.heap (0, b + g) = some (phBlk w g) := fun g hg => by
    have hd : phId b (0, b + g) := ⟨rfl, by simp⟩
    rw [e2.2 _ hd, e1.2 _ hd]
    simp only [phSt]
    rw [if_pos ⟨by trivial, by omega, by rw [Nat.add_sub_cancel_left]; exact hg⟩, Nat.add_sub_cancel_left]
  obtain ⟨ρ2, F2, hR2, hL2, hρ2, hts, hdf⟩ := hA
  obtain ⟨rus, hrl, hrrun, hren⟩ := resV_ok hR2 fn.results.toList hres'
  obtain ⟨fr, hR3, hgo, hl3⟩ := liftAll_ok hR2 vs (fl1 := fl0) hR2 (.refl _) hrl hren hlift'
  obtain ⟨t4, fo, hd4, hR4, hos, hl4⟩ := outs_ok (D := phId b) hR2 xs hR3 hl3 (p1.ext0 hρ2) e3.1 houts houts'
  have hphb : ∀ g, X g → ∃ e, phBlk w g = ⟨false, true, false, e, []⟩ := fun g hg => by
    obtain ⟨cur, e, hcell⟩ := hX g hg
    exact ⟨e, by simp only [phBlk, hcell]⟩
  have hphr : ∀ g, X g → ∃ o c sz, ρ2 (0, b + g) = some (.blk g o c sz) := fun g hg => by
    obtain ⟨cur, e, hcell⟩ := hX g hg
    have h1 : phRho b P w X (0, b + g) = some (.blk g cur.size 0 (P.cellsOf e)) := by
      simp only [phRho]
      rw [if_pos ⟨by trivial, by omega, by rw [Nat.add_sub_cancel_left]; exact hg⟩, Nat.add_sub_cancel_left]
      simp only [phInfo, hcell]
    exact ⟨_, _, _, hρ2 _ _ rfl (c1.ext _ _ h1)⟩
  have hXtop : ∀ g, X g → tops t2 ρ2 g := fun g hg => by
    obtain ⟨e, he⟩ := hphb g hg
    obtain ⟨o, c, sz, hr⟩ := hphr g hg
    exact ⟨(0, b + g), _, o, c, sz, hphh g hg, by rw [he], hr⟩
  have hkt : ∀ g, Killed t2 t4 ρ2 F2 g → tops t2 ρ2 g := fun g ⟨id, bk, h1, h2, h3, h4, _⟩ => hR2.head_tops h1 h2 h4
  have hXF : ∀ g, X g → ∀ x ∈ fo ++ (fr ++ fl0), x ≠ g := fun g hg x hx e => by
    subst e
    obtain ⟨e, he⟩ := hphb x hg
    obtain ⟨o, c, sz, hr⟩ := hphr x hg
    have hal : t4.heap (0, b + x) = some (phBlk w x) := by
      have hd : phId b (0, b + x) := ⟨rfl, by simp⟩
      rw [hd4 _ hd, e3.2.1 _ hd]; exact hphh x hg
    have hown : (phBlk w x).own = true := by rw [he]
    have hB := hR4.heap _ _ hal
    rw [hr] at hB
    exact hR4.flApart _ _ hal hown x (hB.top hown) hx
  have hpost : bodyPost P fn (fun e w' => ∃ v, e = .returned v ∧ Done P (M.modes f) w us xs G T X (oneOrV ys) os' v w') .normal a' w' := by
    refine ⟨hdf, _, results_run hrrun, _, rfl, hL2, okS t2 ρ2 w', fun g => Killed t2 t4 ρ2 F2 g, fr, fo, ?_, ?_, ?_, ?_, ?_, ?_⟩
    · exact ResR.of (hgo.top fun g hg => hg.left hl4)
    · exact hos.top fun g hg => hg.right hl3
    · have h1 := hR4.flOnce
      rw [← List.append_assoc] at h1
      exact (List.perm_append_comm.nodup_iff).1 (List.nodup_append.1 h1).1
    · intro g hg
      have hm : g ∈ fo ++ (fr ++ fl0) := by
        rcases List.mem_append.1 hg with h | h
        · exact List.mem_append_right _ (List.mem_append_left _ h)
        · exact List.mem_append_left _ h
      refine ⟨hR4.flMine g hm, ?_⟩
      rcases Nat.lt_or_ge g w.heap.size with hlt | hge
      · left
        rcases Classical.em (g ∈ G) with h | h
        · exact h
        · exfalso
          rcases Classical.em (X g) with hx | hx
          · exact hXF g hx g hm rfl
          · have hf : g ∈ fl0 := (hfl0 g).2 ⟨hlt, h, hx⟩
            have h1 := hR4.flOnce
            rw [← List.append_assoc] at h1
            refine (List.nodup_append.1 h1).2.2 g ?_ g hf rfl
            rcases List.mem_append.1 hg with h | h
            · exact List.mem_append_right _ h
            · exact List.mem_append_left _ h
      · exact .inr hge
    · rintro g ⟨id, bk, h1, h2, h3, h4, h5⟩
      exact hR2.top id bk h1 h2 h5 g h4
    · exact fun g hg => ⟨hg.2, fun h => hg.1 (hkt g h), fun h => hg.1 (hXtop g h)⟩
  rcases hexs with rfl | rfl
  · exact hpost
  · exact hpost
/-- What a function answers, by its body's parts. -/
theorem fine_of (hP : FuncsOk P) {f : FuncId} {fn : Func} {c : Code} {xs : List V} {r : V} {os : List V} {s1 : St} (hfn : P.funcs[f]? = some fn) (hc : fn.body = some c) (hent : St.enters ⟨fun _ => .undef, fun _ => none, 0⟩ 0 (M.modes f) xs = some s1)
    (hcx : Cx P c s1 (RetC P M f fn xs (r, os))) : Fine P M (f, xs, r, os) := ⟨⟨fn, hfn, by rw [hc]; rfl⟩, body_ok hP hfn hc hent hcx⟩
end
end Go.Proofs.Ytolbhpampnjinaa.Ev
/- The state between two parts is written anew: places are dropped, slices get other numbers. Conditions: those in each line. -/
namespace Go.Proofs.Ytolbhpampnjinaa.Ev
open Go Go.RowKit
set_option linter.unusedVariables false
set_option linter.unusedSimpArgs false

def mkE (l : List (Nat × V)) : Nat → V := fun t => (l.lookup t).getD .undef
def mkH (l : List (Id × Blk)) : Id → Option Blk := fun id => l.lookup id
def mkS (l : List (Nat × V)) (h : List (Id × Blk)) (ep : Nat) : St := ⟨mkE l, mkH h, ep⟩
/-- The number that a slice had. -/
def renI (f : List (Id × Id)) (id : Id) : Option Id := if id.1 = 0 then some id else f.lookup id
/-- A cell as it was (right), and as it is written anew (left). -/
def VR1 (f : List (Id × Id)) : V → V → Prop
  | .undef, _ => True
  | .lit v, y => y = .lit v
  | .tr rows, y => y = .tr rows
  | .vw rows, y => y = .vw rows
  | .rp sh row off, y => y = .rp sh row off
  | .ptr id i off, .ptr id' i' off' => renI f id = some id' ∧ i = i' ∧ off = off'
  | .sl id off len, .sl id' off' len' => renI f id = some id' ∧ off = off' ∧ len = len'
  | .sl id off len, .lit (.slice none 0 0) => renI f id = none ∧ off = 0 ∧ len = 0
  | _, _ => False
def VRs (f : List (Id × Id)) : List V → List V → Prop
  | [], [] => True
  | x :: xs, y :: ys => VR1 f x y ∧ VRs f xs ys
  | _, _ => False
def VR (f : List (Id × Id)) : V → V → Prop
  | .agg xs, .agg ys => VRs f xs ys
  | .tup xs, .tup ys => VRs f xs ys
  | .fn g xs, .fn g' ys => g = g' ∧ VRs f xs ys
  | x, y => VR1 f x y
/-- A block as it was, and as it is written anew. -/
def BR (f : List (Id × Id)) (S : St) (id : Id) (b : Blk) : Prop :=
  match renI f id with
  | none => b.box = false ∧ b.own = true ∧ b.rows = []
  | some id' => ∃ c, S.heap id' = some c ∧ c.box = b.box ∧ c.own = b.own ∧ c.cl = b.cl ∧ (if b.box then (∃ xs ys, b.rows = [xs] ∧ c.rows = [ys] ∧ VRs f xs ys) else (c.el = b.el ∧ c.rows = b.rows))
/-- The numbers that a value has are there. -/
def idHas (h : List (Id × Blk)) (id : Id) : Bool := id.1 == 0 || (h.lookup id).isSome
def has1 (h : List (Id × Blk)) : V → Bool
  | .ptr id _ _ | .sl id _ _ => idHas h id
  | .undef => false
  | _ => true
def hasV (h : List (Id × Blk)) : V → Bool
  | .agg xs | .tup xs | .fn _ xs => xs.all (has1 h)
  | x => has1 h x
def hasB (h : List (Id × Blk)) (b : Blk) : Bool := if b.box then b.rows.all (fun r => r.all (has1 h)) else true
def wkB (f : List (Id × Id)) (l : List (Nat × V)) (h : List (Id × Blk)) (ep : Nat) : Bool :=
  decide ((h.filterMap fun p => renI f p.1).Nodup) && decide ((h.map (·.1)).Nodup) && h.all (fun p => decide (p.1.1 ≤ ep) && decide (p.1.2 < 64000)) && l.all (fun p => hasV h p.2) && h.all fun p => hasB h p.2
structure Weak (f : List (Id × Id)) (S : St) (l : List (Nat × V)) (h : List (Id × Blk)) (ep : Nat) : Prop where
  env : ∀ p ∈ l, VR f p.2 (S.env p.1)
  heap : ∀ p ∈ h, BR f S p.1 p.2
  ok : wkB f l h ep = true

theorem lookup_mem {α β : Type} [BEq α] [LawfulBEq α] {l : List (α × β)} {a : α} {b : β} (h : l.lookup a = some b) : (a, b) ∈ l := by
  induction l with
  | nil => simp at h
  | cons p l ih =>
    obtain ⟨x, y⟩ := p
    simp only [List.lookup] at h
    split at h
    · rename_i he
      injection h with h
      subst h
      rw [eq_of_beq he]; exact List.mem_cons_self
    · exact List.mem_cons_of_mem _ (ih h)

section
variable {P : Program} {B : Nat} {io : Nat → Prop} {w : World} {tmps : Array Value} {S t : St} {ρ : Rho} {F : Id → List Nat} {fl : List Nat} {f : List (Id × Id)} {l : List (Nat × V)} {h : List (Id × Blk)} {ep : Nat}
open Classical in
noncomputable def wkSt (t : St) (l : List (Nat × V)) (h : List (Id × Blk)) (ep : Nat) : St := ⟨mkE l, fun id => if D0 id then t.heap id else mkH h id, ep⟩
noncomputable def wkRho (ρ : Rho) (f : List (Id × Id)) (h : List (Id × Blk)) : Rho := fun id => if id.1 = 0 then ρ id else if (h.lookup id).isSome then (match f.lookup id with | some id' => ρ id' | none => some .emp) else none
def wkF (F : Id → List Nat) (f : List (Id × Id)) : Id → List Nat := fun id => if id.1 = 0 then F id else match f.lookup id with | some id' => F id' | none => []

theorem wkRho_ren {id id' : Id} (hh : idHas h id = true) (hr : renI f id = some id') : wkRho ρ f h id = ρ id' := by
  unfold wkRho renI at *
  by_cases h0 : id.1 = 0
  · rw [if_pos h0] at hr ⊢; injection hr with hr; rw [hr]
  · rw [if_neg h0] at hr ⊢
    simp only [idHas, Bool.or_eq_true, beq_iff_eq, h0, false_or] at hh
    rw [if_pos hh, hr]
theorem wkF_ren {id id' : Id} (hr : renI f id = some id') : wkF F f id = F id' := by
  unfold wkF renI at *
  by_cases h0 : id.1 = 0
  · rw [if_pos h0] at hr ⊢; injection hr with hr; rw [hr]
  · rw [if_neg h0] at hr ⊢; rw [hr]
theorem wkRho_new {id : Id} (hh : idHas h id = true) (hr : renI f id = none) : wkRho ρ f h id = some .emp := by
  unfold wkRho renI at *
  by_cases h0 : id.1 = 0
  · rw [if_pos h0] at hr; cases hr
  · rw [if_neg h0] at hr ⊢
    simp only [idHas, Bool.or_eq_true, beq_iff_eq, h0, false_or] at hh
    rw [if_pos hh, hr]
theorem wkF_new {id : Id} (hr : renI f id = none) : wkF F f id = [] := by
  unfold wkF renI at *
  by_cases h0 : id.1 = 0
  · rw [if_pos h0] at hr; cases hr
  · rw [if_neg h0] at hr ⊢; rw [hr]

theorem VR1.en {ok ok' : Nat → Prop} (hok : ∀ g, ok g → ok' g) {v : Value} {x y : V} (hh : has1 h x = true) (hr : VR1 f x y) (hv : En w ok ρ v y) : En w ok' (wkRho ρ f h) v x := by
  cases x with
  | undef => exact .undef
  | lit u => simp only [VR1] at hr; subst hr; cases hv with | lit h => exact .lit h
  | tr rows => simp only [VR1] at hr; subst hr; cases hv with | tr h => exact .tr (h.okm hok)
  | vw rows => simp only [VR1] at hr; subst hr; cases hv with | vw h => exact .vw (h.okm hok)
  | rp sh row off => simp only [VR1] at hr; subst hr; cases hv with | rp h => exact .rp (h.okm hok)
  | ptr id i off =>
    cases y <;> simp only [VR1] at hr
    obtain ⟨h1, rfl, rfl⟩ := hr
    simp only [has1] at hh
    generalize hq : V.ptr _ i off = q at hv
    cases hv <;> cases hq
    rename_i h2
    exact .ptr (by rw [wkRho_ren hh h1]; exact h2)
  | sl id off len =>
    simp only [has1] at hh
    cases y with
    | sl id' off' len' =>
      simp only [VR1] at hr
      obtain ⟨h1, rfl, rfl⟩ := hr
      cases hv with
      | sl h2 hc => exact .sl (by rw [wkRho_ren hh h1]; exact h2) hc
      | sle h2 => exact .sle (by rw [wkRho_ren hh h1]; exact h2)
    | lit u =>
      unfold VR1 at hr
      split at hr <;> rename_i h1 h2 <;> first | cases h1 | skip
      all_goals first | exact hr.elim | skip
      all_goals try (cases h2)
      obtain ⟨h3, rfl, rfl⟩ := hr
      cases hv
      exact .sle (by rw [wkRho_new hh h3]; rfl)
    | _ => simp [VR1] at hr
  | agg _ => simp [VR1] at hr
  | tup _ => simp [VR1] at hr
  | fn _ _ => simp [VR1] at hr
  | own _ _ => simp [VR1] at hr
  | obx _ => simp [VR1] at hr
theorem VRs.get : ∀ {xs ys : List V}, VRs f xs ys → xs.length = ys.length ∧ ∀ (k : Nat) (x : V), xs[k]? = some x → ∃ y, ys[k]? = some y ∧ VR1 f x y := by
  intro xs
  induction xs with
  | nil => intro ys hr; cases ys with
    | nil => exact ⟨rfl, fun k x hk => by simp at hk⟩
    | cons y ys => exact hr.elim
  | cons x xs ih => intro ys hr; cases ys with
    | nil => exact hr.elim
    | cons y ys =>
      obtain ⟨h1, h2⟩ := hr
      obtain ⟨h3, h4⟩ := ih h2
      refine ⟨by simp [h3], fun k z hk => ?_⟩
      cases k with
      | zero => simp at hk; subst hk; exact ⟨y, rfl, h1⟩
      | succ k => simpa using h4 k z (by simpa using hk)
theorem VR1.cellish {x y : V} (hr : VR1 f x y) (hx : x ≠ .undef) : Ev.cellish x = true := by
  cases x with
  | undef => exact absurd rfl hx
  | agg _ => simp [VR1] at hr
  | tup _ => simp [VR1] at hr
  | own _ _ => simp [VR1] at hr
  | obx _ => simp [VR1] at hr
  | fn _ _ => simp [VR1] at hr
  | _ => rfl
theorem VRs.all {ok ok' : Nat → Prop} (hok : ∀ g, ok g → ok' g) {xs ys : List V} (hr : VRs f xs ys) (hh : xs.all (has1 h) = true) {vs : List Value} (hv : ∀ (k : Nat) (v : Value) (y : V), vs[k]? = some v → ys[k]? = some y → En w ok ρ v y) :
    ∀ (k : Nat) (v : Value) (x : V), vs[k]? = some v → xs[k]? = some x → En w ok' (wkRho ρ f h) v x := fun k v x h1 h2 => by
  obtain ⟨y, h3, h4⟩ := hr.get.2 k x h2
  exact h4.en hok (List.all_eq_true.1 hh x (List.mem_of_getElem? h2)) (hv k v y h1 h3)
theorem has1_ne {x : V} (hh : has1 h x = true) : x ≠ .undef := by rintro rfl; simp [has1] at hh
theorem VR.en {ok ok' : Nat → Prop} (hok : ∀ g, ok g → ok' g) {v : Value} {x y : V} (hh : hasV h x = true) (hr : VR f x y) (hv : En w ok ρ v y) : En w ok' (wkRho ρ f h) v x := by
  unfold VR at hr
  split at hr
  · rename_i xs ys
    simp only [hasV] at hh
    cases hv with
    | @agg us _ hl hc he =>
      refine .agg (by rw [hl, hr.get.1]) (fun x hx => ?_) (fun k v x h1 h2 => hr.all hok hh (vs := us.toList) (fun k v y h1 h2 => he k v y (by simpa using h1) h2) k v x (by simpa using h1) h2)
      obtain ⟨k, hk, rfl⟩ := List.getElem_of_mem hx
      obtain ⟨y, _, h4⟩ := hr.get.2 k _ (List.getElem?_eq_getElem hk)
      exact h4.cellish (has1_ne (List.all_eq_true.1 hh _ (List.getElem_mem hk)))
  · rename_i xs ys
    simp only [hasV] at hh
    cases hv with
    | @tup us _ hl he => exact .tup (by rw [hl, hr.get.1]) (fun k v x h1 h2 => hr.all hok hh (vs := us.toList) (fun k v y h1 h2 => he k v y (by simpa using h1) h2) k v x (by simpa using h1) h2)
  · rename_i g xs g' ys
    obtain ⟨rfl, hr⟩ := hr
    simp only [hasV] at hh
    cases hv with
    | @fn _ us _ hl he => exact .fn (by rw [hl, hr.get.1]) (fun k v x h1 h2 => hr.all hok hh (vs := us.toList) (fun k v y h1 h2 => he k v y (by simpa using h1) h2) k v x (by simpa using h1) h2)
  · have h2 : has1 h x = true := by
      cases x <;> first | exact hh | (simp [VR1] at hr)
    exact hr.en hok h2 hv

theorem Weak.ext (hw : Weak f S l h ep) (hE : ExtE D0 S t) : ExtE D0 (mkS l h ep) (wkSt t l h ep) := by
  have hz := hw.ok
  simp only [wkB, Bool.and_eq_true, decide_eq_true_eq, List.all_eq_true] at hz
  refine ⟨⟨rfl, fun id hid => ?_, fun id hid => ?_⟩, rfl, fun id b hd hb => ?_⟩
  · simp only [wkSt, mkS]; rw [if_neg hid]
  · simp only [mkS]
    cases hb : mkH h id with
    | none => rfl
    | some b =>
      have := (hz.1.1.2 _ (lookup_mem hb)).2
      have := hid.2
      simp only at *; omega
  · simp only [wkSt] at hb
    rw [if_pos hd] at hb
    exact hE.ph id b hd hb
/-- What stands for a block that is written anew. -/
theorem Weak.blk (hw : Weak f S l h ep) (hE : ExtE D0 S t) {id : Id} {b : Blk} (hb : (wkSt t l h ep).heap id = some b) :
    (D0 id ∧ t.heap id = some b) ∨ (¬ D0 id ∧ (id, b) ∈ h ∧ idHas h id = true ∧ ((renI f id = none ∧ b.box = false ∧ b.own = true ∧ b.rows = []) ∨
      ∃ id' c, renI f id = some id' ∧ t.heap id' = some c ∧ ¬ D0 id' ∧ c.box = b.box ∧ c.own = b.own ∧ c.cl = b.cl ∧ (if b.box then (∃ xs ys, b.rows = [xs] ∧ c.rows = [ys] ∧ VRs f xs ys) else (c.el = b.el ∧ c.rows = b.rows)))) := by
  simp only [wkSt] at hb
  split at hb
  · rename_i hd; exact .inl ⟨hd, hb⟩
  · rename_i hd
    have hm := lookup_mem hb
    refine .inr ⟨hd, hm, ?_, ?_⟩
    · simp only [idHas, Bool.or_eq_true]; right; rw [show h.lookup id = some b from hb]; rfl
    · have := hw.heap _ hm
      unfold BR at this
      simp only at this
      split at this
      · rename_i hr; exact .inl ⟨hr, this⟩
      · rename_i id' hr
        obtain ⟨c, h1, h2⟩ := this
        exact .inr ⟨id', c, hr, hE.ext.get h1, hE.ext.notD h1, h2⟩
theorem D0.ren {id : Id} (hd : D0 id) : renI f id = some id := by unfold renI; rw [if_pos hd.zero]
theorem D0.has {id : Id} (hd : D0 id) : idHas h id = true := by simp [idHas, hd.zero]
theorem Weak.tops (hw : Weak f S l h ep) (hE : ExtE D0 S t) {g : Nat} (ht : Ev.tops (wkSt t l h ep) (wkRho ρ f h) g) : Ev.tops t ρ g := by
  obtain ⟨id, b, o, c, sz, h1, h2, h3⟩ := ht
  rcases hw.blk hE h1 with ⟨hd, hb⟩ | ⟨hd, hm, hi, ⟨hr, _⟩ | ⟨id', k, hr, hk, _, _, ho, _⟩⟩
  · rw [wkRho_ren hd.has hd.ren] at h3
    exact ⟨id, b, o, c, sz, hb, h2, h3⟩
  · rw [wkRho_new hi hr] at h3; cases h3
  · rw [wkRho_ren hi hr] at h3
    exact ⟨id', k, o, c, sz, hk, ho.trans h2, h3⟩
theorem ren_inj : ∀ {h : List (Id × Blk)} {id id2 id' : Id} {b b2 : Blk}, (h.filterMap fun p => renI f p.1).Nodup → (id, b) ∈ h → (id2, b2) ∈ h → renI f id = some id' → renI f id2 = some id' → id = id2 := by
  intro h
  induction h with
  | nil => intro id id2 id' b b2 _ h1; simp at h1
  | cons p h ih =>
    intro id id2 id' b b2 hn h1 h2 hr hr2
    have mem : ∀ {i : Id} {c : Blk}, (i, c) ∈ h → renI f i = some id' → id' ∈ h.filterMap fun p => renI f p.1 := fun hm hi => List.mem_filterMap.2 ⟨_, hm, hi⟩
    rw [List.filterMap_cons] at hn
    rcases List.mem_cons.1 h1 with e1 | e1
    · rcases List.mem_cons.1 h2 with e2 | e2
      · rw [← e1] at e2; injection e2 with e2; exact e2.symm
      · rw [← e1] at hn
        simp only [hr] at hn
        exact absurd (mem e2 hr2) (List.nodup_cons.1 hn).1
    · rcases List.mem_cons.1 h2 with e2 | e2
      · rw [← e2] at hn
        simp only [hr2] at hn
        exact absurd (mem e1 hr) (List.nodup_cons.1 hn).1
      · refine ih ?_ e1 e2 hr hr2
        split at hn
        · exact hn
        · exact (List.nodup_cons.1 hn).2

theorem Weak.rel (hw : Weak f S l h ep) (hE : ExtE D0 S t) (hR : Rel P B io w tmps t ρ F fl) : Rel P B io w tmps (wkSt t l h ep) (wkRho ρ f h) (wkF F f) fl := by
  have hz := hw.ok
  simp only [wkB, Bool.and_eq_true, decide_eq_true_eq, List.all_eq_true] at hz
  have hok : ∀ g, okS t ρ w g → okS (wkSt t l h ep) (wkRho ρ f h) w g := fun g hg => ⟨fun ht => hg.1 (hw.tops hE ht), hg.2⟩
  have key : ∀ {id : Id} {b : Blk}, (wkSt t l h ep).heap id = some b → b.own = true → wkF F f id = [] ∨ ∃ id' c, t.heap id' = some c ∧ c.own = true ∧ wkF F f id = F id' ∧ wkRho ρ f h id = ρ id' ∧ renI f id = some id' ∧ (D0 id ∨ (id, b) ∈ h ∧ ¬ D0 id') := fun {id b} hb ho => by
    rcases hw.blk hE hb with ⟨hd, hb⟩ | ⟨hd, hm, hi, ⟨hr, _⟩ | ⟨id', k, hr, hk, hnd, _, ho2, _⟩⟩
    · exact .inr ⟨id, b, hb, ho, wkF_ren hd.ren, wkRho_ren hd.has hd.ren, hd.ren, .inl hd⟩
    · exact .inl (wkF_new hr)
    · exact .inr ⟨id', k, hk, ho2.trans ho, wkF_ren hr, wkRho_ren hi hr, hr, .inr ⟨hm, hnd⟩⟩
  refine ⟨fun t' v hv => ?_, fun t' ht' => ?_, fun id b hb => ?_, fun id b hb ho g hg => ?_, fun id b hb ho hc g hg => ?_, fun id id2 b b2 hb ho hb2 ho2 hne g hg hg2 => ?_, fun id b hb ho => ?_, fun id hid => ?_, hR.base, hR.flMine, fun id b hb ho g hg => ?_, hR.flOnce⟩
  · show En w _ _ v (mkE l t')
    unfold mkE
    cases hl : l.lookup t' with
    | none => exact .undef
    | some x =>
      have hm := lookup_mem hl
      have h1 := hw.env _ hm
      simp only at h1
      rw [← hE.env] at h1
      exact h1.en hok (hz.1.2 _ hm) (hR.env t' v hv)
  · show mkE l t' = .undef
    unfold mkE
    cases hl : l.lookup t' with
    | none => rfl
    | some x =>
      have hm := lookup_mem hl
      have h1 := hw.env _ hm
      simp only at h1
      rw [← hE.env, hR.out t' ht'] at h1
      simp only [Option.getD_some]
      cases x <;> simp [VR, VR1] at h1 ⊢
  · rcases hw.blk hE hb with ⟨hd, hb⟩ | ⟨hd, hm, hi, ⟨hr, h1, h2, h3⟩ | ⟨id', k, hr, hk, _, hbx, ho, hcl, hrows⟩⟩
    · rw [wkRho_ren hd.has hd.ren, wkF_ren hd.ren]
      have hB := hR.heap id b hb
      have hph := hE.ph id b hd hb
      -- a block that nothing leads out of
      unfold BlkR at hB ⊢
      split at hB
      · obtain ⟨_, g, cur, e, row, hi, hg, hr, _⟩ := hB; rw [hph] at hr; cases hr
      · rcases hB with hB | ⟨g, o, c, cur, hi, hg, hl, hm, hu, hz, fp, hF, q1, q2⟩
        · exact .inl hB
        · exact .inr ⟨g, o, c, cur, hi, hg, hl, hm, hu, hz, fp, hF, q1, fun hc => ⟨(q2 hc).1, fun k x hx => by rw [hph] at hx; simp at hx⟩⟩
      · obtain ⟨h0, hB⟩ := hB
        refine ⟨h0, ?_⟩
        rcases hB with hB | ⟨g, o, c, sz, hi, hu, hr⟩
        · exact .inl hB
        · exact .inr ⟨g, o, c, sz, hi, hu, hr.okm hok⟩
    · rw [wkRho_new hi hr, wkF_new hr]
      exact .mkEmp h1 h2 rfl h3 rfl
    · rw [wkRho_ren hi hr, wkF_ren hr]
      have hB := hR.heap id' k hk
      unfold BlkR at hB ⊢
      rw [hbx, ho] at hB
      cases hb1 : b.box with
      | true =>
        rw [hb1] at hB
        simp only [hb1, if_true] at hrows hB ⊢
        obtain ⟨q0, g, cur, e, row, hi', hg, hr', hs, he, hc, hF⟩ := hB
        obtain ⟨xs, ys, e1, e2, hv⟩ := hrows
        rw [e2] at hr'
        injection hr' with hr' _
        subst hr'
        have hxl := hv.get.1
        have hall : xs.all (has1 h) = true := by
          have h7 := hz.2 _ hm
          unfold hasB at h7
          simp only [hb1, if_true, e1, List.all_cons, List.all_nil, Bool.and_true] at h7
          exact h7
        refine ⟨q0, g, cur, e, xs, by rw [hi', hxl], hg, e1, by rw [hs, hxl], fun j v x h1 h2 => ?_, fun x hx => ?_, hF⟩
        · exact hv.all hok hall (vs := cur.toList) (fun k v y h1 h2 => he k v y (by simpa using h1) h2) j v x (by simpa using h1) h2
        · obtain ⟨j, hj, rfl⟩ := List.getElem_of_mem hx
          obtain ⟨y, _, h4⟩ := hv.get.2 j _ (List.getElem?_eq_getElem hj)
          exact h4.cellish (has1_ne (List.all_eq_true.1 hall _ (List.getElem_mem hj)))
      | false =>
        rw [hb1] at hB
        simp only [hb1, Bool.false_eq_true, if_false] at hrows hB ⊢
        obtain ⟨e1, e2⟩ := hrows
        cases ho1 : b.own with
        | true =>
          rw [ho1] at hB
          simp only at hB ⊢
          rcases hB with ⟨q1, q2, q3⟩ | ⟨g, o, c, cur, hi', hg, hl, hm', hu, hz', fp, hF, q1, q2⟩
          · exact .inl ⟨q1, by rw [← e2]; exact q2, q3⟩
          · refine .inr ⟨g, o, c, cur, by rw [← e1]; exact hi', by rw [← e1]; exact hg, by rw [← e2]; exact hl, hm', by rw [← e1, ← e2]; exact hu, by rw [← e1]; exact hz', fp, hF, fun hc => ?_, fun hc => ?_⟩
            · rw [← e1, ← e2]; exact q1 (by rw [hcl]; exact hc)
            · obtain ⟨q3, q4⟩ := q2 (by rw [hcl]; exact hc)
              refine ⟨q3, fun j x hx => ?_⟩
              obtain ⟨v, hv, hrd⟩ := q4 j x (by rw [e2]; exact hx)
              exact ⟨v, hv, hrd.okm hok⟩
        | false =>
          rw [ho1] at hB
          simp only at hB ⊢
          obtain ⟨h0, hB⟩ := hB
          refine ⟨h0, ?_⟩
          rcases hB with ⟨q1, q2⟩ | ⟨g, o, c, sz, hi', hu, hr'⟩
          · exact .inl ⟨q1, by rw [← e2]; exact q2⟩
          · exact .inr ⟨g, o, c, sz, hi', by rw [← e2]; exact hu, by rw [← e2]; exact hr'.okm hok⟩
  · rcases key hb ho with h0 | ⟨id', c, h1, h2, h3, _⟩
    · rw [h0] at hg; simp at hg
    · rw [h3] at hg; exact hR.mine id' c h1 h2 g hg
  · rcases key hb ho with h0 | ⟨id', c, h1, h2, h3, h4, _⟩
    · rw [h0] at hg; simp at hg
    · rw [h3] at hg; exact hR.top id' c h1 h2 (by rw [← h4]; exact hc) g hg
  · rcases key hb ho with h0 | ⟨i1, c, h1, h2, h3, h4, h5, h6⟩
    · rw [h0] at hg; simp at hg
    · rcases key hb2 ho2 with k0 | ⟨i2, c2, k1, k2, k3, k4, k5, k6⟩
      · rw [k0] at hg2; simp at hg2
      · rw [h3] at hg
        rw [k3] at hg2
        refine hR.apart i1 i2 c c2 h1 h2 k1 k2 (fun e => ?_) g hg hg2
        subst e
        rcases h6 with h6 | ⟨h6, h7⟩
        · rw [h6.ren] at h5; injection h5 with h5; subst h5
          rcases k6 with k6 | ⟨k6, k7⟩
          · rw [k6.ren] at k5; injection k5 with k5; exact hne k5.symm
          · exact k7 h6
        · rcases k6 with k6 | ⟨k6, k7⟩
          · rw [k6.ren] at k5; injection k5 with k5; subst k5; exact h7 k6
          · exact hne (ren_inj hz.1.1.1.1 h6 k6 h5 k5)
  · rcases key hb ho with h0 | ⟨id', c, h1, h2, h3, _⟩
    · rw [h0]; exact List.nodup_nil
    · rw [h3]; exact hR.once id' c h1 h2
  · show id.1 ≤ ep
    by_cases h0 : id.1 = 0
    · omega
    · unfold wkRho at hid
      rw [if_neg h0] at hid
      split at hid
      · rename_i hs
        obtain ⟨b, hb⟩ := Option.isSome_iff_exists.1 hs
        exact (hz.1.1.2 _ (lookup_mem hb)).1
      · simp at hid
  · rcases key hb ho with h0 | ⟨id', c, h1, h2, h3, _⟩
    · rw [h0] at hg; simp at hg
    · rw [h3] at hg; exact hR.flApart id' c h1 h2 g hg

/-- The state is written anew. -/
theorem Cx_weak {c : Code} {R : Ex → St → Prop} (f : List (Id × Id)) (hw : Weak f S l h ep) (hc : Cx P c (mkS l h ep) R) : Cx P c S R := by
  intro t B io w a ρ F fl Q hE hR hd hQ
  refine hc (wkSt t l h ep) B io w a (wkRho ρ f h) (wkF F f) fl Q (hw.ext hE) (hw.rel hE hR) hd (fun ex S' t' a' w' hr hx hA => hQ ex S' t' a' w' hr ⟨hx.1, fun id hid => ?_⟩ ?_)
  · rw [hx.2 id hid]; simp only [wkSt]; rw [if_pos hid]
  · obtain ⟨ρ', F', h1, h2, h3, h4, h5⟩ := hA
    exact ⟨ρ', F', h1, h2, fun id i h0 hi => h3 id i h0 (by unfold wkRho; rw [if_pos h0]; exact hi), h4, h5⟩
end
end Go.Proofs.Ytolbhpampnjinaa.Ev
/- Structs of plain numbers and truth values are compared cell by cell. No condition but those in each line. -/
namespace Go.Proofs.Ytolbhpampnjinaa.Ev
open Go
set_option linter.unusedVariables false
set_option linter.unusedSimpArgs false
section
variable {P : Program}
/-- The cells are alike. -/
def eqLits : List V → List V → Option Bool
  | [], [] => some true
  | .lit (.int k a) :: xs, .lit (.int k' b) :: ys => if k = k' then (eqLits xs ys).map fun r => decide (a = b) && r else none
  | .lit (.bool a) :: xs, .lit (.bool b) :: ys => (eqLits xs ys).map fun r => (a == b) && r
  | _, _ => none
def fitsT (P : Program) : Nat → List Field → List V → Bool
  | _, [], [] => true
  | i, f :: fs, .lit (.int _ _) :: xs => (f.name != "_") && (f.offset == i) && !(aggT P f.type) && (match P.underlying f.type with | some (.int _) => true | _ => false) && fitsT P (i + 1) fs xs
  | i, f :: fs, .lit (.bool _) :: xs => (f.name != "_") && (f.offset == i) && !(aggT P f.type) && (match P.underlying f.type with | some .bool => true | _ => false) && fitsT P (i + 1) fs xs
  | _, _, _ => false
theorem eval_underlying {t : TypeId} {d : TypeDesc} (ht : P.underlying t = some d) : eval? P (underlying t) = some d := by
  unfold underlying
  rw [eval_bind]
  show eval? P (match P.underlying t with | some d => pure d | none => stuck "no such type" : Sem TypeDesc) = some d
  rw [ht]; rfl
theorem equal_int {n : Nat} {t : TypeId} {k0 k : IntKind} {a b : Int} (ht : P.underlying t = some (.int k0)) : eval? P (Go.Op.equalIn (n + 1) t (.int k a) (.int k b)) = some (decide (a = b)) := by
  unfold Go.Op.equalIn
  rw [eval_bind, eval_underlying ht]
  simp only [Option.bind_some, if_true]
  show some (a == b) = some (decide (a = b))
  by_cases h : a = b <;> simp [h]
theorem equal_bool' {n : Nat} {t : TypeId} {a b : Bool} (ht : P.underlying t = some .bool) : eval? P (Go.Op.equalIn (n + 1) t (.bool a) (.bool b)) = some (a == b) := by
  unfold Go.Op.equalIn
  rw [eval_bind, eval_underlying ht]
  rfl
theorem eval_isAgg {t : TypeId} (h : (P.underlying t).isSome = true) (ha : aggT P t = false) : eval? P (isAgg t) = some false := by
  obtain ⟨d, hd⟩ := Option.isSome_iff_exists.1 h
  unfold isAgg
  rw [eval_bind, eval_underlying hd]
  unfold aggT at ha
  rw [hd] at ha
  cases d <;> first | rfl | cases ha
theorem eval_part {t : TypeId} {cs : Array Value} {off : Nat} {v : Value} (h : (P.underlying t).isSome = true) (ha : aggT P t = false) (hv : cs[off]? = some v) : eval? P (part t cs off) = some v := by
  unfold part
  rw [eval_bind, eval_isAgg h ha]
  simp only [Option.bind_some, Bool.false_eq_true, if_false, hv]
  rfl
theorem litsOf_get : ∀ {xs : List V} {l : List Value}, litsOf xs = some l → xs = l.map V.lit := by
  intro xs
  induction xs with
  | nil => intro l h; simp only [litsOf, Option.some.injEq] at h; subst h; rfl
  | cons x xs ih =>
    intro l h
    cases x <;> simp only [litsOf] at h <;> try cases h
    obtain ⟨l', h1, rfl⟩ := Option.map_eq_some_iff.1 h
    rw [ih h1]; rfl
def eqBody (n : Nat) (X Y : Array Value) (f : Field) (s : Option Bool × Unit) : Sem (ForInStep (Option Bool × Unit)) :=
  if f.name ≠ "_" then do
    let a ← part f.type X f.offset
    let b ← part f.type Y f.offset
    let c ← Go.Op.equalIn (n + 1) f.type a b
    if (!c) = true then pure (ForInStep.done (some false, ())) else pure (ForInStep.yield (none, ()))
  else pure (ForInStep.yield (none, ()))
theorem eqBody_of {n : Nat} {X Y : Array Value} {f : Field} {s : Option Bool × Unit} {u v : Value} {c : Bool} (hn : (f.name != "_") = true) (hu : (P.underlying f.type).isSome = true) (ha : aggT P f.type = false) (hx : X[f.offset]? = some u) (hy : Y[f.offset]? = some v) (hc : eval? P (Go.Op.equalIn (n + 1) f.type u v) = some c) :
    eval? P (eqBody n X Y f s) = some (if c then .yield (none, ()) else .done (some false, ())) := by
  unfold eqBody
  rw [if_pos (by simpa using hn), eval_bind, eval_part hu ha hx, Option.bind_some, eval_bind, eval_part hu ha hy, Option.bind_some, eval_bind, hc, Option.bind_some]
  cases c <;> rfl
theorem eqLoop {n : Nat} {X Y : List Value} : ∀ (l : List Field) (i : Nat) (b : Bool), fitsT P i l ((X.drop i).map V.lit) = true → eqLits ((X.drop i).map V.lit) ((Y.drop i).map V.lit) = some b →
    eval? P (forIn l (none, ()) (eqBody n X.toArray Y.toArray)) = some (if b then (none, ()) else (some false, ())) := by
  intro l
  induction l with
  | nil =>
    intro i b hf he
    cases hX : X.drop i with
    | cons v l => rw [hX] at hf; simp [fitsT] at hf
    | nil =>
      rw [hX] at he
      cases hY : Y.drop i with
      | cons v l => rw [hY] at he; simp [eqLits] at he
      | nil =>
        rw [hY] at he
        simp only [List.map_nil, eqLits, Option.some.injEq] at he
        subst he
        rfl
  | cons f l ih =>
    intro i b hf he
    have drop1 : ∀ {Z : List Value} {v : Value} {zs : List Value}, Z.drop i = v :: zs → Z.drop (i + 1) = zs ∧ Z.toArray[i]? = some v := fun {Z v zs} hz => by
      constructor
      · rw [← List.drop_drop, hz]; rfl
      · have := congrArg List.head? hz
        rw [List.head?_drop] at this
        simpa using this
    have step : ∀ (u v : Value) (xs ys : List Value) (c b' : Bool), X.drop i = u :: xs → Y.drop i = v :: ys → (f.name != "_") = true → f.offset = i → aggT P f.type = false → (P.underlying f.type).isSome = true → eval? P (Go.Op.equalIn (n + 1) f.type u v) = some c →
        fitsT P (i + 1) l (xs.map V.lit) = true → eqLits (xs.map V.lit) (ys.map V.lit) = some b' → b = (c && b') → eval? P (forIn (f :: l) (none, ()) (eqBody n X.toArray Y.toArray)) = some (if b then (none, ()) else (some false, ())) := by
      intro u v xs ys c b' hX hY hn ho ha hu hc hfl hel hb
      obtain ⟨dx, ax⟩ := drop1 hX
      obtain ⟨dy, ay⟩ := drop1 hY
      rw [List.forIn_cons, eval_bind, eqBody_of hn hu ha (by rw [ho]; exact ax) (by rw [ho]; exact ay) hc]
      cases c with
      | true =>
        simp only [if_true, Option.bind_some]
        rw [ih (i + 1) b' (by rw [dx]; exact hfl) (by rw [dx, dy]; exact hel), hb]
        rfl
      | false =>
        simp only [Bool.false_eq_true, if_false, Option.bind_some]
        rw [hb]
        rfl
    cases hX : X.drop i with
    | nil => rw [hX] at hf; simp [fitsT] at hf
    | cons u xs =>
      rw [hX] at hf he
      cases hY : Y.drop i with
      | nil => rw [hY] at he; cases u <;> simp [eqLits] at he
      | cons v ys =>
        rw [hY] at he
        simp only [List.map_cons] at hf he
        cases u with
        | int k a =>
          simp only [fitsT, Bool.and_eq_true, Bool.not_eq_true', beq_iff_eq] at hf
          obtain ⟨⟨⟨⟨h1, h2⟩, h3⟩, h4⟩, h5⟩ := hf
          cases v with
          | int k' b2 =>
            simp only [eqLits] at he
            split at he
            · rename_i hk
              subst hk
              obtain ⟨b', h6, h7⟩ := Option.map_eq_some_iff.1 he
              split at h4
              · rename_i k0 hk0
                exact step _ _ _ _ _ _ hX hY h1 h2 h3 (by rw [hk0]; rfl) (equal_int hk0) h5 h6 h7.symm
              · cases h4
            · cases he
          | _ => simp [eqLits] at he
        | bool a =>
          simp only [fitsT, Bool.and_eq_true, Bool.not_eq_true', beq_iff_eq] at hf
          obtain ⟨⟨⟨⟨h1, h2⟩, h3⟩, h4⟩, h5⟩ := hf
          cases v with
          | bool b2 =>
            simp only [eqLits] at he
            obtain ⟨b', h6, h7⟩ := Option.map_eq_some_iff.1 he
            split at h4
            · rename_i hk0
              exact step _ _ _ _ _ _ hX hY h1 h2 h3 (by rw [hk0]; rfl) (equal_bool' hk0) h5 h6 h7.symm
            · cases h4
          | _ => simp [eqLits] at he
        | _ => simp [fitsT] at hf
theorem equal_struct {n : Nat} {t : TypeId} {fs : Array Field} {X Y : List Value} {b : Bool} (ht : P.underlying t = some (.struct fs)) (hs : P.stoodInHeld t = false) (hx : fitsT P 0 fs.toList (X.map V.lit) = true) (he : eqLits (X.map V.lit) (Y.map V.lit) = some b) :
    eval? P (Go.Op.equalIn (n + 2) t (.agg X.toArray) (.agg Y.toArray)) = some b := by
  unfold Go.Op.equalIn
  rw [eval_bind, eval_underlying ht]
  simp only [Option.bind_some]
  rw [eval_bind]
  show (some P).bind _ = _
  simp only [Option.bind_some, hs, Bool.false_eq_true, if_false]
  have key := eqLoop (P := P) (n := n) (X := X) (Y := Y) fs.toList 0 b (by simpa using hx) (by simpa using he)
  rw [Array.forIn_toList] at key
  rw [eval_bind]
  show (eval? P (forIn fs (none, ()) (eqBody n X.toArray Y.toArray))).bind _ = _
  rw [key]
  cases b <;> rfl
/-- Structs of plain cells are compared so. -/
def flatT (P : Program) (t : TypeId) (xs : List V) : Bool := match P.underlying t with
  | some (.struct fs) => !(P.stoodInHeld t) && !(P.eqGuardType P.depth t) && fitsT P 0 fs.toList xs
  | _ => false
theorem equal_agg {t : TypeId} {xs ys : List V} {X Y : List Value} {b : Bool} (hx : litsOf xs = some X) (hy : litsOf ys = some Y) (hf : flatT P t xs = true) (he : eqLits xs ys = some b) : eval? P (Go.Op.equal t (.agg X.toArray) (.agg Y.toArray)) = some b := by
  unfold flatT at hf
  split at hf
  · rename_i fs ht
    simp only [Bool.and_eq_true, Bool.not_eq_true'] at hf
    have e1 := litsOf_get hx
    have e2 := litsOf_get hy
    rw [e1] at hf he
    rw [e2] at he
    exact equal_struct (n := 9998) ht hf.1.1 hf.2 he
  · cases hf
theorem eqGuard_agg {op : BinOp} {t : TypeId} {x y : Operand} {xs : List V} {X Y : Array Value} (hf : flatT P t xs = true) : eval? P (eqGuard op t x y (.agg X) (.agg Y)) = some () := by
  unfold flatT at hf
  split at hf
  · simp only [Bool.and_eq_true, Bool.not_eq_true'] at hf
    unfold eqGuard
    cases op <;> first
      | rfl
      | (simp only [Bool.not_true, Bool.false_eq_true, if_false]
         rw [eval_bind]
         show (some P).bind _ = _
         simp only [Option.bind_some]
         rw [eval_bind]
         show (some P).bind _ = _
         simp only [Option.bind_some, hf.1.2, Bool.not_false, if_true]
         rfl)
  · cases hf
theorem binX_aggE {t : TypeId} {x y : Operand} {xs ys : List V} {b : Bool} (hx : (litsOf xs).isSome = true) (hy : (litsOf ys).isSome = true) (hf : flatT P t xs = true) (he : eqLits xs ys = some b) : binX P .eql t x y (.agg xs) (.agg ys) = some (.lit (.bool b)) := by
  obtain ⟨X, h1⟩ := Option.isSome_iff_exists.1 hx
  obtain ⟨Y, h2⟩ := Option.isSome_iff_exists.1 hy
  simp only [binX, toVal, h1, h2, Option.map_some, Option.isSome_some, Bool.and_self, if_true, Option.getD_some]
  rw [eval_bind, eqGuard_agg hf, Option.bind_some]
  have e : (binOp .eql t (.agg X.toArray) (.agg Y.toArray) : Sem Value) = ((fun b => Value.bool b) <$> Go.Op.equal t (.agg X.toArray) (.agg Y.toArray)) := rfl
  rw [e, eval_map, equal_agg h1 h2 hf he]
  rfl
theorem binX_aggN {t : TypeId} {x y : Operand} {xs ys : List V} {b : Bool} (hx : (litsOf xs).isSome = true) (hy : (litsOf ys).isSome = true) (hf : flatT P t xs = true) (he : eqLits xs ys = some b) : binX P .neq t x y (.agg xs) (.agg ys) = some (.lit (.bool (!b))) := by
  obtain ⟨X, h1⟩ := Option.isSome_iff_exists.1 hx
  obtain ⟨Y, h2⟩ := Option.isSome_iff_exists.1 hy
  simp only [binX, toVal, h1, h2, Option.map_some, Option.isSome_some, Bool.and_self, if_true, Option.getD_some]
  rw [eval_bind, eqGuard_agg hf, Option.bind_some]
  have e : (binOp .neq t (.agg X.toArray) (.agg Y.toArray) : Sem Value) = ((fun b => Value.bool (!b)) <$> Go.Op.equal t (.agg X.toArray) (.agg Y.toArray)) := rfl
  rw [e, eval_map, equal_agg h1 h2 hf he]
  rfl
end
end Go.Proofs.Ytolbhpampnjinaa.Ev
/- The evaluator with what is told it beforehand: which way each test goes, what stands in a row, what a call answers; what is asked of these is gathered. Its answers are the evaluator's. No condition but those in each line. -/
namespace Go.Proofs.Ytolbhpampnjinaa.Ev
open Go Go.RowKit
set_option linter.unusedVariables false
set_option linter.unusedSimpArgs false

inductive O where
  | t (b : Bool)
  | k
  | row (n : Nat) (r : List V)
  | cell (r : List V)
  | put (r : List V) (R : List (List V))
  | num (l h n : Nat) (R : List (List V))
  | app (m : List (List V)) (lb : Bool) (R : List (List V)) (n : Nat)
  | mk (n : Nat) (R : List (List V))
  | res (r : V) (os : List V)
  | val (v : V)
  | stop
  | enter
  | obl

def All : List Prop → Prop
  | [] => True
  | p :: ps => p ∧ All ps
theorem All.app {a b : List Prop} (h : All (a ++ b)) : All a ∧ All b := by
  induction a with
  | nil => exact ⟨trivial, h⟩
  | cons p a ih => exact ⟨⟨h.1, (ih h.2).1⟩, (ih h.2).2⟩
abbrev KM (α : Type) := List O → Option (α × List Prop × List O)
namespace KM
def ret {α : Type} (a : α) : KM α := fun q => some (a, [], q)
def bnd {α β : Type} (x : KM α) (f : α → KM β) : KM β := fun q => match x q with
  | some (a, o1, q1) => match f a q1 with
    | some (b, o2, q2) => some (b, o1 ++ o2, q2)
    | none => none
  | none => none
def opt {α : Type} (x : Option α) : KM α := fun q => match x with | some a => some (a, [], q) | none => none
/-- What is asked. -/
def obl (p : Prop) : KM Unit := fun q => some ((), [p], q)
/-- What is told. -/
def hear : KM O := fun q => match q with | o :: q => some (o, [], q) | [] => none
def fail {α : Type} : KM α := fun _ => none
end KM
def KS {α : Type} (x : KM α) (y : Option α) : Prop := ∀ q a obs q', x q = some (a, obs, q') → All obs → y = some a
/-- .. whatever is so of the answer. -/
def KP {α : Type} (x : KM α) (Q : α → Prop) : Prop := ∀ q a obs q', x q = some (a, obs, q') → All obs → Q a
section
variable {α β : Type}
theorem KS.kp {x : KM α} {y : Option α} (h : KS x y) : KP x (fun a => y = some a) := h
theorem KP.ks {x : KM α} {y : Option α} (h : KP x (fun a => y = some a)) : KS x y := h
theorem KP.mono {x : KM α} {Q Q' : α → Prop} (h : KP x Q) (hq : ∀ a, Q a → Q' a) : KP x Q' := fun q a obs q' e ho => hq a (h q a obs q' e ho)
theorem kp_ret {a : α} {Q : α → Prop} (h : Q a) : KP (KM.ret a) Q := fun q b obs q' e ho => by
  simp only [KM.ret, Option.some.injEq, Prod.mk.injEq] at e
  obtain ⟨rfl, _⟩ := e; exact h
theorem kp_fail {Q : α → Prop} : KP (KM.fail : KM α) Q := fun q b obs q' e ho => by cases e
theorem kp_bnd {x : KM α} {f : α → KM β} {Q : α → Prop} {R : β → Prop} (h : KP x Q) (hf : ∀ a, Q a → KP (f a) R) : KP (KM.bnd x f) R := fun q b obs q' e ho => by
  simp only [KM.bnd] at e
  split at e
  · rename_i a o1 q1 h1
    split at e
    · rename_i b' o2 q2 h2
      simp only [Option.some.injEq, Prod.mk.injEq] at e
      obtain ⟨rfl, rfl, rfl⟩ := e
      obtain ⟨a1, a2⟩ := ho.app
      exact hf a (h q a o1 q1 h1 a1) q1 b' o2 q2 h2 a2
    · cases e
  · cases e
theorem kp_opt {x : Option α} : KP (KM.opt x) (fun a => x = some a) := fun q b obs q' e ho => by
  simp only [KM.opt] at e
  split at e
  · simp only [Option.some.injEq, Prod.mk.injEq] at e
    obtain ⟨rfl, _⟩ := e; rfl
  · cases e
theorem kp_obl {p : Prop} : KP (KM.obl p) (fun _ => p) := fun q b obs q' e ho => by
  simp only [KM.obl, Option.some.injEq, Prod.mk.injEq] at e
  obtain ⟨_, rfl, _⟩ := e; exact ho.1
theorem kp_hear : KP KM.hear (fun _ => True) := fun _ _ _ _ _ _ => trivial
theorem kp_if {c : Prop} [Decidable c] {x y : KM α} {Q : α → Prop} (h1 : c → KP x Q) (h2 : ¬ c → KP y Q) : KP (if c then x else y) Q := by
  by_cases hc : c
  · rw [if_pos hc]; exact h1 hc
  · rw [if_neg hc]; exact h2 hc
theorem ks_ret {a : α} : KS (KM.ret a) (some a) := kp_ret rfl
theorem ks_bnd {x : KM α} {y : Option α} {f : α → KM β} {g : α → Option β} (h : KS x y) (hf : ∀ a, KS (f a) (g a)) : KS (KM.bnd x f) (y.bind g) :=
  kp_bnd h (fun a e q b obs q' e2 ho => by rw [e]; exact hf a q b obs q' e2 ho)
theorem ks_map {x : KM α} {y : Option α} {f : α → β} (h : KS x y) : KS (KM.bnd x fun a => KM.ret (f a)) (y.map f) :=
  kp_bnd h (fun a e => by rw [e]; exact kp_ret rfl)
theorem ks_opt {x : Option α} : KS (KM.opt x) x := kp_opt
end
open KM

/-! ### slices of the call's own -/
def offN : Nat → Nat → Nat
  | 0, n => n
  | m + 1, n => m + 1 + n
theorem offN_eq (m n : Nat) : offN m n = m + n := by cases m <;> simp [offN]
/-- The rows of a slice: all of its block's (k), or a part that is told. -/
def partK (rows : List (List V)) (off len : Nat) : KM (List (List V)) := bnd hear fun o => match o with
  | .k => match off with
    | 0 => bnd (obl (len = rows.length)) fun _ => ret rows
    | _ => fail
  | .mk _ R => bnd (obl (off + len ≤ rows.length)) fun _ => bnd (obl ((rows.drop off).take len = R)) fun _ => ret R
  | _ => fail
theorem partK_ok {rows : List (List V)} {off len : Nat} : KP (partK rows off len) (fun r => off + len ≤ rows.length ∧ r = (rows.drop off).take len) := by
  unfold partK
  refine kp_bnd kp_hear (fun o _ => ?_)
  split
  · split
    · refine kp_bnd kp_obl (fun _ h => kp_ret ⟨by omega, ?_⟩)
      rw [h]; simp
    · exact kp_fail
  · exact kp_bnd kp_obl (fun _ h1 => kp_bnd kp_obl (fun _ h2 => kp_ret ⟨h1, h2.symm⟩))
  · exact kp_fail
def rowsK (s : St) : V → KM (List (List V))
  | .sl id off len => match s.heap id with
    | some b => if b.box = false then partK b.rows off len else fail
    | none => fail
  | .tr rows | .vw rows => ret rows
  | .lit (.slice none 0 0) => ret []
  | _ => fail
theorem rowsK_ok {s : St} {x : V} : KS (rowsK s x) (s.rowsOf x) := by
  unfold rowsK
  split
  · rename_i id off len
    simp only [St.rowsOf]
    split
    · rename_i b hb
      refine kp_if (fun hx => ?_) (fun _ => kp_fail)
      rw [hb, Option.bind_some]
      refine partK_ok.mono fun r hr => ?_
      rw [if_pos ⟨hx, hr.1⟩, hr.2]
    · exact kp_fail
  · exact ks_ret
  · exact ks_ret
  · exact ks_ret
  · exact kp_fail
def wholeK (s : St) (id : Id) (off len : Nat) : KM (TypeId × List (List V)) :=
  match s.heap id with
  | some b => if b.box = false ∧ b.own = true ∧ b.cl = true then bnd (partK b.rows off len) fun r => ret (b.el, r) else fail
  | none => fail
theorem wholeK_ok {s : St} {id : Id} {off len : Nat} : KS (wholeK s id off len) (s.whole id off len) := by
  unfold wholeK St.whole
  split
  · rename_i b hb
    refine kp_if (fun hx => ?_) (fun _ => kp_fail)
    rw [hb, Option.bind_some]
    refine kp_bnd partK_ok (fun r hr => kp_ret ?_)
    rw [if_pos ⟨hx.1, hx.2.1, hx.2.2, hr.1⟩, hr.2]
  · exact kp_fail

/-! ### handing over -/
def rdCellK (s : St) : V → KM V
  | .lit (.slice none 0 0) => ret (.tr [])
  | .lit v => ret (.lit v)
  | .tr rows => ret (.tr rows)
  | .vw rows => ret (.tr rows)
  | .sl id off len => bnd (rowsK s (.sl id off len)) fun r => ret (.tr r)
  | .rp _ row off => ret (.rp true row off)
  | _ => fail
theorem rdCellK_ok {s : St} {x : V} : KS (rdCellK s x) (s.rdCell x) := by
  unfold rdCellK
  split
  · exact ks_ret
  · rename_i v hv
    have : s.rdCell (.lit v) = some (.lit v) := by
      unfold St.rdCell
      split <;> simp_all
    rw [this]; exact ks_ret
  · exact ks_ret
  · exact ks_ret
  · exact ks_map rowsK_ok
  · exact ks_ret
  · exact kp_fail
def rdCellsK (s : St) : List V → KM (List V)
  | [] => ret []
  | x :: r => bnd (rdCellK s x) fun y => bnd (rdCellsK s r) fun z => ret (y :: z)
theorem rdCellsK_ok {s : St} : ∀ {xs : List V}, KS (rdCellsK s xs) (s.rdCells xs) := by
  intro xs
  induction xs with
  | nil => exact ks_ret
  | cons x xs ih => exact ks_bnd rdCellK_ok fun y => ks_map ih
def rdPlaceK (s : St) : V → KM V
  | .ptr id i off => match s.heap id with
    | some b => if b.own = true then (match b.box, b.rows, i with
      | true, [row], 0 => bnd (rdCellsK s row) fun cs => ret (.rp true cs off)
      | _, _, _ => bnd hear fun o => match o with
        | .cell row => bnd (obl (b.rows[i]? = some row)) fun _ => bnd (rdCellsK s row) fun cs => ret (.rp true cs off)
        | _ => fail) else fail
    | none => fail
  | x => rdCellK s x
theorem rdPlaceK_ok {s : St} {x : V} : KS (rdPlaceK s x) (s.rdPlace x) := by
  unfold rdPlaceK
  split
  · rename_i id i off
    simp only [St.rdPlace]
    split
    · rename_i b hb
      refine kp_if (fun hx => ?_) (fun _ => kp_fail)
      rw [hb, Option.bind_some, if_pos hx]
      split
      · rename_i row h1 h2
        rw [h2]
        exact ks_map rdCellsK_ok
      · refine kp_bnd kp_hear (fun o _ => ?_)
        split
        · refine kp_bnd kp_obl (fun _ h => ?_)
          rw [h]
          exact ks_map rdCellsK_ok
        · exact kp_fail
    · exact kp_fail
  · rename_i _ hx
    have : s.rdPlace x = s.rdCell x := by
      unfold St.rdPlace
      split <;> simp_all
    rw [this]; exact rdCellK_ok
def rdPlacesK (s : St) : List V → KM (List V)
  | [] => ret []
  | x :: r => bnd (rdPlaceK s x) fun y => bnd (rdPlacesK s r) fun z => ret (y :: z)
theorem rdPlacesK_ok {s : St} : ∀ {xs : List V}, KS (rdPlacesK s xs) (s.rdPlaces xs) := by
  intro xs
  induction xs with
  | nil => exact ks_ret
  | cons x xs ih => exact ks_bnd rdPlaceK_ok fun y => ks_map ih
def rdArgK (s : St) : V → KM V
  | .agg cs => bnd (rdCellsK s cs) fun y => ret (.agg y)
  | .fn f caps => bnd (rdPlacesK s caps) fun y => ret (.fn f y)
  | x => rdPlaceK s x
theorem rdArgK_ok {s : St} {x : V} : KS (rdArgK s x) (s.rdArg x) := by
  unfold rdArgK
  split
  · exact ks_map rdCellsK_ok
  · exact ks_map rdPlacesK_ok
  · rename_i _ h1 h2
    have : s.rdArg x = s.rdPlace x := by
      unfold St.rdArg
      split <;> simp_all
    rw [this]; exact rdPlaceK_ok
def rdAllK (s : St) : List Mode → List V → KM (List V)
  | _, [] => ret []
  | ms, x :: r => bnd (match ms.headD .rd with | .rd => rdArgK s x | _ => ret x) fun y => bnd (rdAllK s ms.tail r) fun z => ret (y :: z)
theorem rdAllK_ok {s : St} : ∀ {xs : List V} {ms : List Mode}, KS (rdAllK s ms xs) (s.rdAll ms xs) := by
  intro xs
  induction xs with
  | nil => intro ms; exact ks_ret
  | cons x xs ih =>
    intro ms
    simp only [rdAllK, St.rdAll]
    refine ks_bnd ?_ fun y => ks_map ih
    unfold St.rdArgM
    cases ms.headD .rd <;> simp only <;> first | exact rdArgK_ok | exact ks_ret
def giveCellK (s : St) (t : Option TypeId) : V → KM (V × St)
  | .lit (.slice none 0 0) => bnd (opt t) fun e => ret (.own e [], s)
  | .lit v => ret (.lit v, s)
  | .tr rows => ret (.tr rows, s)
  | .vw rows => ret (.tr rows, s)
  | .sl id off len => bnd (wholeK s id off len) fun er => ret (.own er.1 er.2, s.kill id)
  | _ => fail
theorem giveCellK_ok {s : St} {t : Option TypeId} {x : V} : KS (giveCellK s t x) (s.giveCell t x) := by
  unfold giveCellK
  split
  · exact ks_map ks_opt
  · rename_i v hv
    have : s.giveCell t (.lit v) = some (.lit v, s) := by
      unfold St.giveCell
      split <;> simp_all
    rw [this]; exact ks_ret
  · exact ks_ret
  · exact ks_ret
  · exact ks_map wholeK_ok
  · exact kp_fail
def giveCellsK : List (Option TypeId) → List V → (s : St) → KM (List V × St)
  | _, [], s => ret ([], s)
  | ts, x :: r, s => bnd (giveCellK s (ts.headD none) x) fun y => bnd (giveCellsK ts.tail r y.2) fun z => ret (y.1 :: z.1, z.2)
theorem giveCellsK_ok : ∀ {xs : List V} {s : St} {ts : List (Option TypeId)}, KS (giveCellsK ts xs s) (s.giveCells ts xs) := by
  intro xs
  induction xs with
  | nil => intro s ts; exact ks_ret
  | cons x xs ih => intro s ts; exact ks_bnd giveCellK_ok fun y => ks_map ih
def giveArgK (s : St) (ts : List (Option TypeId)) : V → KM (V × St)
  | .agg cs => bnd (giveCellsK ts cs s) fun y => ret (.agg y.1, y.2)
  | x => giveCellK s (ts.headD none) x
theorem giveArgK_ok {s : St} {ts : List (Option TypeId)} {x : V} : KS (giveArgK s ts x) (s.giveArg ts x) := by
  unfold giveArgK
  split
  · exact ks_map giveCellsK_ok
  · rename_i _ h1
    have : s.giveArg ts x = s.giveCell (ts.headD none) x := by
      unfold St.giveArg
      split <;> simp_all
    rw [this]; exact giveCellK_ok
def giveBoxK (s : St) (ts : List (Option TypeId)) (id : Id) : KM (List V × St) :=
  match s.heap id with
  | some b => if b.box = true ∧ b.own = true then (match b.rows with
    | [row] => giveCellsK ts row (s.kill id)
    | _ => fail) else fail
  | none => fail
theorem giveBoxK_ok {s : St} {ts : List (Option TypeId)} {id : Id} : KS (giveBoxK s ts id) (s.giveBox ts id) := by
  unfold giveBoxK St.giveBox
  split
  · rename_i b hb
    refine kp_if (fun hx => ?_) (fun _ => kp_fail)
    rw [hb, Option.bind_some, if_pos hx]
    split
    · rename_i row hrow
      rw [hrow]
      exact giveCellsK_ok
    · exact kp_fail
  · exact kp_fail
/-- Of a slice that is written in place it is told whether it is empty. -/
def thin1K : V → KM V
  | .sl id off len => bnd hear fun o => match o with
    | .t true => bnd (obl (len = 0)) fun _ => ret (.tr [])
    | .t false => bnd (obl (len ≠ 0)) fun _ => ret (.sl id off len)
    | _ => fail
  | x => ret x
theorem thin1K_ok {x : V} : KP (thin1K x) (fun y => thin1 x = y) := by
  cases x with
  | sl id off len =>
    refine kp_bnd kp_hear (fun o _ => ?_)
    cases o with
    | t b => cases b with
      | true => exact kp_bnd kp_obl (fun _ h => kp_ret (by subst h; rfl))
      | false => exact kp_bnd kp_obl (fun _ h => kp_ret (by cases len with | zero => exact absurd rfl h | succ n => rfl))
    | _ => exact kp_fail
  | _ => exact kp_ret rfl
def thinsK : List V → KM (List V)
  | [] => ret []
  | x :: xs => bnd (thin1K x) fun y => bnd (thinsK xs) fun ys => ret (y :: ys)
theorem thinsK_ok : ∀ {xs : List V}, KP (thinsK xs) (fun ys => xs.map thin1 = ys) := by
  intro xs
  induction xs with
  | nil => exact kp_ret rfl
  | cons x xs ih => exact kp_bnd thin1K_ok (fun y hy => kp_bnd ih (fun ys hys => kp_ret (by rw [← hy, ← hys]; rfl)))
def thinK : V → KM V
  | .agg cs => bnd (thinsK cs) fun ys => ret (.agg ys)
  | x => thin1K x
theorem thinK_ok {x : V} : KP (thinK x) (fun y => thin x = y) := by
  cases x with
  | agg cs => exact kp_bnd thinsK_ok (fun ys h => kp_ret (by rw [← h]; rfl))
  | _ => simp only [thinK, thin]; exact thin1K_ok
def giveK (ts : List (Option TypeId)) (m : Mode) (x : V) (s : St) : KM (V × St) :=
  match m with
  | .rd => ret (x, s)
  | .io => match x with
    | .ptr id 0 0 => bnd (giveBoxK s ts id) fun y => ret (.agg y.1, y.2)
    | _ => fail
  | .mv => giveArgK s ts x
  | .iov => bnd (thinK x) fun y => giveArgK s ts y
theorem giveK_ok {s : St} {ts : List (Option TypeId)} {m : Mode} {x : V} : KS (giveK ts m x s) (s.give ts m x) := by
  unfold giveK St.give
  cases m
  · exact ks_ret
  · simp only
    split
    · exact ks_map giveBoxK_ok
    · exact kp_fail
  · exact giveArgK_ok
  · refine kp_bnd thinK_ok (fun y hy => ?_)
    rw [← hy]
    exact giveArgK_ok
def backK (s : St) (m : Mode) (e k : Nat) (x o : V) : KM St := match m with
  | .iov => bnd (thinK x) fun y => opt (match y, o with
    | .agg cs, .agg ns => s.backCells cs ns
    | x, o => s.backCells [x] [o])
  | .rd => ret s
  | .mv => ret s
  | .io => opt (s.back .io e k x o)
theorem backK_ok {s : St} {m : Mode} {e k : Nat} {x o : V} : KS (backK s m e k x o) (s.back m e k x o) := by
  cases m
  · exact ks_ret
  · exact ks_opt
  · exact ks_ret
  · simp only [backK, St.back]
    refine kp_bnd thinK_ok (fun y hy => ?_)
    rw [hy]
    exact ks_opt
def backsK (e : Nat) : List Mode → (k : Nat) → List V → List V → (s : St) → KM St
  | _, _, [], _, s => ret s
  | ms, k, x :: xs, o :: os, s => bnd (backK s (ms.headD .rd) e k x o) fun s => backsK e ms.tail (k + 1) xs os s
  | _, _, _ :: _, [], _ => fail
theorem backsK_ok {e : Nat} : ∀ {xs : List V} {s : St} {ms : List Mode} {k : Nat} {os : List V}, KS (backsK e ms k xs os s) (s.backs e ms k xs os) := by
  intro xs
  induction xs with
  | nil => intro s ms k os; exact ks_ret
  | cons x xs ih =>
    intro s ms k os
    cases os with
    | nil => exact kp_fail
    | cons o os => exact ks_bnd backK_ok fun s => ih
def givesK (P : Program) : List TypeId → List Mode → List V → (s : St) → KM (List V × St)
  | _, _, [], s => ret ([], s)
  | ts, ms, x :: r, s => bnd (giveK (argTys P (ts.headD 0)) (ms.headD .rd) x s) fun y => bnd (givesK P ts.tail ms.tail r y.2) fun z => ret (y.1 :: z.1, z.2)
theorem givesK_ok {P : Program} : ∀ {xs : List V} {s : St} {ts : List TypeId} {ms : List Mode}, KS (givesK P ts ms xs s) (s.gives P ts ms xs) := by
  intro xs
  induction xs with
  | nil => intro s ts ms; exact ks_ret
  | cons x xs ih => intro s ts ms; exact ks_bnd giveK_ok fun y => ks_map ih
def sinkK : List V → (s : St) → KM (List V × Bool × St)
  | [], s => ret ([], true, s)
  | x :: r, s =>
    match x with
    | .lit (.slice none 0 0) => bnd (sinkK r s) fun y => ret (.tr [] :: y.1, y.2)
    | .lit v => bnd (sinkK r s) fun y => ret (.lit v :: y.1, y.2)
    | .tr rows | .vw rows => bnd (sinkK r s) fun y => ret (.tr rows :: y.1, false, y.2.2)
    | .sl id off len => match s.heap id with
      | some b => if b.own = true ∧ b.box = false ∧ b.cl = true then bnd (wholeK s id off len) fun er => bnd (sinkK r (s.kill id)) fun y => ret (.tr er.2 :: y.1, y.2)
        else if b.own = false then bnd (rowsK s (.sl id off len)) fun rows => bnd (sinkK r s) fun y => ret (.tr rows :: y.1, false, y.2.2) else fail
      | none => fail
    | _ => fail
def sinkRowsK : List (List V) → (s : St) → KM (List (List V) × Bool × St)
  | [], s => ret ([], true, s)
  | row :: r, s => bnd (sinkK row s) fun y => bnd (sinkRowsK r y.2.2) fun z => ret (y.1 :: z.1, y.2.1 && z.2.1, z.2.2)
theorem sinkK_ok : ∀ {xs : List V} {s : St}, KS (sinkK xs s) (s.sink xs) := by
  intro xs
  induction xs with
  | nil => intro s; exact ks_ret
  | cons x xs ih =>
    intro s
    unfold sinkK
    split
    · exact ks_map ih
    · rename_i v hv
      have : s.sink (.lit v :: xs) = (s.sink xs).map fun y => (.lit v :: y.1, y.2) := by
        conv => lhs; unfold St.sink
        split <;> simp_all
      rw [this]; exact ks_map ih
    · exact ks_map ih
    · exact ks_map ih
    · rename_i id off len
      simp only [St.sink]
      split
      · rename_i b hb
        refine kp_if (fun hx => ?_) (fun hn => kp_if (fun ho => ?_) (fun _ => kp_fail))
        · refine kp_bnd wholeK_ok (fun er he => ?_)
          rw [he]
          exact ks_map ih
        · refine kp_bnd rowsK_ok (fun rows hr => ?_)
          have hw : s.whole id off len = none := by
            unfold St.whole
            rw [hb, Option.bind_some, if_neg (fun h => by rw [ho] at h; cases h.2.1)]
          simp only [hw, hb, ho, if_true]
          rw [hr, Option.bind_some]
          exact ks_map ih
      · exact kp_fail
    · exact kp_fail
theorem sinkRowsK_ok : ∀ {xs : List (List V)} {s : St}, KS (sinkRowsK xs s) (s.sinkRows xs) := by
  intro xs
  induction xs with
  | nil => intro s; exact ks_ret
  | cons x xs ih => intro s; exact ks_bnd sinkK_ok fun y => ks_map ih
end Go.Proofs.Ytolbhpampnjinaa.Ev
/- The told evaluator: operations, regions. Its answers are the evaluator's. No condition but those in each line. -/
namespace Go.Proofs.Ytolbhpampnjinaa.Ev
open Go Go.RowKit KM
set_option linter.unusedVariables false
set_option linter.unusedSimpArgs false
section
variable {P : Program} {M : Hints}

/-! ### handing back -/
def liftOneK (ts : List (Option TypeId)) (x : V) (s : St) : KM (V × St) :=
  match x with
  | .agg cs => bnd (giveCellsK ts cs s) fun y => ret (.agg y.1, y.2)
  | .ptr id 0 0 => bnd (giveBoxK s ts id) fun y => ret (.obx y.1, y.2)
  | x => giveCellK s (ts.headD none) x
theorem liftOneK_ok {s : St} {ts : List (Option TypeId)} {x : V} : KS (liftOneK ts x s) (s.liftOne ts x) := by
  unfold liftOneK
  split
  · exact ks_map giveCellsK_ok
  · exact ks_map giveBoxK_ok
  · rename_i _ h1 h2
    have : s.liftOne ts x = s.giveCell (ts.headD none) x := by
      unfold St.liftOne
      split <;> simp_all
    rw [this]; exact giveCellK_ok
def liftAllK (P : Program) : List TypeId → List V → (s : St) → KM (List V × St)
  | _, [], s => ret ([], s)
  | ts, x :: r, s => bnd (liftOneK (argTys P (ts.headD 0)) x s) fun y => bnd (liftAllK P ts.tail r y.2) fun z => ret (y.1 :: z.1, z.2)
theorem liftAllK_ok : ∀ {xs : List V} {s : St} {ts : List TypeId}, KS (liftAllK P ts xs s) (s.liftAll P ts xs) := by
  intro xs
  induction xs with
  | nil => intro s ts; exact ks_ret
  | cons x xs ih => intro s ts; exact ks_bnd liftOneK_ok fun y => ks_map ih
/-- The slice that came in, as it goes back. -/
def outCellsK (p : Nat) : (k : Nat) → List V → (s : St) → KM (List V × St)
  | _, [], s => ret ([], s)
  | k, x :: r, s => match x with
    | .own e rows => bnd (wholeK s (0, 64 * p + k) 0 rows.length) fun er => if er.1 = e then bnd (outCellsK p (k + 1) r (s.kill (0, 64 * p + k))) fun z => ret (.own er.1 er.2 :: z.1, z.2) else fail
    | _ => bnd (outCellsK p (k + 1) r s) fun z => ret (.undef :: z.1, z.2)
theorem outCellsK_ok {p : Nat} : ∀ {xs : List V} {k : Nat} {s : St}, KS (outCellsK p k xs s) (s.outCells p k xs) := by
  intro xs
  induction xs with
  | nil => intro k s; exact ks_ret
  | cons x xs ih =>
    intro k s
    cases x with
    | own e rows =>
      simp only [outCellsK, St.outCells]
      refine kp_bnd wholeK_ok (fun er he => ?_)
      rw [he, Option.bind_some]
      refine kp_if (fun hx => ?_) (fun _ => kp_fail)
      rw [if_pos hx]
      exact ks_map ih
    | _ =>
      simp only [outCellsK, St.outCells]
      exact ks_map ih
def outK (p : Nat) (ts : List (Option TypeId)) (m : Mode) (x : V) (s : St) : KM (V × St) :=
  match m with
  | .rd | .mv => ret (.undef, s)
  | .io => match x with
    | .agg cs => bnd (giveBoxK s ts (0, 64 * p + 63)) fun y => if y.1.length = cs.length then ret (.agg y.1, y.2) else fail
    | _ => fail
  | .iov => match x with
    | .agg cs => bnd (outCellsK p 0 cs s) fun y => ret (.agg y.1, y.2)
    | x => bnd (outCellsK p 0 [x] s) fun y => bnd (opt y.1.head?) fun v => ret (v, y.2)
theorem outK_ok {s : St} {p : Nat} {ts : List (Option TypeId)} {m : Mode} {x : V} : KS (outK p ts m x s) (s.out p ts m x) := by
  cases m
  · exact ks_ret
  · cases x with
    | agg cs =>
      simp only [outK, St.out]
      refine kp_bnd giveBoxK_ok (fun y hy => ?_)
      rw [hy]
      simp only [Option.bind_some]
      refine kp_if (fun hx => ?_) (fun _ => kp_fail)
      rw [if_pos hx]
      exact kp_ret rfl
    | _ => exact kp_fail
  · exact ks_ret
  · cases x with
    | agg cs => exact ks_map outCellsK_ok
    | _ => simp only [outK, St.out]; exact ks_bnd outCellsK_ok fun y => ks_map ks_opt
def outsK (P : Program) : (p : Nat) → List TypeId → List Mode → List V → (s : St) → KM (List V)
  | _, _, _, [], s => ret []
  | p, ts, ms, x :: r, s => bnd (outK p (argTys P (ts.headD 0)) (ms.headD .rd) x s) fun y => bnd (outsK P (p + 1) ts.tail ms.tail r y.2) fun z => ret (y.1 :: z)
theorem outsK_ok : ∀ {xs : List V} {s : St} {p : Nat} {ts : List TypeId} {ms : List Mode}, KS (outsK P p ts ms xs s) (s.outs P p ts ms xs) := by
  intro xs
  induction xs with
  | nil => intro s p ts ms; exact ks_ret
  | cons x xs ih => intro s p ts ms; exact ks_bnd outK_ok fun y => ks_map ih
def retK (P : Program) (M : Hints) (f : FuncId) (fn : Func) (xs : List V) (s : St) : KM (V × List V) :=
  bnd (opt (resV P s fn.results.toList)) fun vs => bnd (liftAllK P fn.resultTypes.toList vs s) fun z => bnd (outsK P 0 fn.params.toList (M.modes f) xs z.2) fun os => ret (oneOrV z.1, os)
theorem retK_ok {f : FuncId} {fn : Func} {xs : List V} {s : St} : KS (retK P M f fn xs s) ((resV P s fn.results.toList).bind fun vs => (s.liftAll P fn.resultTypes.toList vs).bind fun z => (z.2.outs P 0 fn.params.toList (M.modes f) xs).map fun os => (oneOrV z.1, os)) :=
  ks_bnd ks_opt fun vs => ks_bnd liftAllK_ok fun z => ks_map outsK_ok

/-! ### calls -/
def callK (P : Program) (M : Hints) (s : St) (k : Nat) (g : FuncId) (args : List V) : KM (V × St) :=
  if args.length ≤ 8 then bnd (givesK P (((P.funcs[g]?).map (·.params.toList)).getD []) (M.modes g) args s) fun y => bnd (rdAllK y.2 (M.modes g) y.1) fun xs => bnd hear fun o => match o with
    | .res r os => bnd (obl (Fine P M (g, xs, r, os))) fun _ => if ((hasTr r || os.any hasTr1) && !plains (M.modes g) args) = true then fail else
      bnd (backsK s.ep (M.modes g) (16 * k + 8) args os y.2) fun s' => opt (s'.takeRes s.ep (16 * k) r)
    | _ => fail
  else fail
theorem callK_ok (hP : FuncsOk P) {s : St} {k : Nat} {g : FuncId} {args : List V} : KP (callK P M s k g args) (fun y => ∃ C, CallsOk P M C ∧ evCall P M C s k g args = some y) := by
  unfold callK
  refine kp_if (fun h8 => ?_) (fun _ => kp_fail)
  refine kp_bnd givesK_ok (fun y hy => kp_bnd rdAllK_ok (fun xs hx => kp_bnd kp_hear (fun o _ => ?_)))
  split
  · rename_i r os
    refine kp_bnd kp_obl (fun _ hf => kp_if (fun _ => kp_fail) (fun ht => kp_bnd backsK_ok (fun s' hs => kp_opt.mono fun z hz => ⟨one (g, xs, r, os), one_ok hP hf, ?_⟩)))
    unfold evCall
    rw [if_pos h8, hy, Option.bind_some, hx, Option.bind_some]
    have h1 : one (g, xs, r, os) g xs = some (r, os) := by unfold one; rw [if_pos ⟨rfl, rfl⟩]
    rw [h1, Option.bind_some]
    simp only
    rw [if_neg ht, hs, Option.bind_some, hz]
  · exact kp_fail

/-! ### append -/
def movedK (s : St) (all : Bool) (x : V) (m : List (List V)) (lb : Bool) : KM St :=
  match x with
  | .sl id off len => if id.1 = s.ep ∨ all = true then (if lb = true then bnd (wholeK s id off len) fun er => bnd (obl (er.2 = m)) fun _ => ret (s.kill id) else fail)
    else bnd (rowsK s x) fun rows => bnd (obl (rows = m)) fun _ => bnd (obl (litRows m = lb)) fun _ => ret s
  | x => bnd (rowsK s x) fun rows => bnd (obl (rows = m)) fun _ => bnd (obl (litRows m = lb)) fun _ => ret s
theorem movedK_ok {s : St} {all : Bool} {x : V} {m : List (List V)} {lb : Bool} : KP (movedK s all x m lb) (fun s1 => s.moved all x = some (m, lb, s1)) := by
  unfold movedK
  split
  · rename_i id off len
    simp only [St.moved]
    refine kp_if (fun hx => kp_if (fun hl => ?_) (fun _ => kp_fail)) (fun hn => ?_)
    · refine kp_bnd wholeK_ok (fun er he => kp_bnd kp_obl (fun _ hm => kp_ret ?_))
      rw [if_pos hx, he, hl]
      simp only [hm]
    · refine kp_bnd rowsK_ok (fun rows hr => kp_bnd kp_obl (fun _ hm => kp_bnd kp_obl (fun _ hl => kp_ret ?_)))
      rw [if_neg hn, hr]
      simp only [Option.map_some, hm, hl]
  · rename_i _ hne
    refine kp_bnd rowsK_ok (fun rows hr => kp_bnd kp_obl (fun _ hm => kp_bnd kp_obl (fun _ hl => kp_ret ?_)))
    have : s.moved all x = (s.rowsOf x).map fun rows => (rows, litRows rows, s) := by
      unfold St.moved
      split <;> simp_all
    rw [this, hr]
    simp only [Option.map_some, hm, hl]
def appK (P : Program) (all : Bool) (s : St) (id : Id) (t : TypeId) (b x : V) : KM (V × St) :=
  bnd (opt (elemT P t)) fun e => bnd hear fun o => match o with
  | .app m lb R n => bnd (movedK s all x m lb) fun s1 => if sizeT P e ≠ 0 ∧ zeroOk P e = true then bnd (obl (allLen (sizeT P e) m = true)) fun _ =>
    match b with
    | .lit (.slice none 0 0) => bnd (obl (m.length * P.bytesOf e ≤ 140737488355328 ∧ m.length ≤ 9223372036854775807)) fun _ => bnd (obl (m = R)) fun _ => bnd (obl (n = R.length)) fun _ => ret (.sl id 0 n, s1.setB id ⟨false, true, lb, e, R⟩)
    | .sl i 0 len => match s1.heap i with
      | some k => if k.box = false ∧ k.own = true ∧ k.el = e then bnd (obl (len = k.rows.length)) fun _ => bnd (obl ((len + m.length) * P.bytesOf e ≤ 140737488355328 ∧ len + m.length ≤ 9223372036854775807)) fun _ =>
          bnd (obl (k.rows ++ m = R)) fun _ => bnd (obl (n = R.length)) fun _ => ret (.sl id 0 n, (s1.kill i).setB id ⟨false, true, k.cl && lb, e, R⟩) else fail
      | none => fail
    | _ => fail
    else fail
  | _ => fail
theorem appK_ok {all : Bool} {s : St} {id : Id} {t : TypeId} {b x : V} : KS (appK P all s id t b x) (evAppend P all s id t b x) := by
  unfold appK evAppend
  refine ks_bnd ks_opt fun e => kp_bnd kp_hear (fun o _ => ?_)
  split
  · rename_i m lb R n
    refine kp_bnd movedK_ok (fun s1 hm => kp_if (fun hz => kp_bnd kp_obl (fun _ ha => ?_)) (fun _ => kp_fail))
    rw [hm, Option.bind_some, if_pos ⟨ha, hz.1, hz.2⟩]
    split
    · refine kp_bnd kp_obl (fun _ h1 => kp_bnd kp_obl (fun _ h2 => kp_bnd kp_obl (fun _ h3 => kp_ret ?_)))
      rw [if_pos h1, h3, h2]
      rfl
    · rename_i i len
      simp only
      split
      · rename_i k hk
        refine kp_if (fun hx => ?_) (fun _ => kp_fail)
        refine kp_bnd kp_obl (fun _ h0 => kp_bnd kp_obl (fun _ h1 => kp_bnd kp_obl (fun _ h2 => kp_bnd kp_obl (fun _ h3 => kp_ret ?_))))
        rw [hk, Option.bind_some, if_pos ⟨hx.1, hx.2.1, by omega, hx.2.2, h1⟩, h3, ← h2, List.drop_zero, List.length_append, h0]
      · exact kp_fail
    · exact kp_fail
  · exact kp_fail

/-! ### operations -/
def testK (c : Bool) : KM Bool := bnd hear fun o => match o with
  | .t e => bnd (obl (c = e)) fun _ => ret e
  | .k => ret c
  | _ => fail
theorem testK_ok {c : Bool} : KP (testK c) (fun e => c = e) := by
  unfold testK
  refine kp_bnd kp_hear (fun o _ => ?_)
  split
  · exact kp_bnd kp_obl (fun _ h => kp_ret h)
  · exact kp_ret rfl
  · exact kp_fail
/-- What an integer operation asks of its right side. -/
def rightK (p : Prop) [Decidable p] : KM Unit := bnd hear fun o => match o with
  | .k => if p then ret () else fail
  | .obl => obl p
  | _ => fail
theorem rightK_ok {p : Prop} [Decidable p] : KP (rightK p) (fun _ => p) := by
  unfold rightK
  refine kp_bnd kp_hear (fun o _ => ?_)
  split
  · exact kp_if (fun h => kp_ret h) (fun _ => kp_fail)
  · exact kp_obl
  · exact kp_fail
def binIK (op : BinOp) (k k' : IntKind) (a b : Int) : KM V :=
  match op with
  | .shl => bnd (rightK (0 ≤ b)) fun _ => ret (.lit (.int k (k.wrap (a * 2 ^ min b.toNat k.bits))))
  | .shr => bnd (rightK (0 ≤ b)) fun _ => ret (.lit (.int k (a.fdiv (2 ^ min b.toNat k.bits))))
  | .quo => if k = k' then bnd (rightK (b ≠ 0)) fun _ => ret (.lit (.int k (k.wrap (a.tdiv b)))) else fail
  | .rem => if k = k' then bnd (rightK (b ≠ 0)) fun _ => ret (.lit (.int k (a.tmod b))) else fail
  | op => opt (binI op k k' a b)
theorem binIK_ok {op : BinOp} {k k' : IntKind} {a b : Int} : KS (binIK op k k' a b) (binI op k k' a b) := by
  unfold binIK
  split
  · refine kp_bnd rightK_ok (fun _ h => kp_ret ?_)
    simp only [binI]; rw [if_neg (by omega)]
  · refine kp_bnd rightK_ok (fun _ h => kp_ret ?_)
    simp only [binI]; rw [if_neg (by omega)]
  · refine kp_if (fun hk => kp_bnd rightK_ok (fun _ h => kp_ret ?_)) (fun _ => kp_fail)
    simp only [binI]; rw [if_pos hk, if_neg h]
  · refine kp_if (fun hk => kp_bnd rightK_ok (fun _ h => kp_ret ?_)) (fun _ => kp_fail)
    simp only [binI]; rw [if_pos hk, if_neg h]
  · exact ks_opt
def binSK (op : BinOp) (a b : ByteArray) : KM V :=
  match op with
  | .add => bnd (rightK (¬ ((a.size + b.size : Nat) : Int) > IntKind.i64.max)) fun _ => ret (.lit (.string (a ++ b)))
  | op => opt (binS op a b)
theorem binSK_ok {op : BinOp} {a b : ByteArray} : KS (binSK op a b) (binS op a b) := by
  unfold binSK
  split
  · refine kp_bnd rightK_ok (fun _ h => kp_ret ?_)
    simp only [binS]; rw [if_neg h]
  · exact ks_opt
def opK (P : Program) (M : Hints) (f : Operand → V) (s : St) (k : Nat) (o : Oper) : KM (V × St) :=
  match o.op with
  | .binOp op t x y yt => match f x, f y with
    | .lit (.int k1 a), .lit (.int k2 b) => bnd (binIK op k1 k2 a b) fun v => ret (v, s)
    | .lit (.string a), .lit (.string b) => bnd (binSK op a b) fun v => ret (v, s)
    | .lit (.bool a), .lit (.bool b) => match op, P.underlying t with
      | .eql, some .bool => ret (.lit (.bool (a == b)), s)
      | .neq, some .bool => ret (.lit (.bool (a != b)), s)
      | _, _ => fail
    | .agg xs, .agg ys => if (litsOf xs).isSome = true ∧ (litsOf ys).isSome = true ∧ flatT P t xs = true then bnd (opt (eqLits xs ys)) fun b => match op with
      | .eql => ret (.lit (.bool b), s)
      | .neq => ret (.lit (.bool (!b)), s)
      | _ => fail
      else fail
    | _, _ => opt (evOpV P M none0 f s k o)
  | .buildSlice t n parts => bnd (opt (elemT P t)) fun e => bnd (opt (if n * sizeT P e = 0 then some [] else zeroT P e)) fun z =>
    if sizeT P e = 0 ∨ n * sizeT P e > 1048576 ∨ zeroOk P e = false then fail else
    bnd (opt (fillV P (fun i => some (i * sizeT P e, sizeT P e)) (List.replicate n z).flatten (parts.toList.map fun p => (p.1, f p.2)))) fun cs =>
      bnd (sinkRowsK (chunk (sizeT P e) n cs) s) fun y => ret (.sl (s.ep, 1024 * k) 0 n, y.2.2.setB (s.ep, 1024 * k) ⟨false, true, y.2.1, e, y.1⟩)
  | .pick c a b => match f c with
    | .lit (.bool t) => bnd (testK t) fun e => if e then ret (f a, s) else ret (f b, s)
    | _ => fail
  | .indexAddr t x ix => bnd (opt (elemT P t)) fun e => if sizeT P e = 0 then fail else bnd hear fun q => match q with
    | .row n r => if r.length = sizeT P e then bnd (obl (natOf (f ix) = some n)) fun _ => match f x with
      | .sl i off len => bnd (obl (n < len)) fun _ => match s.heap i with
        | some b => bnd (obl (b.rows[offN off n]? = some r)) fun _ => ret (.ptr i (offN off n) 0, s)
        | none => fail
      | .tr rows => bnd (obl (rows[n]? = some r)) fun _ => ret (.rp true r 0, s)
      | .vw rows => bnd (obl (rows[n]? = some r)) fun _ => ret (.rp false r 0, s)
      | _ => fail
      else fail
    | _ => fail
  | .load t a => match f a with
    | .ptr i j n => match s.heap i with
      | some b => match b.box with
        | true => opt (evOpV P M none0 f s k o)
        | false => bnd hear fun q => match q with
          | .cell row => bnd (obl (b.rows[j]? = some row)) fun _ => if n + sizeT P t ≤ row.length then bnd (opt (ofCells P t ((row.drop n).take (sizeT P t)))) fun v => ret (v, s) else fail
          | _ => fail
      | none => fail
    | _ => opt (evOpV P M none0 f s k o)
  | .store t a x => match f a with
    | .ptr i j n => match s.heap i with
      | some b => match b.box with
        | true => opt (evOpV P M none0 f s k o)
        | false => bnd hear fun q => match q with
          | .put row R => bnd (obl (b.rows[j]? = some row)) fun _ => bnd (opt (cellsV (f x))) fun cs => if b.own = true ∧ cs.length = sizeT P t ∧ n + sizeT P t ≤ row.length ∧ sizeT P t ≠ 0 then
              bnd (sinkK cs s) fun y => match y.2.2.heap i with
                | some b => bnd (obl (b.rows.set j (setAt row n y.1) = R)) fun _ => ret (.undef, y.2.2.setB i ⟨b.box, b.own, b.cl && y.2.1, b.el, R⟩)
                | none => fail
              else fail
          | _ => fail
      | none => fail
    | _ => fail
  | .slice t x lo hi none => match f x with
    | .sl id off len => bnd hear fun q => match q with
      | .num l h n R => bnd (opt (elemT P t)) fun e => bnd (rowsK s (f x)) fun rows => bnd (obl (match lo with | some z => natOf (f z) = some l | none => l = 0)) fun _ => bnd (obl (match hi with | some z => natOf (f z) = some h | none => rows.length = h)) fun _ =>
        bnd (obl (l ≤ h ∧ h ≤ rows.length)) fun _ => bnd (obl (allLen (sizeT P e) rows = true)) fun _ => bnd (obl (n = h - l)) fun _ => if sizeT P e ≠ 0 then ret (.sl id (offN off l) n, s) else fail
      | _ => fail
    | .tr _ | .vw _ => bnd hear fun q => match q with
      | .num l h n R => bnd (opt (elemT P t)) fun e => bnd (rowsK s (f x)) fun rows => bnd (obl (match lo with | some z => natOf (f z) = some l | none => l = 0)) fun _ => bnd (obl (match hi with | some z => natOf (f z) = some h | none => rows.length = h)) fun _ =>
        bnd (obl (l ≤ h ∧ h ≤ rows.length)) fun _ => bnd (obl (allLen (sizeT P e) rows = true)) fun _ => bnd (obl ((rows.drop l).take (h - l) = R)) fun _ => if sizeT P e ≠ 0 then ret ((match f x with | .tr _ => .tr R | _ => .vw R), s) else fail
      | _ => fail
    | _ => opt (evOpV P M none0 f s k o)
  | .makeSlice t l c => bnd hear fun q => match q with
    | .mk n R => bnd (opt (elemT P t)) fun e => bnd (opt (zeroT P e)) fun z => bnd (obl (natOf (f l) = some n)) fun _ => bnd (obl (natOf (f c) = some n)) fun _ => bnd (obl (n * P.bytesOf e ≤ 70368744177664 ∧ n ≤ 9223372036854775807)) fun _ =>
      bnd (obl (List.replicate n (z.map emptyV) = R)) fun _ => if z.length = sizeT P e ∧ sizeT P e ≠ 0 then ret (.sl (s.ep, 1024 * k) 0 R.length, s.setB (s.ep, 1024 * k) ⟨false, true, true, e, R⟩) else fail
    | _ => fail
  | .call c => match c.callee with
    | .value g => match f g with
      | .fn g caps => callK P M s k g (c.args.toList.map f ++ caps)
      | _ => fail
    | .builtin .append => match c.args.toList, c.argTypes.toList with
      | [b, x], [t, t'] => if t = t' then appK P (M.mv o.pos) s (s.ep, 1024 * k) t (f b) (f x) else fail
      | _, _ => fail
    | .builtin .len => match c.args.toList, c.argTypes.toList with
      | [x], [t] => match f x with
        | .sl _ _ n => bnd hear fun q => match q with
          | .num m _ _ _ => bnd (obl (n = m)) fun _ => if (elemT P t).isSome = true then ret (.lit (.int .i64 m), s) else fail
          | _ => fail
        | .tr rows | .vw rows => bnd hear fun q => match q with
          | .num m _ _ _ => bnd (obl (rows.length = m)) fun _ => if (elemT P t).isSome = true then ret (.lit (.int .i64 m), s) else fail
          | _ => fail
        | _ => opt (evOpV P M none0 f s k o)
      | _, _ => fail
    | _ => opt (evOpV P M none0 f s k o)
  | _ => opt (evOpV P M none0 f s k o)
end
end Go.Proofs.Ytolbhpampnjinaa.Ev
/- The told evaluator's operations, regions and walks through code are the evaluator's. No condition but those in each line. -/
namespace Go.Proofs.Ytolbhpampnjinaa.Ev
open Go Go.RowKit KM
set_option linter.unusedVariables false
set_option linter.unusedSimpArgs false
section
variable {P : Program} {M : Hints}

def OpOk (P : Program) (M : Hints) (f : Operand → V) (s : St) (k : Nat) (o : Oper) (y : V × St) : Prop := ∃ C, CallsOk P M C ∧ evOpV P M C f s k o = some y
theorem kp_none (hP : FuncsOk P) {f : Operand → V} {s : St} {k : Nat} {o : Oper} : KP (opt (evOpV P M none0 f s k o)) (OpOk P M f s k o) := kp_opt.mono fun y h => ⟨none0, none_ok hP, h⟩
theorem opK_binOp (hP : FuncsOk P) {f : Operand → V} {s : St} {k : Nat} {d : Option Tmp} {ty t yt : TypeId} {pos : String} {af : Array Edge} {g : Option (Nat × Bool)} {op : BinOp} {x y : Operand} : KP (opK P M f s k ⟨d, .binOp op t x y yt, ty, pos, af, g⟩) (OpOk P M f s k ⟨d, .binOp op t x y yt, ty, pos, af, g⟩) := by
  have base : ∀ {v : V}, binX P op t x y (f x) (f y) = some v → (∃ a b, f x = .lit a ∧ f y = .lit b) → evOpV P M none0 f s k ⟨d, .binOp op t x y yt, ty, pos, af, g⟩ = some (v, s) := fun {v} h ⟨a, b, h1, h2⟩ => by
    have e : evScalar P f ⟨d, .binOp op t x y yt, ty, pos, af, g⟩ = some v := by rw [ev_bin]; exact h
    simp only [evOpV, h1, h2, e, Option.map_some]
  have base2 : ∀ {v : V}, binX P op t x y (f x) (f y) = some v → (∃ a b, f x = .agg a ∧ f y = .agg b) → evOpV P M none0 f s k ⟨d, .binOp op t x y yt, ty, pos, af, g⟩ = some (v, s) := fun {v} h ⟨a, b, h1, h2⟩ => by
    have e : evScalar P f ⟨d, .binOp op t x y yt, ty, pos, af, g⟩ = some v := by rw [ev_bin]; exact h
    simp only [evOpV, h1, h2, e, Option.map_some]
  simp only [opK]
  split
  · rename_i k1 a k2 b h1 h2
    refine kp_bnd binIK_ok (fun v hv => kp_ret ⟨none0, none_ok hP, base ?_ ⟨_, _, h1, h2⟩⟩)
    rw [h1, h2, binX_int]; exact hv
  · rename_i a b h1 h2
    refine kp_bnd binSK_ok (fun v hv => kp_ret ⟨none0, none_ok hP, base ?_ ⟨_, _, h1, h2⟩⟩)
    rw [h1, h2, binX_str]; exact hv
  · rename_i a b h1 h2
    split
    · rename_i h3
      refine kp_ret ⟨none0, none_ok hP, base ?_ ⟨_, _, h1, h2⟩⟩
      rw [h1, h2, binX_eqB h3]
    · rename_i h3
      refine kp_ret ⟨none0, none_ok hP, base ?_ ⟨_, _, h1, h2⟩⟩
      rw [h1, h2, binX_neB h3]
    · exact kp_fail
  · rename_i xs ys h1 h2
    refine kp_if (fun hc => kp_bnd kp_opt (fun b hb => ?_)) (fun _ => kp_fail)
    split
    · exact kp_ret ⟨none0, none_ok hP, base2 (by rw [h1, h2, binX_aggE hc.1 hc.2.1 hc.2.2 hb]) ⟨_, _, h1, h2⟩⟩
    · exact kp_ret ⟨none0, none_ok hP, base2 (by rw [h1, h2, binX_aggN hc.1 hc.2.1 hc.2.2 hb]) ⟨_, _, h1, h2⟩⟩
    · exact kp_fail
  · exact kp_none hP
theorem opK_buildSlice (hP : FuncsOk P) {f : Operand → V} {s : St} {k : Nat} {d : Option Tmp} {ty t : TypeId} {pos : String} {af : Array Edge} {g : Option (Nat × Bool)} {n : Nat} {parts : Array (Nat × Operand)} : KP (opK P M f s k ⟨d, .buildSlice t n parts, ty, pos, af, g⟩) (OpOk P M f s k ⟨d, .buildSlice t n parts, ty, pos, af, g⟩) := by
  simp only [opK]
  refine kp_bnd kp_opt (fun e he => kp_bnd kp_opt (fun z hz => kp_if (fun _ => kp_fail) (fun hc => kp_bnd kp_opt (fun cs hcs => kp_bnd sinkRowsK_ok (fun y hy => kp_ret ⟨none0, none_ok hP, ?_⟩)))))
  simp only [evOpV, he, Option.bind_some, hz]
  rw [if_neg hc, hcs, Option.bind_some, hy]
  rfl
theorem opK_pick (hP : FuncsOk P) {f : Operand → V} {s : St} {k : Nat} {d : Option Tmp} {ty : TypeId} {pos : String} {af : Array Edge} {g : Option (Nat × Bool)} {c a b : Operand} : KP (opK P M f s k ⟨d, .pick c a b, ty, pos, af, g⟩) (OpOk P M f s k ⟨d, .pick c a b, ty, pos, af, g⟩) := by
  simp only [opK]
  split
  · rename_i t hc
    refine kp_bnd testK_ok (fun e he => ?_)
    subst he
    cases t with
    | true => exact kp_ret ⟨none0, none_ok hP, by simp only [evOpV, hc, if_true]⟩
    | false => exact kp_ret ⟨none0, none_ok hP, by simp only [evOpV, hc, Bool.false_eq_true, if_false]⟩
  · exact kp_fail
theorem opK_indexAddr (hP : FuncsOk P) {f : Operand → V} {s : St} {k : Nat} {d : Option Tmp} {ty t : TypeId} {pos : String} {af : Array Edge} {g : Option (Nat × Bool)} {x ix : Operand} : KP (opK P M f s k ⟨d, .indexAddr t x ix, ty, pos, af, g⟩) (OpOk P M f s k ⟨d, .indexAddr t x ix, ty, pos, af, g⟩) := by
  simp only [opK]
  refine kp_bnd kp_opt (fun e he => kp_if (fun _ => kp_fail) (fun hz => kp_bnd kp_hear (fun o _ => ?_)))
  split
  · rename_i n r
    refine kp_if (fun hr => kp_bnd kp_obl (fun _ hn => ?_)) (fun _ => kp_fail)
    split
    · rename_i i off len hx
      refine kp_bnd kp_obl (fun _ hlt => ?_)
      split
      · rename_i b hb
        refine kp_bnd kp_obl (fun _ hrow => kp_ret ⟨none0, none_ok hP, ?_⟩)
        rw [offN_eq] at hrow ⊢
        simp only [evOpV, he, Option.bind_some, hz, if_false, hn, hx, hlt, if_true, hb, hrow, hr]
      · exact kp_fail
    · rename_i rows hx
      refine kp_bnd kp_obl (fun _ hrow => kp_ret ⟨none0, none_ok hP, ?_⟩)
      simp only [evOpV, he, Option.bind_some, hz, if_false, hn, hx, if_true, hrow, hr]
    · rename_i rows hx
      refine kp_bnd kp_obl (fun _ hrow => kp_ret ⟨none0, none_ok hP, ?_⟩)
      simp only [evOpV, he, Option.bind_some, hz, if_false, hn, hx, if_true, hrow, hr]
    · exact kp_fail
  · exact kp_fail
theorem opK_load (hP : FuncsOk P) {f : Operand → V} {s : St} {k : Nat} {d : Option Tmp} {ty t : TypeId} {pos : String} {af : Array Edge} {g : Option (Nat × Bool)} {a : Operand} : KP (opK P M f s k ⟨d, .load t a, ty, pos, af, g⟩) (OpOk P M f s k ⟨d, .load t a, ty, pos, af, g⟩) := by
  simp only [opK]
  split
  · rename_i i j n ha
    split
    · rename_i b hb
      split
      · exact kp_none hP
      · refine kp_bnd kp_hear (fun o _ => ?_)
        split
        · rename_i row
          refine kp_bnd kp_obl (fun _ hrow => kp_if (fun hl => kp_bnd kp_opt (fun v hv => kp_ret ⟨none0, none_ok hP, ?_⟩)) (fun _ => kp_fail))
          simp only [evOpV, ha, hb, Option.bind_some, hrow, hl, if_true, hv, Option.map_some]
        · exact kp_fail
    · exact kp_fail
  · exact kp_none hP
theorem opK_store (hP : FuncsOk P) {f : Operand → V} {s : St} {k : Nat} {d : Option Tmp} {ty t : TypeId} {pos : String} {af : Array Edge} {g : Option (Nat × Bool)} {a x : Operand} : KP (opK P M f s k ⟨d, .store t a x, ty, pos, af, g⟩) (OpOk P M f s k ⟨d, .store t a x, ty, pos, af, g⟩) := by
  simp only [opK]
  split
  · rename_i i j n ha
    split
    · rename_i b hb
      split
      · exact kp_none hP
      · rename_i hbx
        refine kp_bnd kp_hear (fun o _ => ?_)
        split
        · rename_i row R
          refine kp_bnd kp_obl (fun _ hrow => kp_bnd kp_opt (fun cs hcs => kp_if (fun hc => kp_bnd sinkK_ok (fun y hy => ?_)) (fun _ => kp_fail)))
          split
          · rename_i b2 hb2
            refine kp_bnd kp_obl (fun _ hR => kp_ret ⟨none0, none_ok hP, ?_⟩)
            have hc' : b.own = true ∧ cs.length = sizeT P t ∧ n + sizeT P t ≤ row.length ∧ sizeT P t ≠ 0 := hc
            simp only [evOpV, ha, hb, Option.bind_some, hrow, hcs]
            rw [if_pos hc', hbx]
            simp only [Bool.false_eq_true, if_false, hy, Option.bind_some, hb2, hR]
          · exact kp_fail
        · exact kp_fail
    · exact kp_fail
  · exact kp_fail
def sliceV (x : V) (l h : Nat) : Option V := match x with
  | .sl id off _ => some (.sl id (off + l) (h - l))
  | .tr rows => some (.tr ((rows.drop l).take (h - l)))
  | .vw rows => some (.vw ((rows.drop l).take (h - l)))
  | _ => none
theorem evSlice_of {s : St} {t e : TypeId} {x : V} {rows : List (List V)} {lo hi : Option Operand} {f : Operand → V} {l h : Nat} (he : elemT P t = some e) (hr : s.rowsOf x = some rows) (hl : match lo with | some z => natOf (f z) = some l | none => l = 0) (hh : match hi with | some z => natOf (f z) = some h | none => rows.length = h)
    (h1 : l ≤ h ∧ h ≤ rows.length) (h2 : allLen (sizeT P e) rows = true) (h3 : sizeT P e ≠ 0) : evSlice P s t x (lo.map f) (hi.map f) = sliceV x l h := by
  have key : ∀ (a b : Option Nat), a = some l → b = some h → (a.bind fun l => b.bind fun h => if l ≤ h ∧ h ≤ rows.length ∧ allLen (sizeT P e) rows = true ∧ sizeT P e ≠ 0 then sliceV x l h else none) = sliceV x l h := by
    rintro _ _ rfl rfl
    simp only [Option.bind_some]
    rw [if_pos ⟨h1.1, h1.2, h2, h3⟩]
  unfold evSlice
  rw [he, Option.bind_some, hr, Option.bind_some]
  refine key _ _ ?_ ?_
  · cases lo with
    | none => simp only at hl; rw [hl]; rfl
    | some z => exact hl
  · cases hi with
    | none => simp only at hh; rw [← hh]; rfl
    | some z => exact hh
theorem opK_slice (hP : FuncsOk P) {f : Operand → V} {s : St} {k : Nat} {d : Option Tmp} {ty t : TypeId} {pos : String} {af : Array Edge} {g : Option (Nat × Bool)} {x : Operand} {lo hi mx : Option Operand} : KP (opK P M f s k ⟨d, .slice t x lo hi mx, ty, pos, af, g⟩) (OpOk P M f s k ⟨d, .slice t x lo hi mx, ty, pos, af, g⟩) := by
  cases mx with
  | some m => exact kp_none hP
  | none =>
    simp only [opK]
    split
    · rename_i id off len hx
      refine kp_bnd kp_hear (fun o _ => ?_)
      split
      · rename_i l h n R
        refine kp_bnd kp_opt (fun e he => kp_bnd rowsK_ok (fun rows hr => kp_bnd kp_obl (fun _ hl => kp_bnd kp_obl (fun _ hh => kp_bnd kp_obl (fun _ h1 => kp_bnd kp_obl (fun _ h2 => kp_bnd kp_obl (fun _ h4 => kp_if (fun h3 => kp_ret ⟨none0, none_ok hP, ?_⟩) (fun _ => kp_fail))))))))
        simp only [evOpV, evSlice_of he hr hl hh h1 h2 h3]
        rw [hx, h4, offN_eq]
        rfl
      · exact kp_fail
    · rename_i rws hx
      refine kp_bnd kp_hear (fun o _ => ?_)
      split
      · rename_i l h n R
        refine kp_bnd kp_opt (fun e he => kp_bnd rowsK_ok (fun rows hr => kp_bnd kp_obl (fun _ hl => kp_bnd kp_obl (fun _ hh => kp_bnd kp_obl (fun _ h1 => kp_bnd kp_obl (fun _ h2 => kp_bnd kp_obl (fun _ h4 => kp_if (fun h3 => kp_ret ⟨none0, none_ok hP, ?_⟩) (fun _ => kp_fail))))))))
        simp only [evOpV, evSlice_of he hr hl hh h1 h2 h3]
        rw [hx] at hr ⊢
        have : rws = rows := by simpa [St.rowsOf] using hr
        rw [← h4, ← this]
        rfl
      · exact kp_fail
    · rename_i rws hx
      refine kp_bnd kp_hear (fun o _ => ?_)
      split
      · rename_i l h n R
        refine kp_bnd kp_opt (fun e he => kp_bnd rowsK_ok (fun rows hr => kp_bnd kp_obl (fun _ hl => kp_bnd kp_obl (fun _ hh => kp_bnd kp_obl (fun _ h1 => kp_bnd kp_obl (fun _ h2 => kp_bnd kp_obl (fun _ h4 => kp_if (fun h3 => kp_ret ⟨none0, none_ok hP, ?_⟩) (fun _ => kp_fail))))))))
        simp only [evOpV, evSlice_of he hr hl hh h1 h2 h3]
        rw [hx] at hr ⊢
        have : rws = rows := by simpa [St.rowsOf] using hr
        rw [← h4, ← this]
        rfl
      · exact kp_fail
    · exact kp_none hP
theorem opK_makeSlice (hP : FuncsOk P) {f : Operand → V} {s : St} {k : Nat} {d : Option Tmp} {ty t : TypeId} {pos : String} {af : Array Edge} {g : Option (Nat × Bool)} {l c : Operand} : KP (opK P M f s k ⟨d, .makeSlice t l c, ty, pos, af, g⟩) (OpOk P M f s k ⟨d, .makeSlice t l c, ty, pos, af, g⟩) := by
  simp only [opK]
  refine kp_bnd kp_hear (fun o _ => ?_)
  split
  · rename_i n R
    refine kp_bnd kp_opt (fun e he => kp_bnd kp_opt (fun z hz => kp_bnd kp_obl (fun _ hl => kp_bnd kp_obl (fun _ hc => kp_bnd kp_obl (fun _ h1 => kp_bnd kp_obl (fun _ hR => kp_if (fun h2 => kp_ret ⟨none0, none_ok hP, ?_⟩) (fun _ => kp_fail)))))))
    simp only [evOpV, he, hz, Option.bind_some, hl, hc]
    rw [if_pos ⟨by trivial, h1.1, h1.2, h2.1, h2.2⟩, hR, ← hR, List.length_replicate]
  · exact kp_fail
theorem opK_call (hP : FuncsOk P) {f : Operand → V} {s : St} {k : Nat} {d : Option Tmp} {ty : TypeId} {pos : String} {af : Array Edge} {g : Option (Nat × Bool)} {c : Call} : KP (opK P M f s k ⟨d, .call c, ty, pos, af, g⟩) (OpOk P M f s k ⟨d, .call c, ty, pos, af, g⟩) := by
  simp only [opK]
  split
  · rename_i x hc
    split
    · rename_i h caps hx
      refine (callK_ok hP).mono fun y ⟨C, h1, h2⟩ => ⟨C, h1, ?_⟩
      simp only [evOpV, hc, hx, h2]
    · exact kp_fail
  · rename_i hc
    split
    · rename_i b x t t' ha ht
      refine kp_if (fun he => appK_ok.kp.mono fun y hy => ⟨none0, none_ok hP, ?_⟩) (fun _ => kp_fail)
      simp only [evOpV, hc, ha, ht, he, if_true]
      rw [← he]; exact hy
    · exact kp_fail
  · rename_i hc
    split
    · rename_i x t ha ht
      split
      · rename_i i off n hx
        refine kp_bnd kp_hear (fun o _ => ?_)
        split
        · refine kp_bnd kp_obl (fun _ hn => kp_if (fun he => kp_ret ⟨none0, none_ok hP, ?_⟩) (fun _ => kp_fail))
          simp only [evOpV, hc, ha, ht, hx, he, if_true, hn]
        · exact kp_fail
      · rename_i rows hx
        refine kp_bnd kp_hear (fun o _ => ?_)
        split
        · refine kp_bnd kp_obl (fun _ hn => kp_if (fun he => kp_ret ⟨none0, none_ok hP, ?_⟩) (fun _ => kp_fail))
          simp only [evOpV, hc, ha, ht, hx, he, if_true, hn]
        · exact kp_fail
      · rename_i rows hx
        refine kp_bnd kp_hear (fun o _ => ?_)
        split
        · refine kp_bnd kp_obl (fun _ hn => kp_if (fun he => kp_ret ⟨none0, none_ok hP, ?_⟩) (fun _ => kp_fail))
          simp only [evOpV, hc, ha, ht, hx, he, if_true, hn]
        · exact kp_fail
      · exact kp_none hP
    · exact kp_fail
  · exact kp_none hP
theorem opK_ok (hP : FuncsOk P) {f : Operand → V} {s : St} {k : Nat} {o : Oper} : KP (opK P M f s k o) (OpOk P M f s k o) := by
  obtain ⟨d, op, ty, pos, af, g⟩ := o
  cases op with
  | binOp op t x y yt => exact opK_binOp hP
  | pick c a b => exact opK_pick hP
  | buildSlice t n parts => exact opK_buildSlice hP
  | indexAddr t x ix => exact opK_indexAddr hP
  | load t a => exact opK_load hP
  | store t a x => exact opK_store hP
  | slice t x lo hi mx => exact opK_slice hP
  | makeSlice t l c => exact opK_makeSlice hP
  | call c => exact opK_call hP
  | _ => simp only [opK]; exact kp_none hP

/-! ### regions -/
/-- A guard's test; what is told of it stands in the state from there on. -/
def guardK (s : St) (ops : Array Oper) (o : Oper) : KM (Bool × St) :=
  match o.guard with
  | none => ret (true, s)
  | some (j, b) => match (ops[j]?).bind (·.dst) with
    | some d => match s.env d with
      | .lit (.bool c) => bnd hear fun o => match o with
        | .t e => bnd (obl (c = e)) fun _ => ret (e == b, ⟨upd s.env d (.lit (.bool e)), s.heap, s.ep⟩)
        | .k => ret (c == b, s)
        | _ => fail
      | .tup [] => ret (false, s)
      | _ => fail
    | none => fail
theorem guardK_ok {s : St} {ops : Array Oper} {o : Oper} : KP (guardK s ops o) (fun y => wanted s ops o = some y.1 ∧ y.2 = s) := by
  unfold guardK wanted
  cases o.guard with
  | none => exact kp_ret ⟨rfl, rfl⟩
  | some p =>
    obtain ⟨j, b⟩ := p
    simp only
    cases hd : (ops[j]?).bind (·.dst) with
    | none => exact kp_fail
    | some d =>
      simp only [Option.map_some]
      cases he : s.env d with
      | lit v => cases v with
        | bool c =>
          refine kp_bnd kp_hear (fun q _ => ?_)
          cases q with
          | t e =>
            refine kp_bnd kp_obl (fun _ hc => kp_ret ⟨by subst hc; rfl, ?_⟩)
            have : upd s.env d (.lit (.bool e)) = s.env := by
              funext t
              unfold upd
              split
              · rename_i h; rw [h, he, hc]
              · rfl
            rw [this]
          | k => exact kp_ret ⟨rfl, rfl⟩
          | _ => exact kp_fail
        | _ => exact kp_fail
      | tup l => cases l with
        | nil => exact kp_ret ⟨rfl, rfl⟩
        | cons x l => exact kp_fail
      | _ => exact kp_fail
def opsK (P : Program) (M : Hints) (ops : Array Oper) : (k : Nat) → List Oper → (s : St) → KM St
  | _, [], s => ret s
  | k, o :: rest, s => bnd (guardK s ops o) fun g => if g.1 then bnd (opK P M g.2.opV g.2 k o) fun y => opsK P M ops (k + 1) rest (y.2.put o.dst y.1) else opsK P M ops (k + 1) rest (g.2.put o.dst (.tup []))
theorem evOps_congr {C C' : Nat → CallF} {ops : Array Oper} : ∀ (l : List Oper) {k : Nat} {s : St}, (∀ j, k ≤ j → C j = C' j) → evOps P M C ops s k l = evOps P M C' ops s k l := by
  intro l
  induction l with
  | nil => intros; rfl
  | cons o l ih =>
    intro k s h
    simp only [evOps, h k (Nat.le_refl _)]
    simp only [fun s => ih (k := k + 1) (s := s) (fun j hj => h j (by omega))]
theorem evDraw_congr {C C' : Nat → CallF} {ops : Array Oper} : ∀ (l : List Oper) {k : Nat} {s : St} {recs : List Rec}, (∀ j, k ≤ j → C j = C' j) → evDraw P M C ops s recs k l = evDraw P M C' ops s recs k l := by
  intro l
  induction l with
  | nil => intros; rfl
  | cons o l ih =>
    intro k s recs h
    simp only [evDraw, h k (Nat.le_refl _)]
    simp only [fun s recs => ih (k := k + 1) (s := s) (recs := recs) (fun j hj => h j (by omega))]
def setC (C : Nat → CallF) (k : Nat) (D : CallF) : Nat → CallF := fun j => if j = k then D else C j
theorem opsK_ok (hP : FuncsOk P) {ops : Array Oper} : ∀ (l : List Oper) {k : Nat} {s : St}, KP (opsK P M ops k l s) (fun s' => ∃ C : Nat → CallF, (∀ j, CallsOk P M (C j)) ∧ evOps P M C ops s k l = some s') := by
  intro l
  induction l with
  | nil => intro k s; exact kp_ret ⟨fun _ => none0, fun _ => none_ok hP, rfl⟩
  | cons o l ih =>
    intro k s
    simp only [opsK, evOps]
    refine kp_bnd guardK_ok (fun g hg => ?_)
    obtain ⟨g, s0⟩ := g
    obtain ⟨hg, hs0⟩ := hg
    simp only at hg hs0
    subst hs0
    cases g with
    | true =>
      simp only [if_true]
      refine kp_bnd (opK_ok hP) (fun y hy => ih.mono fun s' ⟨C, h1, h2⟩ => ?_)
      obtain ⟨D, d1, d2⟩ := hy
      refine ⟨setC C k D, fun j => ?_, ?_⟩
      · unfold setC; split
        · exact d1
        · exact h1 j
      · rw [hg]
        simp only [Option.bind_some, if_true, setC]
        unfold evOp
        rw [d2, Option.bind_some, ← h2]
        exact evOps_congr l (fun j hj => by simp only [setC]; rw [if_neg (by omega)])
    | false =>
      simp only [Bool.false_eq_true, if_false]
      refine ih.mono fun s' ⟨C, h1, h2⟩ => ⟨C, h1, ?_⟩
      rw [hg]
      exact h2
def drawK (P : Program) (M : Hints) (ops : Array Oper) : (recs : List Rec) → (k : Nat) → List Oper → (s : St) → KM St
  | _, _, [], s => ret s
  | recs, k, o :: rest, s => bnd (guardK s ops o) fun g => if g.1 then (if apartOk ops g.2.ep recs (preOf recs o) k o (touch g.2 o) (writes M g.2.opV o) = true then
      bnd (opK P M g.2.opV (g.2.only (touch g.2 o)) k o) fun y => drawK P M ops (recs ++ [⟨preOf recs o, touch g.2 o, writes M g.2.opV o⟩]) (k + 1) rest ((g.2.merge k (touch g.2 o) (writes M g.2.opV o) y.2).put o.dst y.1) else fail)
    else if apartOk ops g.2.ep recs (preOf recs o) k o [] false = true then drawK P M ops (recs ++ [⟨preOf recs o, [], false⟩]) (k + 1) rest (g.2.put o.dst (.tup [])) else fail
theorem drawK_ok (hP : FuncsOk P) {ops : Array Oper} : ∀ (l : List Oper) {k : Nat} {s : St} {recs : List Rec}, KP (drawK P M ops recs k l s) (fun s' => ∃ C : Nat → CallF, (∀ j, CallsOk P M (C j)) ∧ evDraw P M C ops s recs k l = some s') := by
  intro l
  induction l with
  | nil => intro k s recs; exact kp_ret ⟨fun _ => none0, fun _ => none_ok hP, rfl⟩
  | cons o l ih =>
    intro k s recs
    simp only [drawK, evDraw]
    refine kp_bnd guardK_ok (fun g hg => ?_)
    obtain ⟨g, s0⟩ := g
    obtain ⟨hg, hs0⟩ := hg
    simp only at hg hs0
    subst hs0
    cases g with
    | true =>
      simp only [if_true]
      refine kp_if (fun ha => kp_bnd (opK_ok hP) (fun y hy => ih.mono fun s' ⟨C, h1, h2⟩ => ?_)) (fun _ => kp_fail)
      obtain ⟨D, d1, d2⟩ := hy
      refine ⟨setC C k D, fun j => ?_, ?_⟩
      · unfold setC; split
        · exact d1
        · exact h1 j
      · rw [hg]
        simp only [Option.bind_some, if_true, setC, ha]
        rw [d2, Option.bind_some, ← h2]
        exact evDraw_congr l (fun j hj => by simp only [setC]; rw [if_neg (by omega)])
    | false =>
      simp only [Bool.false_eq_true, if_false]
      refine kp_if (fun ha => ih.mono fun s' ⟨C, h1, h2⟩ => ⟨C, h1, ?_⟩) (fun _ => kp_fail)
      rw [hg]
      simp only [Option.bind_some, Bool.false_eq_true, if_false, ha, if_true]
      exact h2
end
end Go.Proofs.Ytolbhpampnjinaa.Ev
/- The told evaluator walks through code: so many steps, what is asked on the way, where it stands. No condition but those in each line. -/
namespace Go.Proofs.Ytolbhpampnjinaa.Ev
open Go Go.RowKit KM
set_option linter.unusedVariables false
set_option linter.unusedSimpArgs false

inductive It where
  | c (x : Code)
  | blk (i : Nat)
/-- What is left to do, from here on. -/
def SX (P : Program) (R : Ex → St → Prop) : List It → Ex → St → Prop
  | [], e, s => R e s
  | .c x :: k, .normal, s => Cx P x s (fun e s => SX P R k e s)
  | .c x :: k, .ret, s => SX P R k .ret s
  | .c x :: k, .exit j, s => SX P R k (.exit j) s
  | .blk i :: k, .exit j, s => if j = i then SX P R k .normal s else SX P R k (.exit j) s
  | .blk i :: k, .normal, s => SX P R k .normal s
  | .blk i :: k, .ret, s => SX P R k .ret s
structure Res where
  stk : List It
  ex : Ex
  st : St
def mach (P : Program) (M : Hints) : (n : Nat) → List It → Ex → (s : St) → KM Res
  | 0, stk, ex, s => ret ⟨stk, ex, s⟩
  | n + 1, stk, ex, s => match stk with
    | [] => ret ⟨[], ex, s⟩
    | .blk i :: k => match ex with
      | .exit j => if j = i then mach P M n k .normal s else mach P M n k (.exit j) s
      | .normal => mach P M n k .normal s
      | .ret => mach P M n k .ret s
    | .c x :: k => match ex with
      | .ret => mach P M n k .ret s
      | .exit j => mach P M n k (.exit j) s
      | .normal => match x with
        | .skip => mach P M n k .normal s
        | .ret => mach P M n k .ret s
        | .exit i => mach P M n k (.exit i) s
        | .seq a b => mach P M n (.c a :: .c b :: k) .normal s
        | .cond c a b => match s.opV c with
          | .lit (.bool t) => bnd (testK t) fun e => if e then mach P M n (.c a :: k) .normal s else mach P M n (.c b :: k) .normal s
          | _ => fail
        | .block i c => mach P M n (.c c :: .blk i :: k) .normal s
        | .loop c => mach P M n (.c c :: .c (.loop c) :: k) .normal s
        | .region _ ops d => match d with
          | false => bnd (opsK P M ops 0 ops.toList ⟨s.env, s.heap, s.ep + 1⟩) fun s' => mach P M n k .normal s'
          | true => if Region.noSelect ops = true then bnd (drawK P M ops [] 0 ops.toList ⟨s.env, s.heap, s.ep + 1⟩) fun s' => mach P M n k .normal s' else fail
        | _ => fail
section
variable {P : Program} {M : Hints} {R : Ex → St → Prop}
theorem SX_mono {k : List It} {e : Ex} {s : St} {R' : Ex → St → Prop} (hR : ∀ e s, R e s → R' e s) (h : SX P R k e s) : SX P R' k e s := by
  induction k generalizing e s with
  | nil => exact hR _ _ h
  | cons x k ih =>
    cases x with
    | c x => cases e with
      | normal => exact Cx_mono h (fun e s h => ih h)
      | ret => exact ih h
      | exit j => exact ih h
    | blk i => cases e with
      | normal => exact ih h
      | ret => exact ih h
      | exit j =>
        simp only [SX] at h ⊢
        split
        · rename_i hj; rw [if_pos hj] at h; exact ih h
        · rename_i hj; rw [if_neg hj] at h; exact ih h
theorem mach_ok (hP : FuncsOk P) : ∀ (n : Nat) {stk : List It} {ex : Ex} {s : St}, KP (mach P M n stk ex s) (fun r => SX P R r.stk r.ex r.st → SX P R stk ex s) := by
  intro n
  induction n with
  | zero => intro stk ex s; exact kp_ret id
  | succ n ih =>
    intro stk ex s
    simp only [mach]
    split
    · exact kp_ret id
    · rename_i i k
      split
      · rename_i j
        refine kp_if (fun hj => ih.mono fun r hr h => ?_) (fun hj => ih.mono fun r hr h => ?_)
        · simp only [SX]; rw [if_pos hj]; exact hr h
        · simp only [SX]; rw [if_neg hj]; exact hr h
      · exact ih.mono fun r hr h => hr h
      · exact ih.mono fun r hr h => hr h
    · rename_i x k
      split
      · exact ih.mono fun r hr h => hr h
      · exact ih.mono fun r hr h => hr h
      · split
        · exact ih.mono fun r hr h => Cx_skip (hr h)
        · exact ih.mono fun r hr h => Cx_ret (hr h)
        · exact ih.mono fun r hr h => Cx_exit (hr h)
        · refine ih.mono fun r hr h => Cx_seq (Cx_mono (hr h) fun e s h => ?_)
          cases e <;> exact h
        · rename_i c a b
          split
          · rename_i t hc
            refine kp_bnd testK_ok (fun e he => ?_)
            subst he
            cases t with
            | true => exact ih.mono fun r hr h => Cx_cond hc (hr h)
            | false => exact ih.mono fun r hr h => Cx_cond hc (hr h)
          · exact kp_fail
        · rename_i i c
          refine ih.mono fun r hr h => Cx_block (Cx_mono (hr h) fun e s h => ?_)
          cases e <;> exact h
        · rename_i c
          refine ih.mono fun r hr h => Cx_loop (Cx_mono (hr h) fun e s h => ?_)
          cases e <;> exact h
        · rename_i i ops d
          split
          · refine kp_bnd (opsK_ok hP _) (fun s' hs => ih.mono fun r hr h => ?_)
            obtain ⟨C, h1, h2⟩ := hs
            exact Cx_ops hP C h1 h2 (hr h)
          · refine kp_if (fun hn => kp_bnd (drawK_ok hP _) (fun s' hs => ih.mono fun r hr h => ?_)) (fun _ => kp_fail)
            obtain ⟨C, h1, h2⟩ := hs
            exact Cx_draw hP C h1 hn h2 (hr h)
        · exact kp_fail

theorem mach_all (hP : FuncsOk P) (n : Nat) {stk : List It} {ex : Ex} {s : St} : KP (mach P M n stk ex s) (fun r => ∀ R, SX P R r.stk r.ex r.st → SX P R stk ex s) := fun q a obs q' e ho R => mach_ok hP n q a obs q' e ho

/-! ### to the end of a function -/
def endK (P : Program) (M : Hints) (f : FuncId) (fn : Func) (xs : List V) (r : Res) : KM (V × List V) := match r.stk with
  | [] => match r.ex with
    | .exit _ => fail
    | .normal => retK P M f fn xs r.st
    | .ret => retK P M f fn xs r.st
  | _ => fail
def runK (P : Program) (M : Hints) (f : FuncId) (fn : Func) (xs : List V) (n : Nat) (stk : List It) (s : St) : KM (V × List V) :=
  bnd (mach P M n stk .normal s) (endK P M f fn xs)
theorem runK_ok (hP : FuncsOk P) {f : FuncId} {fn : Func} {xs : List V} {n : Nat} {stk : List It} {s : St} : KP (runK P M f fn xs n stk s) (fun y => SX P (RetC P M f fn xs y) stk .normal s) := by
  refine kp_bnd (mach_all hP n) (fun r hr => ?_)
  obtain ⟨st, ex, s1⟩ := r
  unfold endK
  cases st with
  | cons x l => exact kp_fail
  | nil => cases ex with
    | exit i => exact kp_fail
    | normal => exact retK_ok.kp.mono fun y hy => hr _ ⟨trivial, hy⟩
    | ret => exact retK_ok.kp.mono fun y hy => hr _ ⟨trivial, hy⟩
/-- What a told walk comes to: what is asked, and the answer. -/
def told {α : Type} (x : Option (α × List Prop × List O)) : Option (Prop × α) := match x with | some (a, obs, []) => some (All obs, a) | _ => none
theorem told_of {α : Type} {x : KM α} {q : List O} {Q : α → Prop} {p : Prop} {a : α} (h : KP x Q) (e : told (x q) = some (p, a)) (hp : p) : Q a := by
  unfold told at e
  split at e
  · rename_i b obs hx
    injection e with e
    injection e with e1 e2
    subst e2
    exact h q _ _ _ hx (by rw [e1]; exact hp)
  · cases e
/-- To the end. -/
theorem ret_run (hP : FuncsOk P) {f : FuncId} {fn : Func} {xs : List V} {y : V × List V} {stk : List It} {s : St} {p : Prop} (n : Nat) (q : List O) (hp : p) (e : told (runK P M f fn xs n stk s q) = some (p, y)) : SX P (RetC P M f fn xs y) stk .normal s :=
  told_of (x := runK P M f fn xs n stk s) (Q := fun y => SX P (RetC P M f fn xs y) stk .normal s) (runK_ok hP) e hp

/-! ### to a cut -/
/-- A cell that is written anew, as it was. -/
def ren1 (f : List (Id × Id)) : V → V
  | .ptr id i off => match renI f id with | some id' => .ptr id' i off | none => .undef
  | .sl id off len => match renI f id with | some id' => .sl id' off len | none => (match off, len with | 0, 0 => .lit (.slice none 0 0) | _, _ => .undef)
  | .lit v => .lit v
  | .tr rows => .tr rows
  | .vw rows => .vw rows
  | .rp sh row off => .rp sh row off
  | _ => .undef
def renV (f : List (Id × Id)) : V → V
  | .agg xs => .agg (xs.map (ren1 f))
  | .tup xs => .tup (xs.map (ren1 f))
  | .fn g xs => .fn g (xs.map (ren1 f))
  | x => ren1 f x
theorem ren1_ok {f : List (Id × Id)} {x : V} (h : ren1 f x ≠ .undef ∨ x = .undef) : VR1 f x (ren1 f x) := by
  cases x with
  | undef => trivial
  | ptr id i off =>
    simp only [ren1] at h ⊢
    split
    · rename_i id' hr; exact ⟨hr, rfl, rfl⟩
    · rename_i hr; rw [hr] at h; simp at h
  | sl id off len =>
    simp only [ren1] at h ⊢
    split
    · rename_i id' hr; exact ⟨hr, rfl, rfl⟩
    · rename_i hr
      rw [hr] at h
      simp only at h
      split
      · exact ⟨hr, rfl, rfl⟩
      · rename_i hne
        exfalso
        split at h
        · rename_i h1 h2; exact hne rfl rfl
        · simp at h
  | lit v => rfl
  | tr rows => rfl
  | vw rows => rfl
  | rp sh row off => rfl
  | agg _ => simp [ren1] at h
  | tup _ => simp [ren1] at h
  | fn _ _ => simp [ren1] at h
  | own _ _ => simp [ren1] at h
  | obx _ => simp [ren1] at h
def okV : V → Bool | .undef => false | _ => true
theorem okV_ne {x : V} (h : okV x = true) : x ≠ .undef := by rintro rfl; cases h
theorem rens_ok {f : List (Id × Id)} : ∀ {xs : List V}, (xs.map (ren1 f)).all okV = true → VRs f xs (xs.map (ren1 f)) := by
  intro xs
  induction xs with
  | nil => intro _; trivial
  | cons x xs ih =>
    intro h
    simp only [List.map_cons, List.all_cons, Bool.and_eq_true] at h
    exact ⟨ren1_ok (.inl (okV_ne h.1)), ih h.2⟩
/-- The cells of a value are all there. -/
def okVs : V → Bool
  | .agg xs | .tup xs | .fn _ xs => xs.all okV
  | x => okV x
theorem renV_ok {f : List (Id × Id)} {x : V} (h : okVs (renV f x) = true) : VR f x (renV f x) := by
  cases x with
  | agg xs => exact rens_ok h
  | tup xs => exact rens_ok h
  | fn g xs => exact ⟨rfl, rens_ok h⟩
  | undef => trivial
  | lit v => rfl
  | tr rows => rfl
  | vw rows => rfl
  | rp sh row off => rfl
  | own e rows => cases h
  | obx cs => cases h
  | ptr id i off => exact ren1_ok (x := .ptr id i off) (.inl fun e => by have h2 : okVs (ren1 f (.ptr id i off)) = true := h; rw [e] at h2; cases h2)
  | sl id off len => exact ren1_ok (x := .sl id off len) (.inl fun e => by have h2 : okVs (ren1 f (.sl id off len)) = true := h; rw [e] at h2; cases h2)
/-- A block that is written anew, as it was. -/
def renB (f : List (Id × Id)) (p : Id × Blk) : Option Blk := match renI f p.1 with
  | none => none
  | some _ => some ⟨p.2.box, p.2.own, p.2.cl, (if p.2.box then 0 else p.2.el), if p.2.box then p.2.rows.map (fun r => r.map (ren1 f)) else p.2.rows⟩
def wasB (f : List (Id × Id)) (S : St) (p : Id × Blk) : Option Blk := match renI f p.1 with
  | none => none
  | some id' => (S.heap id').map fun c => ⟨c.box, c.own, c.cl, (if c.box then 0 else c.el), c.rows⟩
def newB (f : List (Id × Id)) (p : Id × Blk) : Bool := match renI f p.1 with
  | none => !p.2.box && p.2.own && (match p.2.rows with | [] => true | _ => false)
  | some _ => if p.2.box then (match p.2.rows with | [r] => (r.map (ren1 f)).all okV | _ => false) else true
theorem renB_ok {f : List (Id × Id)} {S : St} {p : Id × Blk} (h : wasB f S p = renB f p) (hn : newB f p = true) : BR f S p.1 p.2 := by
  obtain ⟨id, b⟩ := p
  unfold BR
  unfold wasB renB at h
  unfold newB at hn
  simp only at h hn ⊢
  split
  · rename_i hr
    rw [hr] at hn
    simp only [Bool.and_eq_true, Bool.not_eq_true'] at hn
    refine ⟨hn.1.1, hn.1.2, ?_⟩
    cases hb : b.rows with
    | nil => rfl
    | cons x l => rw [hb] at hn; simp at hn
  · rename_i id' hr
    rw [hr] at h hn
    simp only at h hn
    obtain ⟨c, h1, h2⟩ := Option.map_eq_some_iff.1 h
    injection h2 with e1 e2 e3 e4 e5
    refine ⟨c, h1, e1, e2, e3, ?_⟩
    cases hbx : b.box with
    | true =>
      rw [hbx] at hn e1 e5
      simp only [if_true] at hn e5 ⊢
      cases hb : b.rows with
      | nil => rw [hb] at hn; cases hn
      | cons r l => cases l with
        | cons r2 l => rw [hb] at hn; cases hn
        | nil =>
          rw [hb] at hn e5
          exact ⟨r, _, rfl, e5, rens_ok hn⟩
    | false =>
      rw [hbx] at e1 e4 e5
      rw [e1] at e4
      simp only [Bool.false_eq_true, if_false] at e4 e5 ⊢
      exact ⟨e4, e5⟩
/-- What stands, in the places of the state that is written anew. -/
def wasL (f : List (Id × Id)) (l : List (Nat × V)) (h : List (Id × Blk)) (S : St) : List V × List (Option Blk) := (l.map fun p => S.env p.1, h.map fun p => wasB f S p)
def renL (f : List (Id × Id)) (l : List (Nat × V)) (h : List (Id × Blk)) : List V × List (Option Blk) := (l.map fun p => renV f p.2, h.map fun p => renB f p)
def cutB (f : List (Id × Id)) (l : List (Nat × V)) (h : List (Id × Blk)) (ep : Nat) : Bool := wkB f l h ep && (l.all fun p => okVs (renV f p.2)) && h.all fun p => newB f p
theorem map_eq_all {α β : Type} {g1 g2 : α → β} {l : List α} (h : l.map g1 = l.map g2) : ∀ x ∈ l, g1 x = g2 x := by
  induction l with
  | nil => intro x hx; simp at hx
  | cons y l ih =>
    simp only [List.map_cons, List.cons.injEq] at h
    intro x hx
    rcases List.mem_cons.1 hx with rfl | hx
    · exact h.1
    · exact ih h.2 x hx
theorem weak_of {f : List (Id × Id)} {l : List (Nat × V)} {h : List (Id × Blk)} {ep : Nat} {S : St} (e : wasL f l h S = renL f l h) (hb : cutB f l h ep = true) : Weak f S l h ep := by
  simp only [wasL, renL, Prod.mk.injEq] at e
  simp only [cutB, Bool.and_eq_true, List.all_eq_true] at hb
  refine ⟨fun p hp => ?_, fun p hp => renB_ok (map_eq_all e.2 p hp) (hb.2 p hp), hb.1.1⟩
  rw [map_eq_all e.1 p hp]
  exact renV_ok (hb.1.2 p hp)
/-- A slice's length is told. -/
def len1 : V → KM V
  | .sl id off len => bnd hear fun o => match o with
    | .num n _ _ _ => bnd (obl (len = n)) fun _ => ret (.sl id off n)
    | _ => fail
  | x => ret x
theorem len1_ok {x : V} : KP (len1 x) (fun y => y = x) := by
  unfold len1
  split
  · refine kp_bnd kp_hear (fun o _ => ?_)
    split
    · exact kp_bnd kp_obl (fun _ h => kp_ret (by rw [h]))
    · exact kp_fail
  · exact kp_ret rfl
def lens : List V → KM (List V)
  | [] => ret []
  | x :: xs => bnd (len1 x) fun y => bnd (lens xs) fun ys => ret (y :: ys)
theorem lens_ok : ∀ {xs : List V}, KP (lens xs) (fun ys => ys = xs) := by
  intro xs
  induction xs with
  | nil => exact kp_ret rfl
  | cons x xs ih => exact kp_bnd len1_ok (fun y hy => kp_bnd ih (fun ys hys => kp_ret (by rw [hy, hys])))
def lenV : V → KM V
  | .agg xs => bnd (lens xs) fun ys => ret (.agg ys)
  | .fn g xs => bnd (lens xs) fun ys => ret (.fn g ys)
  | x => len1 x
theorem lenV_ok {x : V} : KP (lenV x) (fun y => y = x) := by
  unfold lenV
  split
  · exact kp_bnd lens_ok (fun y hy => kp_ret (by rw [hy]))
  · exact kp_bnd lens_ok (fun y hy => kp_ret (by rw [hy]))
  · exact len1_ok
def lenE_ (S : St) : List (Nat × V) → KM (List V)
  | [] => ret []
  | p :: l => bnd (lenV (S.env p.1)) fun y => bnd (lenE_ S l) fun ys => ret (y :: ys)
theorem lenE_ok {S : St} : ∀ {l : List (Nat × V)}, KP (lenE_ S l) (fun ys => ys = l.map fun p => S.env p.1) := by
  intro l
  induction l with
  | nil => exact kp_ret rfl
  | cons p l ih => exact kp_bnd lenV_ok (fun y hy => kp_bnd ih (fun ys hys => kp_ret (by rw [hy, hys]; rfl)))
def lenB : Option Blk → KM (Option Blk)
  | some ⟨true, own, cl, el, [row]⟩ => bnd (lens row) fun r => ret (some ⟨true, own, cl, el, [r]⟩)
  | x => ret x
theorem lenB_ok {x : Option Blk} : KP (lenB x) (fun y => y = x) := by
  unfold lenB
  split
  · exact kp_bnd lens_ok (fun r hr => kp_ret (by rw [hr]))
  · exact kp_ret rfl
def lenH (f : List (Id × Id)) (S : St) : List (Id × Blk) → KM (List (Option Blk))
  | [] => ret []
  | p :: l => bnd (lenB (wasB f S p)) fun y => bnd (lenH f S l) fun ys => ret (y :: ys)
theorem lenH_ok {f : List (Id × Id)} {S : St} : ∀ {l : List (Id × Blk)}, KP (lenH f S l) (fun ys => ys = l.map fun p => wasB f S p) := by
  intro l
  induction l with
  | nil => exact kp_ret rfl
  | cons p l ih => exact kp_bnd lenB_ok (fun y hy => kp_bnd ih (fun ys hys => kp_ret (by rw [hy, hys]; rfl)))
def standK (f : List (Id × Id)) (l : List (Nat × V)) (h : List (Id × Blk)) (r : Res) : KM (List It × List V × List (Option Blk)) := match r.ex with
  | .normal => bnd (lenE_ r.st l) fun vs => bnd (lenH f r.st h) fun bs => ret (r.stk, vs, bs)
  | _ => fail
def cutK (P : Program) (M : Hints) (f : List (Id × Id)) (l : List (Nat × V)) (h : List (Id × Blk)) (n : Nat) (stk : List It) (s : St) : KM (List It × List V × List (Option Blk)) :=
  bnd (mach P M n stk .normal s) (standK f l h)
def isC : List It → Bool
  | .c _ :: _ => true
  | _ => false
/-- To a cut, and on from there. -/
theorem cut_run (hP : FuncsOk P) {stk k2 : List It} {s : St} {p : Prop} {l : List (Nat × V)} {h : List (Id × Blk)} {ep : Nat} (f : List (Id × Id)) (n : Nat) (q : List O) (hp : p) (hn : SX P R k2 .normal (mkS l h ep))
    (e : told (cutK P M f l h n stk s q) = some (p, (k2, renL f l h))) (hb : (isC k2 && cutB f l h ep) = true) : SX P R stk .normal s := by
  simp only [Bool.and_eq_true] at hb
  refine told_of (x := cutK P M f l h n stk s) (Q := fun y => y = (k2, renL f l h) → SX P R stk .normal s) ?_ e hp rfl
  refine kp_bnd (mach_all hP n) (fun r hr => ?_)
  obtain ⟨st, ex, s1⟩ := r
  unfold standK
  cases ex with
  | normal =>
    refine kp_bnd lenE_ok (fun vs hvs => kp_bnd lenH_ok (fun bs hbs => kp_ret fun hy => hr _ ?_))
    simp only [Prod.mk.injEq] at hy
    simp only
    rw [hy.1]
    have hy2 : wasL f l h s1 = renL f l h := by
      rw [← hy.2, hvs, hbs]; rfl
    cases k2 with
    | nil => cases hb.1
    | cons x k => cases x with
      | blk i => cases hb.1
      | c x => exact Cx_weak f (weak_of hy2 hb.2) hn
  | ret => exact kp_fail
  | exit i => exact kp_fail
end
end Go.Proofs.Ytolbhpampnjinaa.Ev
/- Functions over Lean data, and what is asked of these on the way. No condition but those in each line. -/
namespace Go.Proofs.Ytolbhpampnjinaa.Ev
open Go Go.RowKit KM
set_option linter.unusedVariables false
set_option linter.unusedSimpArgs false
abbrev il (n : Int) : V := .lit (.int .i64 n)
abbrev bl (b : Bool) : V := .lit (.bool b)
section
variable {P : Program} {M : Hints}
def entS (M : Hints) (f : FuncId) (xs : List V) : St := (St.enters ⟨fun _ => .undef, fun _ => none, 0⟩ 0 (M.modes f) xs).getD ⟨fun _ => .undef, fun _ => none, 0⟩
theorem fine_run (hP : FuncsOk P) {f : FuncId} {fn : Func} {c : Code} {xs : List V} {r : V} {os : List V} (hfn : P.funcs[f]? = some fn) (hc : fn.body = some c) (hs : (St.enters ⟨fun _ => .undef, fun _ => none, 0⟩ 0 (M.modes f) xs).isSome = true)
    (h : SX P (RetC P M f fn xs (r, os)) [.c c] .normal (entS M f xs)) : Fine P M (f, xs, r, os) := by
  obtain ⟨s1, h1⟩ := Option.isSome_iff_exists.1 hs
  refine fine_of hP hfn hc h1 ?_
  have : entS M f xs = s1 := by unfold entS; rw [h1]; rfl
  rw [← this]
  exact h
end
theorem aa {p q : Prop} (h : p) (k : q) : p ∧ q := ⟨h, k⟩
theorem tt : True := trivial
theorem bnd_some {α β : Type} {x : Option α} {f : α → Option β} {b : β} (h : x.bind f = some b) : ∃ a, x = some a ∧ f a = some b := Option.bind_eq_some_iff.1 h
theorem ite_some {β : Type} {t : Bool} {x y : Option β} {b : β} (h : (if t = true then x else y) = some b) : (t = true ∧ x = some b) ∨ (t = false ∧ y = some b) := by
  cases t with
  | true => exact .inl ⟨rfl, h⟩
  | false => exact .inr ⟨rfl, h⟩
section
variable {α : Type}
def idx (xs : List α) (i : Int) : Option α := if 0 ≤ i then xs[i.toNat]? else none
theorem ixn {xs : List α} {i : Int} {a : α} (h : idx xs i = some a) : natOf (il i) = some i.toNat := by
  unfold idx at h
  split at h
  · rename_i h0; simp [natOf, h0]
  · cases h
theorem ixr (e : α → List V) {xs : List α} {i : Int} {a : α} (h : idx xs i = some a) : (xs.map e)[i.toNat]? = some (e a) := by
  unfold idx at h
  split at h
  · rw [List.getElem?_map, h]; rfl
  · cases h
theorem ixl (e : α → List V) {xs : List α} {i : Int} {a : α} (h : idx xs i = some a) : i.toNat < (xs.map e).length := (List.getElem?_eq_some_iff.1 (ixr e h)).1
def setI (xs : List α) (i : Int) (a : α) : List α := xs.set i.toNat a
theorem setr (e : α → List V) (xs : List α) (i : Int) (a : α) : (xs.map e).set i.toNat (e a) = (setI xs i a).map e := by
  unfold setI; rw [List.map_set]
theorem lenr (e : α → List V) (xs : List α) : (xs.map e).length = xs.length := List.length_map ..
theorem lene (e : α → List V) (xs : List α) : (xs.map e).length = (xs.map e).length := rfl
theorem alr (n : Nat) {e : α → List V} (he : ∀ a, (e a).length = n) (xs : List α) : allLen n (xs.map e) = true := by
  unfold allLen
  rw [List.all_eq_true]
  intro r hr
  obtain ⟨a, _, rfl⟩ := List.mem_map.1 hr
  simp [he]
theorem ltr {e : α → List V} (he : ∀ a, (e a).all isLit = true) (xs : List α) : litRows (xs.map e) = true := by
  unfold litRows
  rw [List.all_eq_true]
  intro r hr
  obtain ⟨a, _, rfl⟩ := List.mem_map.1 hr
  exact he a
/-- Appended, where there is room. -/
def appI (sz : Nat) (xs ys : List α) : Option (List α) := if (xs.length + ys.length) * sz ≤ 140737488355328 ∧ xs.length + ys.length ≤ 9223372036854775807 then some (xs ++ ys) else none
theorem apm (e : α → List V) {sz : Nat} {xs ys zs : List α} (h : appI sz xs ys = some zs) : xs.map e ++ ys.map e = zs.map e := by
  unfold appI at h
  split at h
  · injection h with h; rw [← h, List.map_append]
  · cases h
theorem apl (e : α → List V) {sz : Nat} {xs ys zs : List α} (h : appI sz xs ys = some zs) : ((xs.map e).length + (ys.map e).length) * sz ≤ 140737488355328 ∧ (xs.map e).length + (ys.map e).length ≤ 9223372036854775807 := by
  unfold appI at h
  split at h
  · rename_i hh; simpa using hh
  · cases h
theorem ap0 (e : α → List V) {sz : Nat} {ys zs : List α} (h : appI sz [] ys = some zs) : (ys.map e).length * sz ≤ 140737488355328 ∧ (ys.map e).length ≤ 9223372036854775807 := by
  have := apl e h; simpa using this
theorem apm0 (e : α → List V) {sz : Nat} {ys zs : List α} (h : appI sz [] ys = some zs) : ys.map e = zs.map e := apm e h
def mkI (sz : Nat) (n : Int) (z : α) : Option (List α) := if 0 ≤ n ∧ n.toNat * sz ≤ 70368744177664 ∧ n.toNat ≤ 9223372036854775807 then some (List.replicate n.toNat z) else none
theorem mkn {sz : Nat} {n : Int} {z : α} {xs : List α} (h : mkI sz n z = some xs) : natOf (il n) = some n.toNat := by
  unfold mkI at h
  split at h
  · rename_i h0; simp [natOf, h0.1]
  · cases h
theorem mkl {sz : Nat} {n : Int} {z : α} {xs : List α} (h : mkI sz n z = some xs) : n.toNat * sz ≤ 70368744177664 ∧ n.toNat ≤ 9223372036854775807 := by
  unfold mkI at h
  split at h
  · rename_i h0; exact h0.2
  · cases h
theorem mkr (e : α → List V) {sz : Nat} {n : Int} {z : α} {xs : List α} (h : mkI sz n z = some xs) : List.replicate n.toNat (e z) = xs.map e := by
  unfold mkI at h
  split at h
  · injection h with h; rw [← h, List.map_replicate]
  · cases h
/-- A part of a slice. -/
def sliceI (xs : List α) (l h : Int) : Option (List α) := if 0 ≤ l ∧ l ≤ h ∧ h.toNat ≤ xs.length then some ((xs.drop l.toNat).take (h.toNat - l.toNat)) else none
theorem sln {xs ys : List α} {l h : Int} (e : sliceI xs l h = some ys) : natOf (il l) = some l.toNat ∧ natOf (il h) = some h.toNat := by
  unfold sliceI at e
  split at e
  · rename_i h0
    refine ⟨by simp [natOf, h0.1], ?_⟩
    have : 0 ≤ h := by omega
    simp [natOf, this]
  · cases e
theorem sll (en : α → List V) {xs ys : List α} {l h : Int} (e : sliceI xs l h = some ys) : l.toNat ≤ h.toNat ∧ h.toNat ≤ (xs.map en).length := by
  unfold sliceI at e
  split at e
  · rename_i h0
    rw [List.length_map]
    omega
  · cases e
theorem slr (en : α → List V) {xs ys : List α} {l h : Int} (e : sliceI xs l h = some ys) : ((xs.map en).drop l.toNat).take (h.toNat - l.toNat) = ys.map en := by
  unfold sliceI at e
  split at e
  · injection e with e; rw [← e, List.map_take, List.map_drop]
  · cases e
end
/-! ### rows of scalars -/
def encI (n : Int) : List V := [.lit (.int .i64 n)]
def encU (n : Int) : List V := [.lit (.int .u8 n)]
def encB (b : Bool) : List V := [.lit (.bool b)]
def encS (b : ByteArray) : List V := [.lit (.string b)]
theorem encI_len (n : Int) : (encI n).length = 1 := rfl
theorem encU_len (n : Int) : (encU n).length = 1 := rfl
theorem encB_len (n : Bool) : (encB n).length = 1 := rfl
theorem encS_len (n : ByteArray) : (encS n).length = 1 := rfl
theorem encI_lit (n : Int) : (encI n).all isLit = true := rfl
theorem encU_lit (n : Int) : (encU n).all isLit = true := rfl
theorem encB_lit (n : Bool) : (encB n).all isLit = true := rfl
theorem encS_lit (n : ByteArray) : (encS n).all isLit = true := rfl
abbrev iu (n : Int) : V := .lit (.int .u8 n)
abbrev ss (b : ByteArray) : V := .lit (.string b)
def strL (l : List UInt8) : ByteArray := ⟨l.toArray⟩
section
variable {α : Type}
def setO (xs : List α) (i : Int) (a : α) : Option (List α) := some (xs.set i.toNat a)
theorem seto (e : α → List V) {xs ys : List α} {i : Int} {a : α} (h : setO xs i a = some ys) : (xs.map e).set i.toNat (e a) = ys.map e := by
  unfold setO at h
  injection h with h
  rw [← h, List.map_set]
theorem setl (e : α → List V) {xs ys : List α} {i : Int} {a : α} (h : setO xs i a = some ys) : (xs.map e).length = (ys.map e).length := by
  rw [← seto e h, List.length_set]
theorem lz (e : α → List V) {xs : List α} (h : decide (xs.length = 0) = true) : (xs.map e).length = 0 := by
  rw [List.length_map]; exact of_decide_eq_true h
theorem lnz (e : α → List V) {xs : List α} (h : decide (xs.length = 0) = false) : (xs.map e).length ≠ 0 := by
  rw [List.length_map]; exact of_decide_eq_false h
theorem ixc (e : α → List V) {xs ys : List α} {i : Int} {a : α} (h : idx ys i = some a) (hl : (xs.map e).length = (ys.map e).length) : i.toNat < (xs.map e).length := hl ▸ ixl e h
theorem aplc (e : α → List V) {sz : Nat} {xs ys zs ws : List α} (h : appI sz xs ys = some zs) (hl : (ws.map e).length = (xs.map e).length) : ((ws.map e).length + (ys.map e).length) * sz ≤ 140737488355328 ∧ (ws.map e).length + (ys.map e).length ≤ 9223372036854775807 := hl ▸ apl e h
def lenE {β : Type} (xs : List α) (ys : List β) : Option Unit := if xs.length = ys.length then some () else none
theorem lenq (e : α → List V) {xs ys : List α} {u : Unit} (h : lenE xs ys = some u) : (xs.map e).length = (ys.map e).length := by
  unfold lenE at h
  split at h
  · rename_i hh; simpa using hh
  · cases h
theorem sla (en : α → List V) {xs ys : List α} {l h : Int} (e : sliceI xs l h = some ys) : l.toNat + (h.toNat - l.toNat) ≤ (xs.map en).length := by
  have := sll en e
  omega
theorem sln2 {xs ys : List α} {l h : Int} (e : sliceI xs l h = some ys) : h.toNat - l.toNat = ys.length := by
  unfold sliceI at e
  split at e
  · injection e with e; rw [← e, List.length_take, List.length_drop]; omega
  · cases e
end
/-! ### numbers -/
def FU : Nat := 18446744073709551616
def w64 (n : Int) : Int := IntKind.i64.wrap n
def w8 (n : Int) : Int := IntKind.u8.wrap n
def addW (a b : Int) : Int := IntKind.i64.wrap (a + b)
def subW (a b : Int) : Int := IntKind.i64.wrap (a - b)
def mulW (a b : Int) : Int := IntKind.i64.wrap (a * b)
def quoW (a b : Int) : Int := IntKind.i64.wrap (a.tdiv b)
def remW (a b : Int) : Int := a.tmod b
def andW (a b : Int) : Int := IntKind.i64.wrap ((BitVec.ofInt IntKind.i64.bits a &&& BitVec.ofInt IntKind.i64.bits b).toNat)
def orW (a b : Int) : Int := IntKind.i64.wrap ((BitVec.ofInt IntKind.i64.bits a ||| BitVec.ofInt IntKind.i64.bits b).toNat)
def xorW (a b : Int) : Int := IntKind.i64.wrap ((BitVec.ofInt IntKind.i64.bits a ^^^ BitVec.ofInt IntKind.i64.bits b).toNat)
def andNotW (a b : Int) : Int := IntKind.i64.wrap ((BitVec.ofInt IntKind.i64.bits a &&& ~~~BitVec.ofInt IntKind.i64.bits b).toNat)
def shlW (a b : Int) : Int := IntKind.i64.wrap (a * 2 ^ min b.toNat IntKind.i64.bits)
def shrW (a b : Int) : Int := a.fdiv (2 ^ min b.toNat IntKind.i64.bits)
def negW (a : Int) : Int := IntKind.i64.wrap (0 - a)
def addW8 (a b : Int) : Int := IntKind.u8.wrap (a + b)
def subW8 (a b : Int) : Int := IntKind.u8.wrap (a - b)
def mulW8 (a b : Int) : Int := IntKind.u8.wrap (a * b)
def quoW8 (a b : Int) : Int := IntKind.u8.wrap (a.tdiv b)
def remW8 (a b : Int) : Int := a.tmod b
def minI (x y : Int) : Int := if y < x then y else x
def maxI (x y : Int) : Int := if y > x then y else x
theorem w64_of {n : Int} (h1 : -9223372036854775808 ≤ n) (h2 : n < 9223372036854775808) : w64 n = n := by
  simp [w64, IntKind.wrap, IntKind.bits, IntKind.signed]; omega
def nzI (b : Int) : Option Unit := if b = 0 then none else some ()
theorem nz0 {b : Int} {u : Unit} (h : nzI b = some u) : b ≠ 0 := by
  unfold nzI at h; split at h
  · cases h
  · assumption
def nnI (b : Int) : Option Unit := if 0 ≤ b then some () else none
theorem nn0 {b : Int} {u : Unit} (h : nnI b = some u) : 0 ≤ b := by
  unfold nnI at h; split at h
  · assumption
  · cases h
def catI (a b : ByteArray) : Option Unit := if ((a.size + b.size : Nat) : Int) > IntKind.i64.max then none else some ()
theorem cat0 {a b : ByteArray} {u : Unit} (h : catI a b = some u) : ¬ ((a.size + b.size : Nat) : Int) > IntKind.i64.max := by
  unfold catI at h; split at h
  · cases h
  · assumption
/-! ### places in code -/
def bodyOf (f : Func) : Code := f.body.getD .skip
def at_ : List Nat → Code → List It → List It
  | 0 :: p, .seq a b, k => at_ p a (.c b :: k)
  | _ :: p, .seq _ b, k => at_ p b k
  | 0 :: p, .cond _ a _, k => at_ p a k
  | _ :: p, .cond _ _ b, k => at_ p b k
  | _ :: p, .block i c, k => at_ p c (.blk i :: k)
  | _ :: p, .loop c, k => at_ p c (.c (.loop c) :: k)
  | _, c, k => .c c :: k
end Go.Proofs.Ytolbhpampnjinaa.Ev
