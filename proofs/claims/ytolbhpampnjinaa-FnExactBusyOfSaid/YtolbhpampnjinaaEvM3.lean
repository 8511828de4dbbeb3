/- A pure evaluator of the translated program's code, and that it is sound (part 3). Conditions: those in each line. -/
import Derived.Test.YtolbhpampnjinaaEvM2
import Derived.ChangeOld
import Derived.OpenShut
import Derived.ProofKit
import Derived.WalkKit
/- The evaluator is sound: what it answers is what the call answers. The conditions are in each theorem's own line. -/
namespace Go.Proofs.Ytolbhpampnjinaa.Ev
open Go Go.RowKit
set_option linter.unusedVariables false
set_option linter.unusedSimpArgs false
section
variable {P : Program} {M : Hints} {C : CallF}

theorem gives_plain : ∀ {xs : List V} {s s' : St} {ts : List TypeId} {ms : List Mode} {ys : List V}, s.gives P ts ms xs = some (ys, s') → plains ms xs = true → plains ms ys = true := by
  intro xs
  induction xs with
  | nil =>
    intro s s' ts ms ys h _
    simp only [St.gives, Option.some.injEq, Prod.mk.injEq] at h
    rw [← h.1]; rfl
  | cons x xs ih =>
    intro s s' ts ms ys h hp
    simp only [St.gives] at h
    obtain ⟨⟨y1, s1⟩, h1, h⟩ := Option.bind_eq_some_iff.1 h
    obtain ⟨⟨y2, s2⟩, h2, h⟩ := Option.map_eq_some_iff.1 h
    simp only [Prod.mk.injEq] at h
    obtain ⟨rfl, rfl⟩ := h
    simp only [plains, Bool.and_eq_true] at hp ⊢
    refine ⟨?_, ih h2 hp.2⟩
    unfold St.give at h1
    unfold plainM at hp ⊢
    split at h1
    · rename_i hm
      rw [hm] at hp ⊢
      simp only [Option.some.injEq, Prod.mk.injEq] at h1
      rw [← h1.1]; exact hp.1
    all_goals (rename_i hm; rw [hm])

theorem isTr_okm {w : World} {ok ok' top : Nat → Prop} {v : Value} {x : V} {fp : List Nat} (h : Giv P w ok top v x fp) (ht : isTr x = false) : Giv P w ok' top v x fp := by
  cases h with
  | lit h => exact .lit h
  | tr h => simp [isTr] at ht
  | own h k => exact .own h k
theorem isTr_okmL {w : World} {ok ok' top : Nat → Prop} {v : List Value} {x : List V} {fp : List Nat} (h : GivL P w ok top v x fp) (ht : x.any isTr = false) : GivL P w ok' top v x fp := by
  induction h with
  | nil => exact .nil
  | cons h _ ih =>
    simp only [List.any_cons, Bool.or_eq_false_iff] at ht
    exact .cons (isTr_okm h ht.1) (ih ht.2)
theorem hasTr1_okm {w : World} {ok ok' top : Nat → Prop} {v : Value} {x : V} {fp : List Nat} (h : GivO P w ok top v x fp) (ht : hasTr1 x = false) : GivO P w ok' top v x fp := by
  cases x
  case agg cs => obtain ⟨us, h1, h2⟩ := h; exact ⟨us, h1, isTr_okmL h2 ht⟩
  case obx cs => obtain ⟨g, cur, e, fp', h1, h2, h3, h4, h5⟩ := h; exact ⟨g, cur, e, fp', h1, h2, isTr_okmL h3 ht, h4, h5⟩
  all_goals exact isTr_okm h ht
theorem hasTrL_okm {w : World} {ok ok' top : Nat → Prop} {v : List Value} {x : List V} {fp : List Nat} (h : GivOL P w ok top v x fp) (ht : x.any hasTr1 = false) : GivOL P w ok' top v x fp := by
  induction h with
  | nil => exact .nil
  | cons h _ ih =>
    simp only [List.any_cons, Bool.or_eq_false_iff] at ht
    exact .cons (hasTr1_okm h ht.1) (ih ht.2)
theorem hasTr_okm {w : World} {ok ok' top : Nat → Prop} {v : Value} {x : V} {fp : List Nat} (h : ResR P w ok top v x fp) (ht : hasTr x = false) : ResR P w ok' top v x fp := by
  cases x
  case tup rs => obtain ⟨us, h1, h2⟩ := h; exact ⟨us, h1, hasTrL_okm h2 ht⟩
  all_goals (simp only [ResR] at h ⊢; exact hasTr1_okm h ht)
theorem outR_okm {w : World} {ok ok' top : Nat → Prop} {m : Mode} {u : Value} {x o : V} {fp : List Nat} (h : OutR P w ok top m u x o fp) (ht : (∀ g, ok g → ok' g) ∨ hasTr1 o = false) : OutR P w ok' top m u x o fp := by
  cases m
  · exact h
  · obtain ⟨cs, cs', h1, rfl, h3, h4⟩ := h
    refine ⟨cs, cs', h1, rfl, h3, ?_⟩
    rcases ht with ht | ht
    · exact h4.okm ht
    · exact hasTr1_okm h4 ht
  · exact h
  · exact h
theorem outsR_okm {w : World} {ok ok' top : Nat → Prop} {ms : List Mode} {us : List Value} {xs os : List V} {fp : List Nat} (h : OutsR P w ok top ms us xs os fp) (ht : (∀ g, ok g → ok' g) ∨ os.any hasTr1 = false) : OutsR P w ok' top ms us xs os fp := by
  induction h with
  | nil => exact .nil
  | cons h _ ih =>
    refine .cons (outR_okm h (ht.imp (fun h => h) (fun h => by simp only [List.any_cons, Bool.or_eq_false_iff] at h; exact h.1))) (ih (ht.imp (fun h => h) (fun h => by simp only [List.any_cons, Bool.or_eq_false_iff] at h; exact h.2)))
theorem resR_okm {w : World} {ok ok' top : Nat → Prop} {v : Value} {x : V} {fp : List Nat} (h : ResR P w ok top v x fp) (ht : ∀ g, ok g → ok' g) : ResR P w ok' top v x fp := by
  cases x
  case tup rs => obtain ⟨us, h1, h2⟩ := h; exact ⟨us, h1, h2.okm ht⟩
  all_goals (simp only [ResR] at h ⊢; exact GivO.okm h ht)

/-- What the callee gets and what was given are the same, but for what is only read. -/
theorem outsR_ys {w : World} {ok top : Nat → Prop} : ∀ {ys : List V} {ms : List Mode} {us : List Value} {xs os : List V} {fp : List Nat} {s : St}, s.rdAll ms ys = some xs → OutsR P w ok top ms us xs os fp → OutsR P w ok top ms us ys os fp := by
  intro ys
  induction ys with
  | nil =>
    intro ms us xs os fp s hr h
    simp only [St.rdAll, Option.some.injEq] at hr
    subst hr
    exact h
  | cons y ys ih =>
    intro ms us xs os fp s hr h
    simp only [St.rdAll] at hr
    obtain ⟨z, h1, hr⟩ := Option.bind_eq_some_iff.1 hr
    obtain ⟨zs, h2, rfl⟩ := Option.map_eq_some_iff.1 hr
    cases h with
    | cons h hs =>
      refine .cons ?_ (ih h2 hs)
      unfold St.rdArgM at h1
      cases hm : ms.headD .rd with
      | rd => rw [hm] at h; exact h
      | io => rw [hm] at h h1; simp only [Option.some.injEq] at h1; subst h1; exact h
      | mv => rw [hm] at h; exact h
      | iov => rw [hm] at h h1; simp only [Option.some.injEq] at h1; subst h1; exact h

theorem calls_ok (hP : FuncsOk P) (hcon : ∀ (f : FuncId) (xs : List V) (r : V) (os : List V), C f xs = some (r, os) → (∃ fn, P.funcs[f]? = some fn ∧ fn.body.isSome = true) ∧ Contract P (M.modes f) f xs r os) : CallsOk P M C := by
  intro B io w tmps s ρ F fl k v s' h hnew g args us hsz hen he
  unfold evCall at he
  split at he
  case isFalse => cases he
  rename_i hl8
  obtain ⟨⟨ys, s1⟩, hgive, he⟩ := Option.bind_eq_some_iff.1 he
  obtain ⟨xs, hrd, he⟩ := Option.bind_eq_some_iff.1 he
  obtain ⟨⟨r, os⟩, hc, he⟩ := Option.bind_eq_some_iff.1 he
  simp only at hrd he
  split at he
  case isTrue => cases he
  rename_i hplain
  obtain ⟨s2, hback, hres⟩ := Option.bind_eq_some_iff.1 he
  obtain ⟨⟨fn, hfn, hbody⟩, hcontract⟩ := hcon g xs r os hc
  have hen' : ∀ (j : Nat) (u : Value) (x : V), us.toList[j]? = some u → args[j]? = some x → En w (okS s ρ w) ρ u x := fun j u x hu hx => hen j u x (by simpa using hu) hx
  obtain ⟨G, hR1, hargsP, hless⟩ := gives_ok h args (us := us.toList) h (.refl _) (by simpa using hsz) hen' hgive
  have hbk := gives_bk h (.refl _) (by simpa using hsz) hen' hgive
  have hkill := gives_kill hgive
  refine ⟨fn, hfn, hbody, hP.name g fn hfn, ?_⟩
  have hGn := (List.nodup_append.1 hR1.flOnce).1
  have hGlt : ∀ x ∈ G, x < w.heap.size := fun x hx => hR1.flMine x (List.mem_append_left _ hx)
  -- the tops of what is handed over
  let T : Nat → Prop := Killed s s1 ρ F
  have hTtop : ∀ x, T x → tops s ρ x := fun x ⟨id, b, h1, h2, h3, h4, _⟩ => h.head_tops h1 h2 h4
  have htops1 : ∀ x, tops s1 ρ x → tops s ρ x := fun x ⟨id, b, o, c, sz, h1, h2, h3⟩ => ⟨id, b, o, c, sz, hless.sub id b h1, h2, h3⟩
  have halive : ∀ id b, s1.heap id = some b → b.own = true → ∀ x ∈ F id, ¬ T x := fun id b hb ho x hx ⟨id2, b2, h1, h2, h3, h4, _⟩ => by
    have hne : id ≠ id2 := fun e => by subst e; rw [hb] at h3; cases h3
    have hx2 : x ∈ F id2 := by
      cases hf : F id2 with
      | nil => rw [hf] at h4; simp at h4
      | cons y l => rw [hf] at h4; have : y = x := by simpa using h4
                    subst this; exact List.mem_cons_self
    exact h.apart id id2 b b2 (hless.sub id b hb) ho h1 h2 hne x hx hx2
  have halive1 : ∀ x, tops s1 ρ x → ¬ T x ∧ x ∉ G := fun x ⟨id, b, o, c, sz, h1, h2, h3⟩ => by
    have hx : x ∈ F id := by
      have := hR1.heap id b h1
      rw [h3] at this
      exact this.top h2
    exact ⟨halive id b h1 h2 x hx, fun hg => hR1.flApart id b h1 h2 x hx (List.mem_append_left _ hg)⟩
  -- behind the call
  have behind : ∀ (X : Nat → Prop) (ok0 : Nat → Prop), (∀ x, okS s ρ w x → ok0 x) → (∀ x, ok0 x → x < w.heap.size ∧ ¬ T x) → (hasTr r = false ∧ os.any hasTr1 = false ∨ (∀ x, tops s1 ρ x → X x)) → ∀ (val : Value) (w' : World), Done P (M.modes g) w us xs G T X r os val w' → Stp P B io w tmps s ρ fl k v s' val w' := by
    intro X ok0 _ _ htrX val w' hd
    obtain ⟨hleft, ok', top', fr, fo, hresR, houts, hnd, hsrc, htop', hok'⟩ := hd
    -- what is looked at stays
    have hkeep : ∀ x, okS s ρ w x → w'.heap[x]? = w.heap[x]? := fun x hx => hleft.block x hx.2 (fun ht => hx.1 (hTtop x ht))
    have hkeepF : ∀ id b, s1.heap id = some b → ∀ x ∈ F id, w'.heap[x]? = w.heap[x]? := fun id b hb x hx => by
      refine hleft.block x (hR1.F_lt hb x hx) ?_
      cases ho : b.own with
      | true => exact halive id b hb ho x hx
      | false =>
        have hB := h.heap id b (hless.sub id b hb)
        unfold BlkR at hB
        rw [ho] at hB
        split at hB
        · cases hB.1
        · rename_i h2; cases h2
        · rw [hB.1] at hx; cases hx
    have hflk : ∀ x ∈ fl, x < w.heap.size := fun x hx => h.flMine x hx
    let okc : Nat → Prop := fun x => okS s ρ w x ∨ (ok' x ∧ ¬ tops s1 ρ x)
    have hRG : RelG P B io w' tmps s1 ρ F (fo ++ (fr ++ fl)) (fun x => okS s ρ w x ∨ (ok' x ∧ ¬ tops s1 ρ x)) := by
      refine ⟨fun t u hu => ?_, fun t ht => by rw [hless.env]; exact h.out t ht, fun id b hb => ?_, fun id b hb ho x hx => Nat.lt_of_lt_of_le (hR1.mine id b hb ho x hx) hleft.size, fun id b hb ho hcap x hx => hR1.top id b hb ho hcap x hx, hR1.apart, hR1.once, fun id hid => hR1.dom id hid, Nat.le_trans h.base hleft.size, fun x hx => ?_, fun id b hb ho x hx hx2 => ?_, ?_⟩
      · rw [hless.env]
        exact ((h.env t u hu).world hkeep).ext (fun x hx => .inl hx) (fun _ _ h => h)
      · exact ((h.heap id b (hless.sub id b hb)).world hkeep (hkeepF id b hb)).ext (fun x hx => .inl hx) (fun _ _ h => h)
      · rcases List.mem_append.1 hx with hx | hx
        · exact (hsrc x (List.mem_append_right _ hx)).1
        · rcases List.mem_append.1 hx with hx | hx
          · exact (hsrc x (List.mem_append_left _ hx)).1
          · exact Nat.lt_of_lt_of_le (hflk x hx) hleft.size
      · have hlt := hR1.mine id b hb ho x hx
        have nf : x ∉ fr ++ fo := fun hm => by
          rcases (hsrc x hm).2 with hG | hge
          · exact hR1.flApart id b hb ho x hx (List.mem_append_left _ hG)
          · omega
        rcases List.mem_append.1 hx2 with hx2 | hx2
        · exact nf (List.mem_append_right _ hx2)
        · rcases List.mem_append.1 hx2 with hx2 | hx2
          · exact nf (List.mem_append_left _ hx2)
          · exact hR1.flApart id b hb ho x hx (List.mem_append_right _ hx2)
      · have n1 : ((fr ++ fo) ++ fl).Nodup := List.nodup_append.2 ⟨hnd, h.flOnce, fun x hx y hy e => by
          subst e
          rcases (hsrc x hx).2 with hG | hge
          · exact (List.nodup_append.1 hR1.flOnce).2.2 x hG x hy rfl
          · have := hflk x hy; omega⟩
        have p1 : (fo ++ (fr ++ fl)).Perm ((fr ++ fo) ++ fl) := by
          rw [← List.append_assoc]
          exact List.Perm.append_right _ List.perm_append_comm
        exact p1.nodup_iff.2 n1
    have htopio : ∀ x, top' x → io x ∨ B ≤ x := fun x hx => by
      rcases htop' x hx with ⟨id, b, h1, h2, h3, h4, h5⟩ | hge
      · exact h.top id b h1 h2 h5 x h4
      · have := h.base; exact .inr (by omega)
    -- trees that are looked at
    have htrok : hasTr r = false ∧ os.any hasTr1 = false ∨ ∀ x, ok' x → (okS s ρ w x ∨ (ok' x ∧ ¬ tops s1 ρ x)) := by
      rcases htrX with h1 | h1
      · exact .inl h1
      · exact .inr fun x hx => .inr ⟨hx, fun ht => (hok' x hx).2.2 (h1 x ht)⟩
    have houts2 : OutsR P w' (fun x => okS s ρ w x ∨ (ok' x ∧ ¬ tops s1 ρ x)) top' (M.modes g) us.toList ys os fo :=
      outsR_okm (outsR_ys hrd houts) (htrok.symm.imp (fun h => h) (fun h => h.2))
    have hresR2 : ResR P w' (fun x => okS s ρ w x ∨ (ok' x ∧ ¬ tops s1 ρ x)) top' val r fr := by
      rcases htrok with h1 | h1
      · exact hasTr_okm hresR h1.1
      · exact resR_okm hresR h1
    have hfree : ∀ id : Id, id.1 = s.ep → id.2 / 1024 = k → ρ id = none ∧ s1.heap id = none := fun id h1 h2 => by
      have hn := hnew id h1 h2
      refine ⟨hn, ?_⟩
      cases hb : s1.heap id with
      | none => rfl
      | some b =>
        exfalso
        have hB := hR1.heap id b hb
        rw [hn] at hB
        unfold BlkR at hB
        split at hB
        · obtain ⟨_, _, _, _, _, hi, _⟩ := hB; cases hi
        · rcases hB with ⟨hi, _⟩ | ⟨_, _, _, _, hi, _⟩ <;> cases hi
        · obtain ⟨_, hB⟩ := hB
          rcases hB with ⟨hi, _⟩ | ⟨_, _, _, _, hi, _⟩ <;> cases hi
    obtain ⟨ρ2, F2, t2⟩ := backs_ok (e := s.ep) (k := 16 * k + 8) args hRG hbk houts2 (fun j u x hu hx => ⟨w, okS s ρ w, hen' j u x hu hx⟩) htopio (by rw [hless.ep]; exact Nat.le_refl _) (fun j hj hlt => hfree _ rfl (by simp only; omega)) hkill.1.1 (fun id hid => (hkill.1.2 id hid).1) hback
    have hbkρ : ∀ id ∈ bkMs (M.modes g) args, ∀ j, 64 * (16 * k) ≤ j → j < 64 * (16 * k + 8) → id ≠ (s.ep, j) := fun id hid j hj hlt e => by
      subst e
      obtain ⟨b, hb⟩ := (hkill.1.2 _ hid).2
      have hB := h.heap _ b hb
      rw [hnew (s.ep, j) rfl (by simp only; omega)] at hB
      unfold BlkR at hB
      split at hB
      · obtain ⟨_, _, _, _, _, hi, _⟩ := hB; cases hi
      · rcases hB with ⟨hi, _⟩ | ⟨_, _, _, _, hi, _⟩ <;> cases hi
      · obtain ⟨_, hB⟩ := hB
        rcases hB with ⟨hi, _⟩ | ⟨_, _, _, _, hi, _⟩ <;> cases hi
    obtain ⟨ρ3, F3, t3, en3⟩ := takeRes_ok (e := s.ep) (k := 16 * k) t2.rel hresR2 htopio (by rw [t2.ep, hless.ep]; exact Nat.le_refl _) (fun j hj hlt => by
      obtain ⟨a1, a2⟩ := hfree (s.ep, j) rfl (by simp only; omega)
      have hnJ : ¬ ((((s.ep, j) : Id).1 = s.ep ∧ 64 * (16 * k + 8) ≤ ((s.ep, j) : Id).2 ∧ ((s.ep, j) : Id).2 < 64 * (16 * k + 8 + args.length)) ∨ (s.ep, j) ∈ bkMs (M.modes g) args) := fun hh => by
        rcases hh with hh | hh
        · have := hh.2.1; simp only at this; omega
        · exact hbkρ _ hh j hj hlt rfl
      refine ⟨?_, by rw [t2.heap _ hnJ]; exact a2⟩
      cases hr : ρ2 (s.ep, j) with
      | none => rfl
      | some i =>
        rcases t2.dom _ (by rw [hr]; rfl) with hh | hh
        · rw [a1] at hh; cases hh
        · exact absurd hh hnJ) hres
    have hfin : ∀ x, (okS s ρ w x ∨ (ok' x ∧ ¬ tops s1 ρ x)) → okS s' ρ3 w' x := fun x hx => by
      have htopx : tops s' ρ3 x → tops s1 ρ x ∨ top' x := fun ht => by
        rcases t3.tops x ht with h1 | h1
        · exact t2.tops x h1
        · exact .inr h1
      rcases hx with hx | hx
      · refine ⟨fun ht => ?_, Nat.lt_of_lt_of_le hx.2 hleft.size⟩
        rcases htopx ht with h1 | h1
        · exact hx.1 (htops1 x h1)
        · rcases htop' x h1 with h2 | h2
          · exact hx.1 (hTtop x h2)
          · have := hx.2; omega
      · refine ⟨fun ht => ?_, (hok' x hx.1).1⟩
        rcases htopx ht with h1 | h1
        · exact hx.2 h1
        · exact (hok' x hx.1).2.1 h1
    refine ⟨by rw [t3.env, t2.env, hless.env], by rw [t3.ep, t2.ep, hless.ep], ⟨hleft.os, hleft.tape, hleft.output, hleft.size, fun x hx hio => hleft.block x (by have := h.base; omega) (fun ⟨id, b, h1, h2, h3, h4, h5⟩ => ?_)⟩, ρ3, F3, t3.rel.toRel hfin, en3.ext hfin (fun _ _ h => h), fun id i hi => t3.ext id i (t2.ext id i hi), fun id hid => ?_⟩
    · rcases h.top id b h1 h2 h5 x h4 with h6 | h6
      · exact hio h6
      · omega
    · rcases t3.dom id hid with h1 | h1
      · rcases t2.dom id h1 with h2 | h2
        · exact .inl h2
        · rcases h2 with h2 | h2
          · exact .inr ⟨h2.1, by omega⟩
          · left
            obtain ⟨b, hb⟩ := (hkill.1.2 id h2).2
            have hB := h.heap id b hb
            cases hr : ρ id with
            | some i => rfl
            | none =>
              exfalso
              rw [hr] at hB
              unfold BlkR at hB
              split at hB
              · obtain ⟨_, _, _, _, _, hi, _⟩ := hB; cases hi
              · rcases hB with ⟨hi, _⟩ | ⟨_, _, _, _, hi, _⟩ <;> cases hi
              · obtain ⟨_, hB⟩ := hB
                rcases hB with ⟨hi, _⟩ | ⟨_, _, _, _, hi, _⟩ <;> cases hi
      · exact .inr ⟨h1.1, by omega⟩
  -- two ways: with views among what is handed back, or without
  by_cases htr : hasTr r = false ∧ os.any hasTr1 = false
  · have hok0 : ∀ x, okS s ρ w x → x < w.heap.size ∧ ¬ T x ∧ ¬ False := fun x hx => ⟨hx.2, fun ht => hx.1 (hTtop x ht), fun h => h⟩
    refine (hcontract w us G T (fun _ => False) (fun x => x < w.heap.size ∧ ¬ T x) ?_ hGn (fun x hx => ⟨hGlt x hx, fun h => h⟩) (fun x hx => ⟨hx.1, hx.2, fun h => h⟩) (fun x hx => hx.elim)).mono (fun e w' ⟨val, he, hd⟩ => ⟨val, he, behind _ (fun x => x < w.heap.size ∧ ¬ T x) (fun x hx => ⟨(hok0 x hx).1, (hok0 x hx).2.1⟩) (fun x hx => hx) (.inl htr) val w' hd⟩)
    refine rdAll_ok h hless (fun x hx => ⟨(hok0 x hx).1, (hok0 x hx).2.1⟩) hargsP (.inr fun id b x o c sz hb ho hρ => ?_) hrd
    have hx : x ∈ F id := by
      have := hR1.heap id b hb
      rw [hρ] at this
      exact this.top ho
    exact ⟨hR1.mine id b hb ho x hx, halive id b hb ho x hx⟩
  · have hpl : plains (M.modes g) args = true := by
      cases hp : plains (M.modes g) args with
      | true => rfl
      | false =>
        exfalso
        apply hplain
        rw [hp]
        cases h1 : hasTr r <;> cases h2 : os.any hasTr1 <;> simp
        exact htr ⟨h1, h2⟩
    refine (hcontract w us G T (tops s1 ρ) (okS s ρ w) ?_ hGn (fun x hx => ⟨hGlt x hx, fun ht => (halive1 x ht).2 hx⟩) (fun x hx => ⟨hx.2, fun ht => hx.1 (hTtop x ht), fun ht => hx.1 (htops1 x ht)⟩) (fun x hx => ?_)).mono (fun e w' ⟨val, he, hd⟩ => ⟨val, he, behind _ (okS s ρ w) (fun x hx => hx) (fun x hx => ⟨hx.2, fun ht => hx.1 (hTtop x ht)⟩) (.inr fun x hx => hx) val w' hd⟩)
    · exact rdAll_ok h hless (fun x hx => hx) hargsP (.inl (gives_plain hgive hpl)) hrd
    · obtain ⟨id, b, o, c, sz, h1, h2, h3⟩ := hx
      have hB := hR1.heap id b h1
      rw [h3] at hB
      unfold BlkR at hB
      split at hB
      · obtain ⟨_, g', cur, e, row, hi, hg, _⟩ := hB
        cases hi
        exact ⟨cur, e, hg⟩
      · rcases hB with ⟨hi, _⟩ | ⟨g', o', c', cur, hi, hg, _⟩
        · cases hi
        · cases hi; exact ⟨cur, _, hg⟩
      · rename_i hh; rw [h2] at hh; cases hh

/-- THE EVALUATOR IS SOUND. -/
theorem evF_ok (hP : FuncsOk P) {E : CallF} {ex : FuncId → Bool} (hE : ∀ (f : FuncId) (xs : List V) (r : V) (os : List V), ex f = true → E f xs = some (r, os) → (∃ fn, P.funcs[f]? = some fn ∧ fn.body.isSome = true) ∧ Contract P (M.modes f) f xs r os) :
    ∀ (n : Nat) (f : FuncId) (xs : List V) (r : V) (os : List V), evF P M E ex n f xs = some (r, os) → (∃ fn, P.funcs[f]? = some fn ∧ fn.body.isSome = true) ∧ Contract P (M.modes f) f xs r os := by
  intro n
  induction n with
  | zero => intro f xs r os h; simp [evF] at h
  | succ n ih =>
    intro f xs r os h
    simp only [evF] at h
    split at h
    · rename_i hx; exact hE f xs r os hx h
    · refine ⟨?_, evBody_ok hP (calls_ok hP ih) h⟩
      unfold evBody at h
      obtain ⟨fn, h1, h⟩ := Option.bind_eq_some_iff.1 h
      obtain ⟨c, h2, _⟩ := Option.bind_eq_some_iff.1 h
      exact ⟨fn, h1, by rw [h2]; rfl⟩
end
end Go.Proofs.Ytolbhpampnjinaa.Ev
/- The evaluator's limit: fuel is no matter, and a function's equation asks only for its body. No condition. -/
namespace Go.Proofs.Ytolbhpampnjinaa.Ev
open Go
set_option linter.unusedVariables false
set_option linter.unusedSimpArgs false
section
variable {P : Program} {M : Hints}

/-- A question that a computation asked of the calls, and what it was answered. -/
abbrev Ask := FuncId × List V × (V × List V)
def Told (C : CallF) (l : List Ask) : Prop := ∀ q, q ∈ l → C q.1 q.2.1 = some q.2.2
/-- It asks finitely many calls, and what they answer settles it. -/
def Few {α : Type} (F : CallF → Option α) : Prop := ∀ (C : CallF) (y : α), F C = some y → ∃ l, Told C l ∧ ∀ C', Told C' l → F C' = some y

theorem Few.const {α : Type} (x : Option α) : Few (fun _ => x) := fun C y h => ⟨[], (fun q hq => by simp at hq), fun _ _ => h⟩
theorem Few.bind {α β : Type} {F : CallF → Option α} {G : α → CallF → Option β} (hF : Few F) (hG : ∀ a, Few (G a)) : Few (fun C => (F C).bind fun a => G a C) := by
  intro C y h
  obtain ⟨a, h1, h2⟩ := Option.bind_eq_some_iff.1 h
  obtain ⟨l1, t1, u1⟩ := hF C a h1
  obtain ⟨l2, t2, u2⟩ := hG a C y h2
  refine ⟨l1 ++ l2, fun q hq => (List.mem_append.1 hq).elim (t1 q) (t2 q), fun C' t => ?_⟩
  show (F C').bind (fun a => G a C') = some y
  rw [u1 C' (fun q hq => t q (List.mem_append_left _ hq))]
  exact u2 C' (fun q hq => t q (List.mem_append_right _ hq))
theorem Few.map {α β : Type} {F : CallF → Option α} (f : α → β) (hF : Few F) : Few (fun C => (F C).map f) := by
  have h := hF.bind (fun a => Few.const (some (f a)))
  intro C y hy
  have e : ∀ C, (F C).map f = (F C).bind fun a => some (f a) := fun C => by cases F C <;> rfl
  simp only [e] at hy ⊢
  exact h C y hy
theorem Few.ite {α : Type} {c : Prop} [Decidable c] {F G : CallF → Option α} (hF : Few F) (hG : Few G) : Few (fun C => if c then F C else G C) := by
  by_cases hc : c
  · simpa only [hc, if_true] using hF
  · simpa only [hc, if_false] using hG
theorem Few.ask (g : FuncId) (xs : List V) : Few (fun C => C g xs) := fun C y h => ⟨[(g, xs, y)], (fun q hq => by simp only [List.mem_singleton] at hq; subst hq; exact h), fun C' t => t _ (List.mem_singleton.2 rfl)⟩
theorem Few.mono {α : Type} {F : CallF → Option α} (hF : Few F) {C C' : CallF} {y : α} (hC : ∀ f xs y, C f xs = some y → C' f xs = some y) (h : F C = some y) : F C' = some y := by
  obtain ⟨l, t, u⟩ := hF C y h
  exact u C' (fun q hq => hC _ _ _ (t q hq))

theorem evCall_few (s : St) (k : Nat) (g : FuncId) (args : List V) : Few (fun C => evCall P M C s k g args) := by
  unfold evCall
  refine Few.ite ?_ (Few.const _)
  refine (Few.const _).bind fun y => (Few.const _).bind fun xs => (Few.ask g xs).bind fun r => Few.const _
theorem evOpV_few (v : Operand → V) (s : St) (k : Nat) (o : Oper) : Few (fun C => evOpV P M C v s k o) := by
  by_cases hc : ∃ c f g caps, o.op = .call c ∧ c.callee = .value f ∧ v f = .fn g caps
  · obtain ⟨c, f, g, caps, h1, h2, h3⟩ := hc
    have e : (fun C => evOpV P M C v s k o) = fun C => evCall P M C s k g (c.args.toList.map v ++ caps) := by
      funext C
      simp only [evOpV, h1, h2, h3]
    rw [e]
    exact evCall_few s k g _
  · have e : ∀ C C', evOpV P M C v s k o = evOpV P M C' v s k o := by
      intro C C'
      unfold evOpV
      cases ho : o.op with
      | call c =>
        simp only []
        cases hcal : c.callee with
        | value f =>
          simp only []
          cases hv : v f with
          | fn g caps => exact absurd ⟨c, f, g, caps, ho, hcal, hv⟩ hc
          | _ => rfl
        | builtin b => cases b <;> rfl
        | _ => rfl
      | makeFunc f a b => cases f <;> rfl
      | slice a b c d e => cases e <;> rfl
      | _ => rfl
    have e2 : (fun C => evOpV P M C v s k o) = fun _ => evOpV P M (fun _ _ => none) v s k o := by funext C; exact e _ _
    rw [e2]
    exact Few.const _
theorem evOps_few (ops : Array Oper) : ∀ (l : List Oper) (k : Nat) (s : St), Few (fun C => evOps P M C ops s k l) := by
  intro l
  induction l with
  | nil => intro k s; exact Few.const _
  | cons o l ih =>
    intro k s
    simp only [evOps]
    refine (Few.const _).bind fun g => Few.ite ((evOpV_few _ s k o).bind fun y => ih (k + 1) _) (ih (k + 1) _)
theorem evDraw_few (ops : Array Oper) : ∀ (l : List Oper) (k : Nat) (s : St) (recs : List Rec), Few (fun C => evDraw P M C ops s recs k l) := by
  intro l
  induction l with
  | nil => intro k s recs; exact Few.const _
  | cons o l ih =>
    intro k s recs
    simp only [evDraw]
    refine (Few.const _).bind fun g => Few.ite (Few.ite ((evOpV_few _ _ k o).bind fun y => ih (k + 1) _ _) (Few.const _)) (Few.ite (ih (k + 1) _ _) (Few.const _))
theorem evCode_few : ∀ (n : Nat) (c : Code) (s : St), Few (fun C => evCode P M C n c s) := by
  intro n
  induction n with
  | zero => intro c s; exact Few.const _
  | succ n ih =>
    intro c s
    cases c with
    | region i ops d =>
      simp only [evCode]
      refine Few.map _ ?_
      exact Few.ite (Few.ite (evDraw_few _ _ _ _ _) (Few.const _)) (evOps_few _ _ _ _)
    | seq a b =>
      simp only [evCode]
      refine (ih a s).bind fun r => ?_
      cases hr : r.1 with
      | normal => exact ih b r.2
      | _ => exact Few.const _
    | cond c a b =>
      simp only [evCode]
      cases hv : s.opV c with
      | lit v => cases v with
        | bool t => exact Few.ite (ih a s) (ih b s)
        | _ => exact Few.const _
      | _ => exact Few.const _
    | block i c => simp only [evCode]; exact (ih c s).map _
    | loop c =>
      simp only [evCode]
      refine (ih c s).bind fun r => ?_
      cases hr : r.1 with
      | normal => exact ih (.loop c) r.2
      | _ => exact Few.const _
    | _ => exact Few.const _
theorem evCode_more {C : CallF} : ∀ {n : Nat} {c : Code} {s : St} {r : Ex × St}, evCode P M C n c s = some r → evCode P M C (n + 1) c s = some r := by
  intro n
  induction n with
  | zero => intro c s r h; simp [evCode] at h
  | succ n ih =>
    intro c s r h
    cases c with
    | seq a b =>
      simp only [evCode] at h
      obtain ⟨x, h1, h2⟩ := Option.bind_eq_some_iff.1 h
      show (evCode P M C (n + 1) a s).bind _ = some r
      rw [ih h1]
      show (match x.1 with | .normal => evCode P M C (n + 1) b x.2 | e => some (e, x.2)) = some r
      cases hx : x.1 <;> rw [hx] at h2
      · exact ih h2
      · exact h2
      · exact h2
    | cond c a b =>
      simp only [evCode] at h
      show (match s.opV c with | .lit (.bool t) => if t then evCode P M C (n + 1) a s else evCode P M C (n + 1) b s | _ => none) = some r
      cases hv : s.opV c with
      | lit v => cases v with
        | bool t =>
          rw [hv] at h
          cases t
          · exact ih h
          · exact ih h
        | _ => rw [hv] at h; cases h
      | _ => rw [hv] at h; cases h
    | block i c =>
      simp only [evCode] at h
      obtain ⟨x, h1, h2⟩ := Option.map_eq_some_iff.1 h
      show (evCode P M C (n + 1) c s).map _ = some r
      rw [ih h1]
      exact congrArg some h2
    | loop c =>
      simp only [evCode] at h
      obtain ⟨x, h1, h2⟩ := Option.bind_eq_some_iff.1 h
      show (evCode P M C (n + 1) c s).bind _ = some r
      rw [ih h1]
      show (match x.1 with | .normal => evCode P M C (n + 1) (.loop c) x.2 | e => some (e, x.2)) = some r
      cases hx : x.1 <;> rw [hx] at h2
      · exact ih h2
      · exact h2
      · exact h2
    | region i ops d => exact h
    | skip => exact h
    | exit i => exact h
    | ret => exact h
    | _ => simp only [evCode] at h; cases h
theorem evCode_le {C : CallF} {n m : Nat} {c : Code} {s : St} {r : Ex × St} (hnm : n ≤ m) (h : evCode P M C n c s = some r) : evCode P M C m c s = some r := by
  induction hnm with
  | refl => exact h
  | step _ ih => exact evCode_more ih

theorem evBody_few (n : Nat) (f : FuncId) (args : List V) : Few (fun C => evBody P M C n f args) := by
  unfold evBody
  refine (Few.const _).bind fun fn => (Few.const _).bind fun c => (Few.const _).bind fun s => (evCode_few n c s).bind fun r => Few.const _
theorem evBody_le {C : CallF} {n m : Nat} {f : FuncId} {args : List V} {y : V × List V} (hnm : n ≤ m) (h : evBody P M C n f args = some y) : evBody P M C m f args = some y := by
  unfold evBody at h ⊢
  obtain ⟨fn, h1, h⟩ := Option.bind_eq_some_iff.1 h
  obtain ⟨c, h2, h⟩ := Option.bind_eq_some_iff.1 h
  obtain ⟨s, h3, h⟩ := Option.bind_eq_some_iff.1 h
  obtain ⟨r, h4, h⟩ := Option.bind_eq_some_iff.1 h
  simp only [h1, h2, h3, evCode_le hnm h4, Option.bind_some]
  exact h

variable {E : CallF} {ex : FuncId → Bool}
theorem evF_succ (n : Nat) (f : FuncId) (xs : List V) : evF P M E ex (n + 1) f xs = if ex f then E f xs else evBody P M (evF P M E ex n) n f xs := rfl
theorem evF_more : ∀ {n : Nat} {f : FuncId} {xs : List V} {y : V × List V}, evF P M E ex n f xs = some y → evF P M E ex (n + 1) f xs = some y := by
  intro n
  induction n with
  | zero => intro f xs y h; simp [evF] at h
  | succ n ih =>
    intro f xs y h
    rw [evF_succ] at h ⊢
    split
    · rename_i hx; rw [if_pos hx] at h; exact h
    · rename_i hx
      rw [if_neg hx] at h
      exact (evBody_few (n + 1) f xs).mono (fun _ _ _ => ih) (evBody_le (Nat.le_succ n) h)
theorem evF_le {n m : Nat} {f : FuncId} {xs : List V} {y : V × List V} (hnm : n ≤ m) (h : evF P M E ex n f xs = some y) : evF P M E ex m f xs = some y := by
  induction hnm with
  | refl => exact h
  | step _ ih => exact evF_more ih

/-- What the calls answer, with fuel enough. -/
noncomputable def evL (P : Program) (M : Hints) (E : CallF) (ex : FuncId → Bool) : CallF := fun f xs =>
  open Classical in if h : ∃ y n, evF P M E ex n f xs = some y then some (Classical.choose h) else none
theorem evL_iff {f : FuncId} {xs : List V} {y : V × List V} : evL P M E ex f xs = some y ↔ ∃ n, evF P M E ex n f xs = some y := by
  unfold evL
  constructor
  · intro h
    split at h
    · rename_i hx
      simp only [Option.some.injEq] at h
      subst h
      exact Classical.choose_spec hx
    · cases h
  · intro ⟨n, h⟩
    have hx : ∃ y n, evF P M E ex n f xs = some y := ⟨y, n, h⟩
    rw [dif_pos hx]
    obtain ⟨m, hm⟩ := Classical.choose_spec hx
    have h1 := evF_le (Nat.le_max_left n m) h
    have h2 := evF_le (Nat.le_max_right n m) hm
    rw [h1] at h2
    exact h2.symm
theorem told_lim {l : List Ask} (h : Told (evL P M E ex) l) : ∃ n, Told (evF P M E ex n) l := by
  induction l with
  | nil => exact ⟨0, fun q hq => by simp at hq⟩
  | cons q l ih =>
    obtain ⟨n, hn⟩ := ih (fun q hq => h q (List.mem_cons_of_mem _ hq))
    obtain ⟨m, hm⟩ := evL_iff.1 (h q List.mem_cons_self)
    refine ⟨max n m, fun p hp => ?_⟩
    rcases List.mem_cons.1 hp with rfl | hp
    · exact evF_le (Nat.le_max_right n m) hm
    · exact evF_le (Nat.le_max_left n m) (hn p hp)
/-- A function answers what its body answers. -/
theorem evL_body {n : Nat} {f : FuncId} {xs : List V} {y : V × List V} (hx : ex f = false) (h : evBody P M (evL P M E ex) n f xs = some y) : evL P M E ex f xs = some y := by
  obtain ⟨l, t, u⟩ := evBody_few n f xs _ _ h
  obtain ⟨m, hm⟩ := told_lim t
  refine evL_iff.2 ⟨max n m + 1, ?_⟩
  rw [evF_succ, hx, if_neg (by decide)]
  exact evBody_le (Nat.le_max_left n m) (u _ (fun q hq => evF_le (Nat.le_max_right n m) (hm q hq)))
/-- A function that is not evaluated answers what is given. -/
theorem evL_ext {f : FuncId} {xs : List V} {y : V × List V} (hx : ex f = true) (h : E f xs = some y) : evL P M E ex f xs = some y :=
  evL_iff.2 ⟨1, by rw [evF_succ, if_pos hx]; exact h⟩
theorem evL_ok (hP : FuncsOk P) (hE : ∀ (f : FuncId) (xs : List V) (r : V) (os : List V), ex f = true → E f xs = some (r, os) → (∃ fn, P.funcs[f]? = some fn ∧ fn.body.isSome = true) ∧ Contract P (M.modes f) f xs r os)
    {f : FuncId} {xs : List V} {r : V} {os : List V} (h : evL P M E ex f xs = some (r, os)) : Contract P (M.modes f) f xs r os := by
  obtain ⟨n, h⟩ := evL_iff.1 h
  exact (evF_ok hP hE n f xs r os h).2

/-! ### code, with fuel enough -/
def Co (P : Program) (M : Hints) (C : CallF) (c : Code) (s : St) (e : Ex) (s' : St) : Prop := ∃ n, evCode P M C n c s = some (e, s')
variable {C : CallF} {s s1 s' : St} {e : Ex}
theorem Co.skip : Co P M C .skip s .normal s := ⟨1, rfl⟩
theorem Co.ret : Co P M C .ret s .ret s := ⟨1, rfl⟩
theorem Co.exit {i : Nat} : Co P M C (.exit i) s (.exit i) s := ⟨1, rfl⟩
theorem Co.ops {i : Nat} {ops : Array Oper} (h : evOps P M C ops { s with ep := s.ep + 1 } 0 ops.toList = some s') : Co P M C (.region i ops false) s .normal s' := ⟨1, by simp only [evCode, if_neg (show ¬(false = true) by decide), h, Option.map_some]⟩
theorem Co.draw {i : Nat} {ops : Array Oper} (hs : Region.noSelect ops = true) (h : evDraw P M C ops { s with ep := s.ep + 1 } [] 0 ops.toList = some s') : Co P M C (.region i ops true) s .normal s' := ⟨1, by simp only [evCode, if_true, hs, h, Option.map_some]⟩
theorem Co.seq {a b : Code} (h1 : Co P M C a s .normal s1) (h2 : Co P M C b s1 e s') : Co P M C (.seq a b) s e s' := by
  obtain ⟨n, h1⟩ := h1
  obtain ⟨m, h2⟩ := h2
  refine ⟨max n m + 1, ?_⟩
  simp only [evCode, evCode_le (Nat.le_max_left n m) h1, Option.bind_some]
  exact evCode_le (Nat.le_max_right n m) h2
theorem Co.seqX {a b : Code} (he : e ≠ .normal) (h1 : Co P M C a s e s') : Co P M C (.seq a b) s e s' := by
  obtain ⟨n, h1⟩ := h1
  refine ⟨n + 1, ?_⟩
  simp only [evCode, h1, Option.bind_some]
theorem Co.cond {c : Operand} {a b : Code} {t : Bool} (hc : s.opV c = .lit (.bool t)) (h : Co P M C (if t then a else b) s e s') : Co P M C (.cond c a b) s e s' := by
  obtain ⟨n, h⟩ := h
  refine ⟨n + 1, ?_⟩
  simp only [evCode, hc]
  cases t <;> exact h
theorem Co.block {i : Nat} {c : Code} (h : Co P M C c s e s') : Co P M C (.block i c) s (if e = .exit i then .normal else e) s' := by
  obtain ⟨n, h⟩ := h
  refine ⟨n + 1, ?_⟩
  simp only [evCode, h, Option.map_some]
  split <;> rfl
theorem Co.loop {c : Code} (h1 : Co P M C c s .normal s1) (h2 : Co P M C (.loop c) s1 e s') : Co P M C (.loop c) s e s' := by
  obtain ⟨n, h1⟩ := h1
  obtain ⟨m, h2⟩ := h2
  refine ⟨max n m + 1, ?_⟩
  simp only [evCode, evCode_le (Nat.le_max_left n m) h1, Option.bind_some]
  exact evCode_le (Nat.le_max_right n m) h2
theorem Co.loopX {c : Code} (he : e ≠ .normal) (h1 : Co P M C c s e s') : Co P M C (.loop c) s e s' := by
  obtain ⟨n, h1⟩ := h1
  refine ⟨n + 1, ?_⟩
  simp only [evCode, h1, Option.bind_some]
end
end Go.Proofs.Ytolbhpampnjinaa.Ev
/- Operations over plain values, each by one equation. No condition but those in each line. -/
namespace Go.Proofs.Ytolbhpampnjinaa.Ev
open Go
set_option linter.unusedVariables false
set_option linter.unusedSimpArgs false

/-- Over integers. -/
def binI (op : BinOp) (k k' : IntKind) (a b : Int) : Option V :=
  match op with
  | .shl => if b < 0 then none else some (.lit (.int k (k.wrap (a * 2 ^ min b.toNat k.bits))))
  | .shr => if b < 0 then none else some (.lit (.int k (a.fdiv (2 ^ min b.toNat k.bits))))
  | op => if k = k' then match op with
    | .add => some (.lit (.int k (k.wrap (a + b))))
    | .sub => some (.lit (.int k (k.wrap (a - b))))
    | .mul => some (.lit (.int k (k.wrap (a * b))))
    | .quo => if b = 0 then none else some (.lit (.int k (k.wrap (a.tdiv b))))
    | .rem => if b = 0 then none else some (.lit (.int k (a.tmod b)))
    | .and => some (.lit (.int k (k.wrap ((BitVec.ofInt k.bits a &&& BitVec.ofInt k.bits b).toNat))))
    | .or => some (.lit (.int k (k.wrap ((BitVec.ofInt k.bits a ||| BitVec.ofInt k.bits b).toNat))))
    | .xor => some (.lit (.int k (k.wrap ((BitVec.ofInt k.bits a ^^^ BitVec.ofInt k.bits b).toNat))))
    | .andNot => some (.lit (.int k (k.wrap ((BitVec.ofInt k.bits a &&& ~~~BitVec.ofInt k.bits b).toNat))))
    | .eql => some (.lit (.bool (decide (a = b))))
    | .neq => some (.lit (.bool (decide (a ≠ b))))
    | .lss => some (.lit (.bool (decide (a < b))))
    | .leq => some (.lit (.bool (decide (a ≤ b))))
    | .gtr => some (.lit (.bool (decide (a > b))))
    | .geq => some (.lit (.bool (decide (a ≥ b))))
    | _ => none
    else none
def binS (op : BinOp) (a b : ByteArray) : Option V :=
  match op with
  | .add => if ((a.size + b.size : Nat) : Int) > IntKind.i64.max then none else some (.lit (.string (a ++ b)))
  | .eql => some (.lit (.bool (a.toList == b.toList)))
  | .neq => some (.lit (.bool (!(a.toList == b.toList))))
  | .lss => some (.lit (.bool (Go.Op.bytesLess a.toList b.toList)))
  | .leq => some (.lit (.bool (Go.Op.bytesLess a.toList b.toList || a.toList == b.toList)))
  | .gtr => some (.lit (.bool (!(Go.Op.bytesLess a.toList b.toList || a.toList == b.toList))))
  | .geq => some (.lit (.bool (!(Go.Op.bytesLess a.toList b.toList))))
  | _ => none

section
variable {P : Program} {v : Operand → V}
theorem eval_bind {α β : Type} (x : Sem α) (f : α → Sem β) : eval? P (x >>= f) = (eval? P x).bind fun a => eval? P (f a) := by
  induction x with
  | pure a => rfl
  | program k ih => exact ih P
  | _ => rfl
theorem eval_map {α β : Type} (x : Sem α) (f : α → β) : eval? P (f <$> x) = (eval? P x).map f := by
  induction x with
  | pure a => rfl
  | program k ih => exact ih P
  | _ => rfl
def binX (P : Program) (op : BinOp) (t : TypeId) (x y : Operand) (X Y : V) : Option V :=
  if (toVal X).isSome && (toVal Y).isSome then (eval? P (do eqGuard op t x y ((toVal X).getD undef) ((toVal Y).getD undef); binOp op t ((toVal X).getD undef) ((toVal Y).getD undef))).bind ofVal else none
theorem ev_one {x : Sem Value} : (match eval? P (Next.value <$> x) with | some (.value v) => ofVal v | _ => none) = (eval? P x).bind ofVal := by
  rw [eval_map]
  cases eval? P x <;> rfl
theorem ev_bin {d : Option Tmp} {op : BinOp} {t yt ty : TypeId} {x y : Operand} {p : String} {af : Array Edge} {g : Option (Nat × Bool)} : evScalar P v ⟨d, .binOp op t x y yt, ty, p, af, g⟩ = binX P op t x y (v x) (v y) := by
  unfold evScalar binX
  rw [← ev_one]
  simp only [plainOp, Op.operands, Bool.true_and, List.all_cons, List.all_nil, Bool.and_true]
  rfl
theorem eqGuard_int {op : BinOp} {t : TypeId} {x y : Operand} {k k' : IntKind} {a b : Int} : eqGuard op t x y (.int k a) (.int k' b) = pure () := by
  unfold eqGuard
  cases op <;> rfl
theorem eqGuard_str {op : BinOp} {t : TypeId} {x y : Operand} {a b : ByteArray} : eqGuard op t x y (.string a) (.string b) = pure () := by
  unfold eqGuard
  cases op <;> rfl
theorem eqGuard_bool {op : BinOp} {t : TypeId} {x y : Operand} {a b : Bool} : eqGuard op t x y (.bool a) (.bool b) = pure () := by
  unfold eqGuard
  cases op <;> rfl
theorem binX_int {op : BinOp} {t : TypeId} {x y : Operand} {k k' : IntKind} {a b : Int} : binX P op t x y (.lit (.int k a)) (.lit (.int k' b)) = binI op k k' a b := by
  have e : binX P op t x y (.lit (.int k a)) (.lit (.int k' b)) = (eval? P (binOp op t (.int k a) (.int k' b))).bind ofVal := by
    simp only [binX, toVal, Option.isSome_some, Bool.and_self, if_true, Option.getD_some, eqGuard_int]
    rfl
  rw [e]
  unfold binOp
  by_cases hk : k = k'
  · subst hk
    cases op <;> simp only [ne_eq, not_true, if_false, if_true, binI] <;> first | rfl | skip
    · unfold Go.Op.intDiv; by_cases hb : b = 0 <;> simp only [hb, if_true, if_false] <;> rfl
    · unfold Go.Op.intDiv; by_cases hb : b = 0 <;> simp only [hb, if_true, if_false] <;> rfl
    · unfold Go.Op.shift; by_cases hb : b < 0 <;> simp only [hb, if_true, if_false] <;> rfl
    · unfold Go.Op.shift; by_cases hb : b < 0 <;> simp only [hb, if_true, if_false] <;> rfl
    · simp only [Go.Op.intCmp, bne]; exact congrArg (fun c => some (V.lit (.bool c))) (by by_cases h : a = b <;> simp [h])
  · cases op <;> simp only [ne_eq, hk, not_false_eq_true, if_true, if_false, binI] <;> first | rfl | skip
    · unfold Go.Op.shift; by_cases hb : b < 0 <;> simp only [hb, if_true, if_false] <;> rfl
    · unfold Go.Op.shift; by_cases hb : b < 0 <;> simp only [hb, if_true, if_false] <;> rfl
theorem binX_str {op : BinOp} {t : TypeId} {x y : Operand} {a b : ByteArray} : binX P op t x y (.lit (.string a)) (.lit (.string b)) = binS op a b := by
  have e : binX P op t x y (.lit (.string a)) (.lit (.string b)) = (eval? P (binOp op t (.string a) (.string b))).bind ofVal := by
    simp only [binX, toVal, Option.isSome_some, Bool.and_self, if_true, Option.getD_some, eqGuard_str]
    rfl
  rw [e]
  unfold binOp
  cases op <;> simp only [binS] <;> first | rfl | skip
  unfold Go.Op.stringOp
  simp only []
  by_cases hb : ((a.size + b.size : Nat) : Int) > IntKind.i64.max <;> simp only [hb, if_true, if_false] <;> rfl
theorem equal_bool {t : TypeId} {a b : Bool} (ht : P.underlying t = some .bool) : eval? P (Go.Op.equal t (.bool a) (.bool b)) = some (a == b) := by
  have hu : eval? P (underlying t) = some .bool := by
    unfold underlying
    rw [eval_bind]
    show eval? P (match P.underlying t with | some d => pure d | none => stuck "no such type" : Sem TypeDesc) = some .bool
    rw [ht]; rfl
  show eval? P (Go.Op.equalIn (9999 + 1) t (.bool a) (.bool b)) = _
  unfold Go.Op.equalIn
  rw [eval_bind, hu]
  rfl
theorem binX_eqB {t : TypeId} {x y : Operand} {a b : Bool} (ht : P.underlying t = some .bool) : binX P .eql t x y (.lit (.bool a)) (.lit (.bool b)) = some (.lit (.bool (a == b))) := by
  simp only [binX, toVal, Option.isSome_some, Bool.and_self, if_true, Option.getD_some, eqGuard_bool]
  have e : (pure () >>= fun _ => binOp .eql t (.bool a) (.bool b) : Sem Value) = ((fun b => Value.bool b) <$> Go.Op.equal t (.bool a) (.bool b)) := rfl
  rw [e, eval_map, equal_bool ht]
  rfl
theorem binX_neB {t : TypeId} {x y : Operand} {a b : Bool} (ht : P.underlying t = some .bool) : binX P .neq t x y (.lit (.bool a)) (.lit (.bool b)) = some (.lit (.bool (a != b))) := by
  simp only [binX, toVal, Option.isSome_some, Bool.and_self, if_true, Option.getD_some, eqGuard_bool]
  have e : (pure () >>= fun _ => binOp .neq t (.bool a) (.bool b) : Sem Value) = ((fun b => Value.bool (!b)) <$> Go.Op.equal t (.bool a) (.bool b)) := rfl
  rw [e, eval_map, equal_bool ht]
  rfl
def unX (P : Program) (op : UnOp) (X : V) : Option V :=
  if (toVal X).isSome then (eval? P (Go.Op.unary op ((toVal X).getD undef))).bind ofVal else none
theorem ev_un {d : Option Tmp} {op : UnOp} {t ty : TypeId} {x : Operand} {p : String} {af : Array Edge} {g : Option (Nat × Bool)} : evScalar P v ⟨d, .unOp op t x, ty, p, af, g⟩ = unX P op (v x) := by
  unfold evScalar unX
  rw [← ev_one]
  simp only [plainOp, Op.operands, Bool.true_and, List.all_cons, List.all_nil, Bool.and_true]
  rfl
theorem unX_not {b : Bool} : unX P .not (.lit (.bool b)) = some (.lit (.bool (!b))) := rfl
theorem unX_neg {k : IntKind} {n : Int} : unX P .neg (.lit (.int k n)) = some (.lit (.int k (k.wrap (0 - n)))) := rfl
end
end Go.Proofs.Ytolbhpampnjinaa.Ev
/- Walking through code with the evaluator: what holds behind it (Cw), and a function's answer. No condition but those in each line. -/
namespace Go.Proofs.Ytolbhpampnjinaa.Ev
open Go
set_option linter.unusedVariables false
set_option linter.unusedSimpArgs false
section
variable {P : Program} {M : Hints} {C : CallF} {s : St} {Q : Ex → St → Prop}

def thenC (K : St → Prop) (Q : Ex → St → Prop) : Ex → St → Prop
  | .normal, s => K s
  | e, s => Q e s
def inC (i : Nat) (Q : Ex → St → Prop) : Ex → St → Prop
  | .exit j, s => if j = i then Q .normal s else Q (.exit j) s
  | e, s => Q e s
def someC (x : Option St) (K : St → Prop) : Prop := ∃ s, x = some s ∧ K s
/-- Behind the code Q holds. -/
def Cw (P : Program) (M : Hints) (C : CallF) : Code → St → (Ex → St → Prop) → Prop
  | .skip, s, Q => Q .normal s
  | .region _ ops d, s, Q => someC (if d then (if Region.noSelect ops then evDraw P M C ops { s with ep := s.ep + 1 } [] 0 ops.toList else none) else evOps P M C ops { s with ep := s.ep + 1 } 0 ops.toList) (Q .normal)
  | .seq a b, s, Q => Cw P M C a s (thenC (fun s1 => Cw P M C b s1 Q) Q)
  | .cond c a b, s, Q => ∃ t, s.opV c = .lit (.bool t) ∧ (if t then Cw P M C a s Q else Cw P M C b s Q)
  | .block i c, s, Q => Cw P M C c s (inC i Q)
  | .loop c, s, Q => ∃ e s', Co P M C (.loop c) s e s' ∧ Q e s'
  | .exit i, s, Q => Q (.exit i) s
  | .ret, s, Q => Q .ret s
  | _, _, _ => False
theorem Cw.co : ∀ {c : Code} {s : St} {Q : Ex → St → Prop}, Cw P M C c s Q → ∃ e s', Co P M C c s e s' ∧ Q e s' := by
  intro c
  induction c with
  | skip => intro s Q h; exact ⟨_, _, .skip, h⟩
  | ret => intro s Q h; exact ⟨_, _, .ret, h⟩
  | exit i => intro s Q h; exact ⟨_, _, .exit, h⟩
  | region i ops d =>
    intro s Q ⟨s', h1, h2⟩
    cases d with
    | false => exact ⟨_, _, .ops h1, h2⟩
    | true =>
      simp only [if_true] at h1
      split at h1
      · rename_i hs; exact ⟨_, _, .draw hs h1, h2⟩
      · cases h1
  | seq a b iha ihb =>
    intro s Q h
    obtain ⟨e, s1, h1, h2⟩ := iha h
    cases e with
    | normal =>
      obtain ⟨e2, s2, h3, h4⟩ := ihb h2
      exact ⟨_, _, .seq h1 h3, h4⟩
    | ret => exact ⟨_, _, .seqX (by decide) h1, h2⟩
    | exit i => exact ⟨_, _, .seqX (fun h => by cases h) h1, h2⟩
  | cond c a b iha ihb =>
    intro s Q ⟨t, h1, h2⟩
    cases t with
    | true =>
      obtain ⟨e, s1, h3, h4⟩ := iha (by simpa using h2)
      exact ⟨_, _, .cond h1 h3, h4⟩
    | false =>
      obtain ⟨e, s1, h3, h4⟩ := ihb (by simpa using h2)
      exact ⟨_, _, .cond h1 h3, h4⟩
  | block i c ih =>
    intro s Q h
    obtain ⟨e, s1, h1, h2⟩ := ih h
    refine ⟨_, _, .block h1, ?_⟩
    cases e with
    | exit j =>
      simp only [inC] at h2
      by_cases hj : j = i
      · subst hj; rw [if_pos rfl]; rwa [if_pos rfl] at h2
      · rw [if_neg (fun h => hj (by injection h))]; rwa [if_neg hj] at h2
    | normal => rw [if_neg (fun h => by cases h)]; exact h2
    | ret => rw [if_neg (fun h => by cases h)]; exact h2
  | loop c ih => intro s Q h; exact h
  | _ => intro s Q h; exact h.elim
theorem Cw.loop {c : Code} (h : Cw P M C c s (thenC (fun s1 => Cw P M C (.loop c) s1 Q) Q)) : Cw P M C (.loop c) s Q := by
  obtain ⟨e, s1, h1, h2⟩ := h.co
  cases e with
  | normal =>
    obtain ⟨e2, s2, h3, h4⟩ := h2
    exact ⟨_, _, .loop h1 h3, h4⟩
  | ret => exact ⟨_, _, .loopX (by decide) h1, h2⟩
  | exit i => exact ⟨_, _, .loopX (fun h => by cases h) h1, h2⟩
theorem Cw_skip : Cw P M C .skip s Q = Q .normal s := rfl
theorem Cw_ret : Cw P M C .ret s Q = Q .ret s := rfl
theorem Cw_exit {i : Nat} : Cw P M C (.exit i) s Q = Q (.exit i) s := rfl
theorem Cw_seq {a b : Code} : Cw P M C (.seq a b) s Q = Cw P M C a s (thenC (fun s1 => Cw P M C b s1 Q) Q) := rfl
theorem Cw_block {i : Nat} {c : Code} : Cw P M C (.block i c) s Q = Cw P M C c s (inC i Q) := rfl
theorem Cw_ops {i : Nat} {ops : Array Oper} : Cw P M C (.region i ops false) s Q = someC (evOps P M C ops ⟨s.env, s.heap, s.ep + 1⟩ 0 ops.toList) (Q .normal) := rfl
theorem Cw_draw {i : Nat} {ops : Array Oper} : Cw P M C (.region i ops true) s Q = someC (if Region.noSelect ops then evDraw P M C ops ⟨s.env, s.heap, s.ep + 1⟩ [] 0 ops.toList else none) (Q .normal) := rfl
def condC (v : V) (A B : Prop) : Prop := ∃ t, v = .lit (.bool t) ∧ (if t then A else B)
theorem Cw_cond {c : Operand} {a b : Code} : Cw P M C (.cond c a b) s Q = condC (s.opV c) (Cw P M C a s Q) (Cw P M C b s Q) := rfl
theorem condC_lit {t : Bool} {A B : Prop} : condC (.lit (.bool t)) A B = if t then A else B := by
  apply propext
  constructor
  · intro ⟨t', h, h2⟩; cases h; exact h2
  · intro h; exact ⟨t, rfl, h⟩
theorem someC_some {x : St} {K : St → Prop} : someC (some x) K = K x := by
  apply propext
  constructor
  · intro ⟨t', h, h2⟩; cases h; exact h2
  · intro h; exact ⟨x, rfl, h⟩
theorem thenC_normal {K : St → Prop} : thenC K Q .normal s = K s := rfl
theorem thenC_ret {K : St → Prop} : thenC K Q .ret s = Q .ret s := rfl
theorem thenC_exit {K : St → Prop} {i : Nat} : thenC K Q (.exit i) s = Q (.exit i) s := rfl
theorem inC_normal {i : Nat} : inC i Q .normal s = Q .normal s := rfl
theorem inC_ret {i : Nat} : inC i Q .ret s = Q .ret s := rfl
theorem inC_exit {i j : Nat} : inC i Q (.exit j) s = if j = i then Q .normal s else Q (.exit j) s := rfl

/-- What a body leaves is what is answered. -/
def RetC (P : Program) (M : Hints) (f : FuncId) (fn : Func) (xs : List V) (y : V × List V) (e : Ex) (s : St) : Prop :=
  (match e with | .exit _ => False | _ => True) ∧ ((resV P s fn.results.toList).bind fun vs => (s.liftAll P fn.resultTypes.toList vs).bind fun z => (z.2.outs P 0 fn.params.toList (M.modes f) xs).map fun os => (oneOrV z.1, os)) = some y
theorem evL_run {E : CallF} {ex : FuncId → Bool} {f : FuncId} {fn : Func} {c : Code} {xs : List V} {y : V × List V} {s0 : St} (hx : ex f = false) (hfn : P.funcs[f]? = some fn) (hb : fn.body = some c) (hent : St.enters ⟨fun _ => .undef, fun _ => none, 0⟩ 0 (M.modes f) xs = some s0)
    (hc : Cw P M (evL P M E ex) c s0 (RetC P M f fn xs y)) : evL P M E ex f xs = some y := by
  obtain ⟨e, s1, ⟨n, hn⟩, h1, h2⟩ := hc.co
  refine evL_body (n := n) hx ?_
  unfold evBody
  rw [hfn]
  simp only [Option.bind_some, hb, hent, hn]
  cases e with
  | exit i => exact h1.elim
  | normal => exact h2
  | ret => exact h2
end
end Go.Proofs.Ytolbhpampnjinaa.Ev
/- The evaluator's equations, for simp: nothing that follows stands under a binder. No condition but those in each line. -/
namespace Go.Proofs.Ytolbhpampnjinaa.Ev
open Go
set_option linter.unusedVariables false
set_option linter.unusedSimpArgs false
abbrev il (n : Int) : V := .lit (.int .i64 n)
abbrev bl (b : Bool) : V := .lit (.bool b)
theorem wrap_of {n : Int} (h1 : -9223372036854775808 ≤ n) (h2 : n < 9223372036854775808) : IntKind.i64.wrap n = n := by
  simp [IntKind.wrap, IntKind.bits, IntKind.signed]; omega
theorem natOf_nat {n : Nat} : natOf (.lit (.int .i64 (n : Int))) = some n := by
  simp [natOf]
section
variable {P : Program} {M : Hints} {C : CallF} {s : St} {Q : Ex → St → Prop}
def seqC (P : Program) (M : Hints) (C : CallF) (b : Code) (Q : Ex → St → Prop) : Ex → St → Prop
  | .normal, s => Cw P M C b s Q
  | e, s => Q e s
theorem Cw_seqC {a b : Code} : Cw P M C (.seq a b) s Q = Cw P M C a s (seqC P M C b Q) := by
  have e : seqC P M C b Q = thenC (fun s1 => Cw P M C b s1 Q) Q := by
    funext e s1
    cases e <;> rfl
  rw [e]; rfl
theorem seqC_normal {b : Code} : seqC P M C b Q .normal s = Cw P M C b s Q := by unfold seqC; rfl
theorem seqC_ret {b : Code} : seqC P M C b Q .ret s = Q .ret s := by unfold seqC; rfl
theorem seqC_exit {b : Code} {i : Nat} : seqC P M C b Q (.exit i) s = Q (.exit i) s := by unfold seqC; rfl
theorem Cw.loopC {c : Code} (h : Cw P M C c s (seqC P M C (.loop c) Q)) : Cw P M C (.loop c) s Q := by
  refine Cw.loop ?_
  have e : seqC P M C (.loop c) Q = thenC (fun s1 => Cw P M C (.loop c) s1 Q) Q := by
    funext e s1
    cases e <;> rfl
  rw [← e]; exact h
def condQ (P : Program) (M : Hints) (C : CallF) (v : V) (a b : Code) (s : St) (Q : Ex → St → Prop) : Prop := condC v (Cw P M C a s Q) (Cw P M C b s Q)
theorem Cw_condQ {c : Operand} {a b : Code} : Cw P M C (.cond c a b) s Q = condQ P M C (s.opV c) a b s Q := by unfold condQ; rfl
theorem condQ_lit {t : Bool} {a b : Code} : condQ P M C (.lit (.bool t)) a b s Q = if t then Cw P M C a s Q else Cw P M C b s Q := by unfold condQ; exact condC_lit

def goC (P : Program) (M : Hints) (C : CallF) (ops : Array Oper) (g : Option Bool) (y : Option (V × St)) (s : St) (k : Nat) (d : Option Tmp) (rest : List Oper) : Option St :=
  g.bind fun g => if g then y.bind fun y => evOps P M C ops (y.2.put d y.1) k rest else evOps P M C ops (s.put d (.tup [])) k rest
theorem evOps_nil {ops : Array Oper} {k : Nat} : evOps P M C ops s k [] = some s := by unfold evOps; rfl
theorem evOps_cons {ops : Array Oper} {k : Nat} {o : Oper} {rest : List Oper} : evOps P M C ops s k (o :: rest) = goC P M C ops (wanted s ops o) (evOp P M C s k o) s (k + 1) o.dst rest := by unfold goC; rfl
theorem goC_yes {ops : Array Oper} {v : V} {s1 : St} {k : Nat} {d : Option Tmp} {rest : List Oper} : goC P M C ops (some true) (some (v, s1)) s k d rest = evOps P M C ops (s1.put d v) k rest := by unfold goC; rfl
theorem goC_no {ops : Array Oper} {y : Option (V × St)} {k : Nat} {d : Option Tmp} {rest : List Oper} : goC P M C ops (some false) y s k d rest = evOps P M C ops (s.put d (.tup [])) k rest := by unfold goC; rfl

def goD (P : Program) (M : Hints) (C : CallF) (ops : Array Oper) (g : Option Bool) (T : List Id) (w a b : Bool) (y : Option (V × St)) (s : St) (recs : List Rec) (pr : List Nat) (k : Nat) (d : Option Tmp) (rest : List Oper) : Option St :=
  g.bind fun g => if g then (if a then y.bind fun y => evDraw P M C ops ((s.merge k T w y.2).put d y.1) (recs ++ [⟨pr, T, w⟩]) (k + 1) rest else none)
    else if b then evDraw P M C ops (s.put d (.tup [])) (recs ++ [⟨pr, [], false⟩]) (k + 1) rest else none
theorem evDraw_nil {ops : Array Oper} {recs : List Rec} {k : Nat} : evDraw P M C ops s recs k [] = some s := by unfold evDraw; rfl
theorem evDraw_cons {ops : Array Oper} {recs : List Rec} {k : Nat} {o : Oper} {rest : List Oper} : evDraw P M C ops s recs k (o :: rest) =
    goD P M C ops (wanted s ops o) (touch s o) (writes M s.opV o) (apartOk ops s.ep recs (preOf recs o) k o (touch s o) (writes M s.opV o)) (apartOk ops s.ep recs (preOf recs o) k o [] false) (evOpV P M C s.opV (s.only (touch s o)) k o) s recs (preOf recs o) k o.dst rest := by unfold goD; rfl
theorem goD_yes {ops : Array Oper} {T : List Id} {w b : Bool} {v : V} {s1 : St} {recs : List Rec} {pr : List Nat} {k : Nat} {d : Option Tmp} {rest : List Oper} :
    goD P M C ops (some true) T w true b (some (v, s1)) s recs pr k d rest = evDraw P M C ops ((s.merge k T w s1).put d v) (recs ++ [⟨pr, T, w⟩]) (k + 1) rest := by unfold goD; rfl
theorem goD_no {ops : Array Oper} {T : List Id} {w a : Bool} {y : Option (V × St)} {recs : List Rec} {pr : List Nat} {k : Nat} {d : Option Tmp} {rest : List Oper} :
    goD P M C ops (some false) T w a true y s recs pr k d rest = evDraw P M C ops (s.put d (.tup [])) (recs ++ [⟨pr, [], false⟩]) (k + 1) rest := by unfold goD; rfl
end
theorem bne_ss {a b : Nat} : ((some a : Option Nat) != some b) = !(a == b) := rfl
theorem bne_ns {b : Nat} : ((none : Option Nat) != some b) = true := rfl
/-- The loops of a code, in the order of the text. -/
def loopsOf : Code → List Code
  | .seq a b => loopsOf a ++ loopsOf b
  | .cond _ a b => loopsOf a ++ loopsOf b
  | .block _ c => loopsOf c
  | .loop c => .loop c :: loopsOf c
  | _ => []
noncomputable def loopAt (f : Func) (i : Nat) : Code := (loopsOf (f.body.getD .skip)).getD i .skip
attribute [simp ↓] Cw_skip Cw_ret Cw_exit Cw_seqC Cw_block Cw_ops Cw_draw Cw_condQ condQ_lit someC_some seqC_normal seqC_ret seqC_exit inC_normal inC_ret inC_exit evOps_nil evOps_cons evDraw_nil evDraw_cons
attribute [simp] goC_yes goC_no goD_yes goD_no
attribute [simp] wanted evOp evOpV St.opV upd St.put St.setB St.kill natOf ev_bin binX_int binX_str binI binS ev_un unX_not unX_neg ofVal scalar cellsV setAt
attribute [simp] St.enters St.enter St.liftAll St.liftOne St.giveCell St.giveCells St.giveArg St.outs St.out resV oneOrV argTys
attribute [simp] evCall St.gives St.give St.rdAll St.rdArgM St.rdArg St.rdPlace St.rdCell St.rdCells St.backs St.back St.takeRes St.takeOne St.takeCell St.takeCells St.rowsOf
attribute [simp] hasTr hasTr1 plains plainM plain plainC isTr St.sink St.rdPlaces
attribute [simp] touch ids ids1 writes preOf apartOk St.merge St.only freshAt Region.noSelect Op.operands Call.operands Oper.apart Oper.looksAt bne_ss bne_ns Region.binds List.eraseDups List.eraseDupsBy List.eraseDupsBy.loop
end Go.Proofs.Ytolbhpampnjinaa.Ev
/- An argument that came in is read as the evaluator's tree over Lean data. Conditions: the types' rows of the table. -/
namespace Go.Proofs.Ytolbhpampnjinaa.Ev
open Go Go.RowKit Go.ChangeShapes Go.WideShapes
set_option linter.unusedVariables false
set_option linter.unusedSimpArgs false
section
variable {H : Type} {enc : TypeId × Value → H} {P : Program} {w : World}
def okW (w : World) (g : Nat) : Prop := g < w.heap.size
/-- Cells that read as the trees. -/
def RdC (w : World) (cs : List Value) (xs : List V) : Prop := cs.length = xs.length ∧ ∀ (k : Nat) (v : Value) (x : V), cs[k]? = some v → xs[k]? = some x → Rd w (okW w) v x
theorem RdC.one {v : Value} {x : V} (h : Rd w (okW w) v x) : RdC w [v] [x] := by
  refine ⟨rfl, fun k u y h1 h2 => ?_⟩
  cases k with
  | zero => simp at h1 h2; subst h1; subst h2; exact h
  | succ k => simp at h1
theorem RdC.append {cs ds : List Value} {xs ys : List V} (h : RdC w cs xs) (k : RdC w ds ys) : RdC w (cs ++ ds) (xs ++ ys) := by
  refine ⟨by rw [List.length_append, List.length_append, h.1, k.1], fun i v x h1 h2 => ?_⟩
  rcases Nat.lt_or_ge i cs.length with hi | hi
  · rw [List.getElem?_append_left hi] at h1
    rw [List.getElem?_append_left (by rw [← h.1]; exact hi)] at h2
    exact h.2 i v x h1 h2
  · rw [List.getElem?_append_right hi] at h1
    rw [List.getElem?_append_right (by rw [← h.1]; exact hi), ← h.1] at h2
    exact k.2 _ v x h1 h2
def OpV {α : Type} (enc : TypeId × Value → H) (P : Program) (w : World) (t : TypeId) (e : α → List V) (Q : α → Prop) : Prop :=
  ∀ (fuel : Nat) (cs : List Value) (x : DataW H × List MemPlace), DataW.trod enc P w 0 (fun _ => true) true fuel t cs = some x → ∃ a, RdC w cs (e a) ∧ Q a
theorem opv_int {t : TypeId} {k : IntKind} (ht : P.underlying t = some (.int k)) : OpV enc P w t (fun n : Int => [.lit (.int k n)]) (fun n => (Lit.int k n).wf = true) := by
  intro fuel cs x h
  obtain ⟨n, rfl, _, hw⟩ := DataW.trod_int ht h
  exact ⟨n, .one (.lit rfl), hw⟩
theorem opv_bool {t : TypeId} (ht : P.underlying t = some .bool) : OpV enc P w t (fun b : Bool => [.lit (.bool b)]) (fun _ => True) := by
  intro fuel cs x h
  obtain ⟨n, rfl, _⟩ := DataW.trod_bool ht h
  exact ⟨n, .one (.lit rfl), trivial⟩
theorem opv_imp {α β : Type} {t : TypeId} {e : α → List V} {e' : β → List V} {Q : α → Prop} {Q' : β → Prop} (h : OpV enc P w t e Q) (f : α → β) (he : ∀ a, Q a → e' (f a) = e a) (hq : ∀ a, Q a → Q' (f a)) : OpV enc P w t e' Q' := by
  intro fuel cs x hx
  obtain ⟨a, h1, h2⟩ := h fuel cs x hx
  exact ⟨f a, by rw [he a h2]; exact h1, hq a h2⟩
theorem opv_slice {α : Type} {t el : TypeId} {e : α → List V} {Q : α → Prop} (ht : P.underlying t = some (.slice el)) (hs : ∀ a, (e a).length = P.cellsOf el) (hz : P.cellsOf el ≠ 0) (he : OpV enc P w el e Q) :
    OpV enc P w t (fun xs : List α => [.tr (xs.map e)]) (fun xs => xs.length ≤ maxLen ∧ ∀ x ∈ xs, Q x) := by
  intro fuel cs x h
  rcases DataW.trod_slice ht h with ⟨rfl, _⟩ | ⟨a, len, cap, elems, rest, n, _, rfl, rfl, hb, hl, hm, hlen, hel, _, _⟩
  · exact ⟨[], .one .emp, by simp, by simp⟩
  · have each : ∀ i : Fin len, ∃ p, ∃ c : List Value, RdC w c (e p) ∧ Q p ∧ c.length = P.cellsOf el ∧ ∀ (j : Nat) (u : Value), c[j]? = some u → w.cell? (a.add (i.1 * P.cellsOf el + j)) = some u := by
      intro i
      have h1 := hel i.1 i.2
      have h2 : elems[i.1]? = some elems[i.1] := List.getElem?_eq_getElem (by omega)
      rw [h2] at h1
      obtain ⟨c, hc, hy⟩ := Option.bind_eq_some_iff.1 h1
      obtain ⟨p, hK, hQ⟩ := he _ _ _ hy
      obtain ⟨_, hcl, hcc⟩ := World.cells?_some hc
      refine ⟨p, c, hK, hQ, hcl, fun j u hj => ?_⟩
      have hjl : j < P.cellsOf el := by
        have := (List.getElem?_eq_some_iff.1 hj).1
        omega
      have h3 := hcc j hjl
      rw [hj] at h3
      rw [← h3]
      congr 1
      simp only [Addr.add]
      split <;> split <;> split <;> simp_all <;> omega
    refine ⟨List.ofFn fun i => Classical.choose (each i), .one ?_, by simp; omega, ?_⟩
    · rcases Nat.eq_zero_or_pos len with rfl | hpos
      · exact .emp
      · have hget : ∀ (k : Nat) (x : V), ((List.ofFn fun i => Classical.choose (each i)).map e).flatten[k]? = some x → ∃ v, w.cell? (a.add k) = some v ∧ Rd w (okW w) v x := by
          intro k x hk
          obtain ⟨i, j, row, h1, h2, rfl⟩ := flatten_inv (sz := P.cellsOf el) (fun r hr => by
            obtain ⟨p, _, rfl⟩ := List.mem_map.1 hr
            exact hs p) hk
          rw [List.getElem?_map] at h1
          obtain ⟨p, h3, rfl⟩ := Option.map_eq_some_iff.1 h1
          obtain ⟨hi, rfl⟩ := List.getElem?_eq_some_iff.1 h3
          rw [List.length_ofFn] at hi
          obtain ⟨c, hK, hQ, hcl, hcc⟩ := Classical.choose_spec (each ⟨i, hi⟩)
          rw [List.getElem_ofFn] at h2
          have hjl : j < c.length := by
            have := (List.getElem?_eq_some_iff.1 h2).1
            rw [hK.1]; exact this
          exact ⟨c[j], hcc j _ (List.getElem?_eq_getElem hjl), hK.2 j _ _ (List.getElem?_eq_getElem hjl) h2⟩
        have hspot : a.spot = none := by
          obtain ⟨c, hK, hQ, hcl, hcc⟩ := Classical.choose_spec (each ⟨0, hpos⟩)
          have h0 := hcc 0 c[0] (List.getElem?_eq_getElem (by omega))
          simp only [Nat.zero_mul, Nat.add_zero, Addr.add, if_true] at h0
          exact World.cell?_spot h0
        obtain ⟨g, o, sp⟩ := a
        simp only at hspot
        subst hspot
        have hadd : ∀ k, (Addr.mk g o none).add k = ⟨g, o + k, none⟩ := fun k => by
          unfold Addr.add
          split
          · rename_i h; rw [h]; rfl
          · rfl
        refine .tr (u := fun k => (w.cell? ⟨g, o + k, none⟩).getD undef) (by simp) hl hm (sz := P.cellsOf el) (fun r hr => by
            obtain ⟨p, _, rfl⟩ := List.mem_map.1 hr
            exact hs p) ?_ (fun k x hk => ?_) (fun k x hk => ?_)
        · obtain ⟨c, hK, hQ, hcl, hcc⟩ := Classical.choose_spec (each ⟨0, hpos⟩)
          have h0 := hcc 0 c[0] (List.getElem?_eq_getElem (by omega))
          rw [hadd] at h0
          exact cell_lt h0
        · obtain ⟨v, hv, _⟩ := hget k x hk
          rw [hadd] at hv
          rw [hv]; rfl
        · obtain ⟨v, hv, hr⟩ := hget k x hk
          rw [hadd] at hv
          rw [hv]; exact hr
    · intro p hp
      obtain ⟨i, rfl⟩ := List.mem_ofFn.1 hp
      obtain ⟨c, hK, hQ, _⟩ := Classical.choose_spec (each i)
      exact hQ

def OpVF {α : Type} (enc : TypeId × Value → H) (P : Program) (w : World) (fs : List Field) (off sz : Nat) (e : α → List V) (Q : α → Prop) : Prop :=
  ∀ (n : Nat) (cs : List Value) (xs : List (DataW H × List MemPlace)), cs.length = off + sz → xs.length = fs.length →
    (∀ (i : Nat) (f : Field), fs[i]? = some f → DataW.trod enc P w 0 (fun _ => true) true n f.type ((cs.drop f.offset).take (P.cellsOf f.type)) = xs[i]?) → ∃ a, RdC w (cs.drop off) (e a) ∧ Q a
theorem opvf_one {α : Type} {f : Field} {off sz : Nat} {e : α → List V} {Q : α → Prop} (ho : f.offset = off) (hs : P.cellsOf f.type = sz) (h : OpV enc P w f.type e Q) : OpVF enc P w [f] off sz e Q := by
  intro n cs xs hl hx hf
  have h0 := hf 0 f rfl
  match xs, hx with
  | [y], _ =>
    obtain ⟨a, hK, hQ⟩ := h _ _ _ h0
    refine ⟨a, ?_, hQ⟩
    rw [ho, hs, List.take_of_length_le (by rw [List.length_drop]; omega)] at hK
    exact hK
theorem opvf_cons {α β : Type} {f : Field} {fs : List Field} {off sa sb : Nat} {a : α → List V} {b : β → List V} {Qa : α → Prop} {Qb : β → Prop} (ho : f.offset = off) (hs : P.cellsOf f.type = sa) (ha : OpV enc P w f.type a Qa)
    (hb : OpVF enc P w fs (off + sa) sb b Qb) : OpVF enc P w (f :: fs) off (sa + sb) (fun x : α × β => a x.1 ++ b x.2) (fun x => Qa x.1 ∧ Qb x.2) := by
  intro n cs xs hl hx hf
  match xs, hx with
  | y :: ys, hx =>
    have h0 := hf 0 f rfl
    obtain ⟨x0, hK, hQ⟩ := ha _ _ _ h0
    obtain ⟨x1, hK1, hQ1⟩ := hb n cs ys (by omega) (by simpa using hx) (fun i g hg => by simpa using hf (i + 1) g (by simpa using hg))
    refine ⟨(x0, x1), ?_, hQ, hQ1⟩
    rw [ho, hs] at hK
    have e : cs.drop off = (cs.drop off).take sa ++ cs.drop (off + sa) := by rw [← List.drop_drop, List.take_append_drop]
    rw [e]
    exact hK.append hK1
theorem opv_struct {α : Type} {t : TypeId} {fs : Array Field} {e : α → List V} {Q : α → Prop} {sz : Nat} (ht : P.underlying t = some (.struct fs)) (hs : P.cellsOf t = sz) (h : OpVF enc P w fs.toList 0 sz e Q) : OpV enc P w t e Q := by
  intro fuel cs x hx
  obtain ⟨xs, n, _, rfl, hl, hxl, hf⟩ := DataW.trod_struct ht hx
  obtain ⟨a, hK, hQ⟩ := h n cs xs (by omega) (by simpa using hxl) (fun i f hif => hf i f (by simpa using hif))
  exact ⟨a, by simpa using hK, hQ⟩

theorem Rd.cellish0 {ok : Nat → Prop} {v : Value} {x : V} (h : Rd w ok v x) : Ev.cellish x = true := by
  cases h <;> rfl
/-- A slice that came in. -/
theorem argv_slice {α : Type} {t el : TypeId} {e : α → V} {Q : α → Prop} {r : Reach} {b0 : Nat} {v : Value} {x : DataW H} {p : List MemPlace} (ht : P.underlying t = some (.slice el)) (ho : OpV enc P w t (fun a => [e a]) Q)
    (hv : Value.okWide P w r b0 t v) (h : DataW.Trod enc P w 0 (fun _ => true) true t v x p) : ∃ a : α, Q a ∧ ∀ ρ, En w (okW w) ρ v (e a) := by
  obtain ⟨A0, len, cap, rfl⟩ := okWide_slice ht hv
  obtain ⟨n, hn⟩ := h
  obtain ⟨a, hK, hQ⟩ := ho _ _ _ hn
  exact ⟨a, hQ, fun ρ => (hK.2 0 _ _ rfl rfl).en⟩
/-- A struct that came in by value. -/
theorem argv_struct {α : Type} {t : TypeId} {fs : Array Field} {e : α → List V} {Q : α → Prop} {r : Reach} {b0 : Nat} {v : Value} {x : DataW H} {p : List MemPlace} (ht : P.underlying t = some (.struct fs)) (ho : OpV enc P w t e Q)
    (hv : Value.okWide P w r b0 t v) (h : DataW.Trod enc P w 0 (fun _ => true) true t v x p) : ∃ a : α, Q a ∧ ∀ ρ, En w (okW w) ρ v (.agg (e a)) := by
  obtain ⟨cs, rfl, _⟩ := okWide_struct ht hv
  obtain ⟨n, hn⟩ := h
  obtain ⟨a, hK, hQ⟩ := ho _ _ _ hn
  simp only [Value.cells] at hK
  refine ⟨a, hQ, fun ρ => .agg (by rw [← Array.length_toList]; exact hK.1) (fun y hy => ?_) (fun k u y h1 h2 => (hK.2 k u y (by simpa using h1) h2).en)⟩
  obtain ⟨k, hk, rfl⟩ := List.getElem_of_mem hy
  exact (hK.2 k _ _ (List.getElem?_eq_getElem (by rw [hK.1]; exact hk)) (List.getElem?_eq_getElem hk)).cellish0
theorem argv_int {v : Int} {k : IntKind} {ρ : Rho} : En w (okW w) ρ (.int k v) (.lit (.int k v)) := .lit rfl
/-- A function that answers true, its arguments only read. -/
theorem law_true {M : Hints} {f : FuncId} {us : List Value} {xs os : List V} (hm : M.modes f = []) (hc : Contract P (M.modes f) f xs (.lit (.bool true)) os) (ha : us.length = xs.length) (he : ∀ (j : Nat) (u : Value) (x : V), us[j]? = some u → xs[j]? = some x → ∀ ρ, En w (okW w) ρ u x) :
    Calls P f us.toArray w (fun e w' => e = .returned (.bool true) ∧ Below w.heap.size w w') := by
  have hA : ∀ (us : List Value) (xs : List V), us.length = xs.length → (∀ (j : Nat) (u : Value) (x : V), us[j]? = some u → xs[j]? = some x → ∀ ρ, En w (okW w) ρ u x) → ArgsR P w (okW w) (fun _ => False) [] us xs [] := by
    intro us
    induction us with
    | nil => intro xs hl _; cases xs with
      | nil => exact .nil
      | cons x xs => simp at hl
    | cons u us ih => intro xs hl he; cases xs with
      | nil => simp at hl
      | cons x xs => exact .cons (f1 := []) (f2 := []) ⟨he 0 u x rfl rfl, rfl⟩ (ih xs (by simpa using hl) (fun j v y h1 h2 => he (j + 1) v y (by simpa using h1) (by simpa using h2)))
  refine (hc w us.toArray [] (fun _ => False) (fun _ => False) (okW w) (by rw [hm]; exact hA us xs ha he) List.nodup_nil (fun g hg => by simp at hg) (fun g hg => ⟨hg, fun h => h, fun h => h⟩) (fun g hg => hg.elim)).mono (fun e w' ⟨v, hv, hd⟩ => ?_)
  obtain ⟨hleft, ok', top', fr, fo, hres, _⟩ := hd
  have : v = .bool true := by
    simp only [ResR] at hres
    cases hres with
    | lit h => rfl
  subst this
  exact ⟨hv, hleft.below⟩
end
end Go.Proofs.Ytolbhpampnjinaa.Ev
