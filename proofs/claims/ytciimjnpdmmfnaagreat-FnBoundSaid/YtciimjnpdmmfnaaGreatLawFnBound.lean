/- The law FnBound: for every input the call returns true and each argument reads afterwards as it read before; no condition beyond the given row. -/
import Derived.Test.YtciimjnpdmmfnaaGreatA9
import Derived.Test.YtciimjnpdmmfnaaGreatRows
import Derived.Test.YtciimjnpdmmfnaaGreatHead
import Derived.WalkKit
import Derived.ProofKit
import Derived.OpenShut
import Derived.ShutString
import Derived.ChangeOld
import Derived.Below
import Derived.SizedLaws
import Derived.Carry
namespace Go.Proofs.YtciimjnpdmmfnaaGreat.fnBound
open Go.ChangeShapes Go.WideShapes Go.ChangeAt Go.RowKit Go.Proofs.YtciimjnpdmmfnaaGreat.Ev
open Go.ChangeMaps (open_string shut_string)
set_option linter.unusedVariables false
theorem own : ownKnob Tryz.prog.godebug = none := by kernel_rfl
theorem laidOut : laidOutB Tryz.prog = true := Head.laidOut
theorem trod_lt {H : Type} {enc : TypeId × Value → H} {P : Program} {w : World} {t : TypeId} {v : Value} {x : DataW H} {p : List MemPlace} (h : DataW.Trod enc P w 0 (fun _ => true) true t v x p) : ∀ y ∈ p, y.block < w.heap.size := by
  obtain ⟨m, hm⟩ := h
  exact DataW.trod_lt m _ _ _ hm
set_option maxRecDepth 100000 in
theorem lifted (os : Os) (started : os.Started) (H : Type) (enc : TypeId × Value → H) :
    ReturnsInHanded {} Tryz.checked os 12 .any (Rows.fnBoundSpec.pre6 enc Tryz.prog Tryz.f12 Rows.fnBoundRow.domain false) (Rows.fnBoundSpec.post enc Tryz.prog Tryz.f12 false true false false) := by
  refine returnsInHanded_of_change_sized (C := Tryz.checked) own started (by kernel_rfl) Tryz.func12
    (ChangeSpec.witness6 (enc := enc) (C := Tryz.checked) false ⟨#[], #[.slice none 0 0], []⟩ 8 (by kernel_rfl) (by kernel_rfl) (by kernel_rfl) (by kernel_rfl)) ?_
  intro W base args ds gs before hval0 hW hcnd hsz0 _
  have hval : ∀ (j : Nat) t v, Tryz.f12.params[j]? = some t → args[j]? = some v → Value.okWide Tryz.prog W .any base t v := hval0
  have hW' := hW
  obtain ⟨p, q, hA0, hV, rfl, hfz, hnd⟩ := hW
  have hA : DataW.TrodAll enc Tryz.prog W 0 (fun _ => true) true Tryz.f12.params.toList args.toList ds p := hA0
  rw [Tryz.params12] at hA hval
  obtain ⟨v0, vs0, d0, ds0, p0, q0, hargs, rfl, rfl, h0, r0⟩ := trodAll_cons hA
  obtain ⟨rfl, rfl, rfl⟩ := trodAll_nil r0
  obtain rfl : args = #[v0] := by cases args; simp_all
  obtain ⟨rfl, rfl⟩ := trodVars_none hV
  have k0 := h0
  have lt0 := trod_lt k0
  obtain ⟨a0, w0, hE0⟩ := Z88 Tryz.underlying22 (Ycc Tryz.underlying22 (fun _ => rfl) (by decide) (Ygq (k := .u8) Tryz.underlying5)) (hval 0 22 v0 rfl rfl) h0
  clear hA0 hval0 hsz0
  have hc := (Z55 (Z13 a0 w0)).2
  refine (Yew (us := [v0]) (by kernel_rfl) hc rfl (Yf9 (Yff hE0 Ygr))).mono fun e W' ⟨he, bel⟩ => ?_
  subst he
  exact ⟨_, rfl, _, _, _, [], _, [], hW', trodAll_mk1 (shut_bool Tryz.underlying4 _), (trodAll_cons_mk (Below.trod laidOut (by kernel_rfl) (of_decide_eq_true (by kernel_rfl)) k0 bel lt0) trodAll_mk0), rfl, bel.frame _, fun h => by cases h⟩
theorem uf : Tryz.prog.unfollowed 12 = true := by kernel_rfl
theorem re : Tryz.prog.recurses 12 = true := by
  unfold Program.recurses
  rw [uf]
  rfl
theorem ip : (Rows.fnBoundRow.inPlace == Tryz.prog.inPlace 12) = true := by kernel_rfl
theorem nm : (Rows.fnBoundRow.named == Tryz.prog.varsNamed 12) = true := by kernel_rfl
theorem facts : joinedFacts Tryz.prog 12 Tryz.f12 Rows.fnBoundSpec Rows.fnBoundRow = true := by
  unfold joinedFacts
  rewrite [ip, nm, uf, re, Head.enter, Head.made, Head.lifts, Head.laidOut, Head.maps, Head.heard]
  kernel_rfl
theorem over : Rows.fnBoundRow.holds Tryz.pinned (OpenSpec.ofChange Rows.fnBoundSpec) :=
  OpenClaim.holds_of_wide 12 Tryz.f12 rfl rfl rfl rfl rfl rfl rfl ⟨rfl, rfl, rfl, rfl, rfl⟩ rfl rfl rfl rfl rfl (by kernel_rfl) Tryz.func12 facts
    (of_decide_eq_true (by kernel_rfl)) (by unfold Func.isWrapper; first | (rw [if_pos (by decide +kernel)]; kernel_rfl) | (rw [if_neg (by decide +kernel)]; exact ⟨rfl, rfl⟩))
    (fun os started H enc _ => lifted os started H enc)
theorem proved : Rows.FnBoundSaid := over
#print axioms proved
end Go.Proofs.YtciimjnpdmmfnaaGreat.fnBound
namespace Go.Proofs.YtciimjnpdmmfnaaGreat
/-- The row, under a short name, for the claim. -/
theorem fnBound_holds : Rows.FnBoundSaid := fnBound.proved
end Go.Proofs.YtciimjnpdmmfnaaGreat
