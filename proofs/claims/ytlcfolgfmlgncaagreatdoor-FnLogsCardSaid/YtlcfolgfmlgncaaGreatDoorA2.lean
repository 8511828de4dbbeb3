/- A part of the proof of FnLogs: see the text YtlcfolgfmlgncaaGreatDoorLawFnLogs for what is proved and its conditions. Conditions here: those in each line. -/
import Derived.Test.YtlcfolgfmlgncaaGreatDoorA1
import Derived.ChangeOld
import Derived.KernelRfl
import Derived.OpenShut
import Derived.Orders
import Derived.ProofKit
import Derived.Tactics
import Derived.WalkKit
namespace Go.Proofs.YtlcfolgfmlgncaaGreatDoor.Ev
open Go Go.RowKit
set_option linter.unusedVariables false
set_option linter.unusedSimpArgs false
set_option linter.unusedSectionVars false
variable [Anchor]
section
variable {P:Program} {B:Nat} {io:Nat→Prop} {w w':World} {a a':Act} {s s':St} {ρ ρ':Rho} {F F':Id→List Nat} {fl:List Nat} {k:Nat} {o:Oper} {v:V} {M:Hints} {C:Yw} {ops:Array Oper}
def Zcf (P:Program) (B:Nat) (io:Nat→Prop) (fl:List Nat) (w:World) (a:Act) (ρ:Rho) (s':St) (a':Act) (w':World):Prop:=
 ∃ρ' F',Rel P B io w' a'.tmps s' ρ' F' fl∧Left B io w w'∧(∀id i,ρ id=some i→ρ' id=some i)∧a'.tmps.size=a.tmps.size∧a'.defers=a.defers
theorem Zcf.refl (h:Rel P B io w a.tmps s ρ F fl):Zcf P B io fl w a ρ s a w:=⟨ρ,F,h,Left.refl _ _ _,fun _ _ h=>h,rfl,rfl⟩
theorem Zcf.trans {w1:World} {a1:Act} {ρ1:Rho} (hl:Left B io w w1) (hρ:∀id i,ρ id=some i→ρ1 id=some i) (ht:a1.tmps.size=a.tmps.size) (hd:a1.defers=a.defers) (h:Zcf P B io fl w1 a1 ρ1 s' a' w'):Zcf P B io fl w a ρ s' a' w':=by
 obtain⟨ρ',F',h1,h2,h3,h4,h5⟩:=h
 exact⟨ρ',F',h1,hl.trans h2,fun id i h=>h3 id i (hρ id i h),h4.trans ht,h5.trans hd⟩
theorem Rel.putv (h:Rel P B io w a.tmps s ρ F fl) {dst:Option Tmp} {u:Value} (hd:∀d,dst=some d→d < a.tmps.size) (hv:En w (okS s ρ w) ρ u v):Rel P B io w (a.put dst u).tmps (s.put dst v) ρ F fl:=by
 cases dst with
 | none=>exact h
 | some d=>
  have hlt:=hd d rfl
  exact {h with
   env:=fun t x hx=>by
    simp only[Act.put] at hx
    simp only[St.put,upd]
    by_cases e:t=d
    ·subst e
     rw[Array.getElem?_setIfInBounds,if_pos rfl,if_pos hlt] at hx
     injection hx with hx
     subst hx
     rw[if_pos rfl];exact hv
    ·rw[Array.getElem?_setIfInBounds,if_neg (fun hh=>e hh.symm)] at hx
     rw[if_neg e];exact h.env t x hx
   out:=fun t ht=>by
    simp only[Act.put,Array.size_setIfInBounds] at ht
    simp only[St.put,upd]
    rw[if_neg (fun e=>absurd hlt (by rw[←e];exact Nat.not_lt.2 ht))]
    exact h.out t ht}
theorem Zsl (a:Act) (dst:Option Tmp) (u:Value):(a.put dst u).tmps.size=a.tmps.size:=by cases dst<;>simp[Act.put]
theorem Zoo (a:Act) (dst:Option Tmp) (u:Value):(a.put dst u).defers=a.defers:=by cases dst<;>rfl
theorem J7 (s:St) (dst:Option Tmp) (v:V):(s.put dst v).ep=s.ep:=by cases dst<;>rfl
theorem Zhb (s:St) (dst:Option Tmp) (v:V):(s.put dst v).heap=s.heap:=by cases dst<;>rfl
theorem Zwl (h:Rel P B io w a.tmps s ρ F fl) {g:Bool} (hw:wanted s ops o=some g):Region.wanted o (yielded ops a.tmps)=g:=by
 unfold wanted at hw
 unfold Region.wanted
 split at hw
 ·rename_i hg;simp only[Option.some.injEq] at hw;rw[hg];exact hw
 ·rename_i j b hg
  rw[hg];simp only
  have hy:∀t,(ops[j]?).bind (·.dst)=some t→yielded ops a.tmps j=match a.tmps[t]? with|some (.bool b)=>some b|_=>none:=fun t ht=>by
   unfold yielded
   rw[ht];rfl
  cases ht:(ops[j]?).bind (·.dst) with
  | none=>rw[ht] at hw;simp at hw
  | some t=>
   rw[ht] at hw
   simp only[Option.map_some] at hw
   rw[hy t ht]
   have key:∀{x:V},s.env t=x→x≠.undef→∃u,a.tmps[t]?=some u∧En w (okS s ρ w) ρ u x:=fun {x} hx hne=>by
    by_cases hlt:t < a.tmps.size
    ·have h1:a.tmps[t]?=some a.tmps[t]:=Array.getElem?_eq_getElem hlt
     exact⟨_,h1,hx▸h.env t _ h1⟩
    ·exact absurd (hx.symm.trans (h.out t (Nat.le_of_not_lt hlt))) hne
   split at hw
   ·rename_i c heq
    simp only[Option.some.injEq] at heq hw
    obtain⟨u,hu,hen⟩:=key heq (by simp)
    rw[hu]
    cases hen
    rw[←hw]
    cases c<;>cases b<;>rfl
   ·rename_i heq
    simp only[Option.some.injEq] at heq hw
    obtain⟨u,hu,hen⟩:=key heq (by simp)
    rw[hu]
    cases hen
    rw[←hw]
    cases b<;>rfl
   ·cases hw
theorem Zqf {K:Act→World→Prop} {Q:Exit→Act→World→Prop} {i:Nat} (h:Rel P B io w a.tmps s ρ F fl) (ho:ops[i]?=some o) (hd:∀d,o.dst=some d→d < a.tmps.size) {g:Bool} (hw:wanted s ops o=some g)
  (hnew:g=true→∀id:Id,id.1=s.ep→id.2 / 1024=i→ρ id=none) {s1:St} (he:g=true→evOp P M C s i o=some (v,s1)) (hcall:g=true→Ztx P B io w a.tmps s ρ fl i v s1 M C)
  (hK:∀a' w' ρ' F',Rel P B io w' a'.tmps (if g then s1.put o.dst v else s.put o.dst (.tup [])) ρ' F' fl→(if g then s1.put o.dst v else s.put o.dst (.tup [])).ep=s.ep→Left B io w w'→(∀id i,ρ id=some i→ρ' id=some i)→(∀id,(ρ' id).isSome=true→(ρ id).isSome=true∨(id.1=s.ep∧id.2 / 1024=i))→a'.tmps.size=a.tmps.size→a'.defers=a.defers→K a' w'):
  wpOp P ops Q i K a w:=by
 unfold wpOp
 rw[ho]
 simp only
 rw[Zwl h hw]
 cases g with
 | true=>
  simp only[if_true]
  refine .inl (Yaw h (he rfl) (hnew rfl) (hcall rfl) _ _ (fun val w' hp=>?_))
  obtain⟨henv,hep,hl,ρ',F',hR,hen,hρ,hdom⟩:=hp
  exact hK _ _ ρ' F' (hR.putv hd hen) (by rw[if_pos rfl,J7];exact hep) hl hρ hdom (Zsl _ _ _) (Zoo _ _ _)
 | false=>
  simp only[Bool.false_eq_true,if_false]
  exact hK _ _ ρ F (h.putv hd (.tup (by rfl) (fun k v x hv=>by simp[undef] at hv))) (by rw[if_neg (by simp),J7]) (Left.refl _ _ _) (fun _ _ h=>h) (fun _ h=>.inl h) (Zsl _ _ _) (Zoo _ _ _)
def Kr (P:Program) (M:Hints) (C:Yw):Prop:=
 ∀(B:Nat) (io:Nat→Prop) (w:World) (tmps:Array Value) (s:St) (ρ:Rho) (F:Id→List Nat) (fl:List Nat) (k:Nat) (v:V) (s':St),Rel P B io w tmps s ρ F fl→(∀id:Id,id.1=s.ep→id.2 / 1024=k→ρ id=none)→Ztx P B io w tmps s ρ fl k v s' M C
def Zgk (n:Nat) (l:List Oper):Bool:=l.all fun o=>match o.dst with|some d=>decide (d < n)|none=>true
theorem Zj2 {n:Nat} {l:List Oper} (h:Zgk n l=true) {i:Nat} {o:Oper} (ho:l[i]?=some o):∀d,o.dst=some d→d < n:=fun d hd=>by
 have:=List.all_eq_true.1 h o (List.mem_of_getElem? ho)
 rw[hd] at this
 simpa using this
theorem Z89 {C:Nat→Yw} {Q:Exit→Act→World→Prop} (hC:∀k,Kr P M (C k)):∀(l:List Oper) {k:Nat} {s s':St} {a:Act} {w:World} {ρ:Rho} {F:Id→List Nat},Rel P B io w a.tmps s ρ F fl→(∀j,l[j]?=ops[k+j]?)→Zgk a.tmps.size ops.toList=true→
  (∀id:Id,id.1=s.ep→k≤id.2 / 1024→ρ id=none)→Ju P M C ops s k l=some s'→(∀a' w',Zcf P B io fl w a ρ s' a' w'→Q .normal a' w')→wpOps P ops Q (List.range' k l.length) a w:=by
 intro l
 induction l with
 | nil=>
  intro k s s' a w ρ F h _ _ _ he hQ
  simp only[Ju,Option.some.injEq] at he
  subst he
  exact hQ _ _ (.refl h)
 | cons o l ih=>
  intro k s s' a w ρ F h hl hds hnew he hQ
  have h0:ops[k]?=some o:=by simpa using (hl 0).symm
  simp only[Ju] at he
  obtain⟨g,hg,he⟩:=Option.bind_eq_some_iff.1 he
  simp only[List.length_cons,List.range'_succ]
  rw[wpOps_cons]
  have hd:=Zj2 hds (i:=k) (o:=o) (by simpa using h0)
  have hlt:∀(id:Id),id.1=s.ep→id.2 / 1024=k→ρ id=none:=fun id h1 h2=>hnew id h1 (by omega)
  have go:∀{s2:St} {a':Act} {w':World} {ρ':Rho} {F':Id→List Nat},Rel P B io w' a'.tmps s2 ρ' F' fl→s2.ep=s.ep→Left B io w w'→(∀id i,ρ id=some i→ρ' id=some i)→(∀id,(ρ' id).isSome=true→(ρ id).isSome=true∨(id.1=s.ep∧id.2 / 1024=k))→
    a'.tmps.size=a.tmps.size→a'.defers=a.defers→Ju P M C ops s2 (k+1) l=some s'→wpOps P ops Q (List.range' (k+1) l.length) a' w':=by
   intro s2 a' w' ρ' F' hR hep hLf hρ hdom hts hdf he2
   refine ih hR (fun j=>by have:=hl (j+1);simpa [Nat.add_assoc,Nat.add_comm 1 j] using this) (by rw[hts];exact hds) (fun id h1 h2=>?_) he2 (fun a2 w2 hA=>hQ _ _ (.trans hLf hρ hts hdf hA))
   cases hr:ρ' id with
   | none=>rfl
   | some i=>
    rcases hdom id (by rw[hr];rfl) with h3|⟨_,h3⟩
    ·rw[hnew id (by rw[←hep];exact h1) (by omega)] at h3;cases h3
    ·omega
  cases g with
  | true=>
   simp only[if_true] at he
   obtain⟨⟨v,s1⟩,h1,he⟩:=Option.bind_eq_some_iff.1 he
   refine Zqf (M:=M) (C:=C k) (v:=v) (s1:=s1) h h0 hd hg (fun _=>hlt) (fun _=>h1) (fun _=>hC k _ _ _ _ _ _ F _ _ _ _ h hlt) (fun a' w' ρ' F' hR hep hLf hρ hdom hts hdf=>?_)
   simp only[if_true] at hR hep
   exact go hR hep hLf hρ hdom hts hdf he
  | false=>
   simp only[Bool.false_eq_true,if_false] at he
   refine Zqf (M:=M) (C:=C k) (v:=.undef) (s1:=s) h h0 hd hg (fun hf=>by cases hf) (fun hf=>by cases hf) (fun hf=>by cases hf) (fun a' w' ρ' F' hR hep hLf hρ hdom hts hdf=>?_)
   simp only[Bool.false_eq_true,if_false] at hR hep
   exact go hR hep hLf hρ hdom hts hdf he
end
end Go.Proofs.YtlcfolgfmlgncaaGreatDoor.Ev
namespace Go.Proofs.YtlcfolgfmlgncaaGreatDoor.Ev
open Go
set_option linter.unusedVariables false
set_option linter.unusedSimpArgs false
structure Ext (D:Id→Prop) (s t:St):Prop where
 ep:t.ep=s.ep
 out:∀id,¬D id→t.heap id=s.heap id
 abs:∀id,D id→s.heap id=none
def Ext2 (D:Id→Prop) (t s' t':St):Prop:=Ext D s' t'∧(∀id,D id→t'.heap id=t.heap id)∧t'.env=t.env∧t'.ep=t.ep
section
variable {D:Id→Prop} {s t s':St} {P:Program}
theorem Ext.notD (h:Ext D s t) {id:Id} {b:Blk} (hb:s.heap id=some b):¬D id:=fun hd=>by rw[h.abs id hd] at hb;cases hb
theorem Ext.get (h:Ext D s t) {id:Id} {b:Blk} (hb:s.heap id=some b):t.heap id=some b:=by rw[h.out id (h.notD hb)];exact hb
theorem Ext.two (h:Ext D s t):Ext2 D t s t:=⟨h,fun _ _=>rfl,rfl,rfl⟩
theorem Ext2.trans {t1 s1 s2 t2:St} (h:Ext2 D t s1 t1) (k:Ext2 D t1 s2 t2):Ext2 D t s2 t2:=⟨k.1,fun id hd=>(k.2.1 id hd).trans (h.2.1 id hd),k.2.2.1.trans h.2.2.1,k.2.2.2.trans h.2.2.2⟩
theorem Ext.kill (h:Ext D s t) {id:Id} (hd:¬D id):Ext2 D t (s.kill id) (t.kill id):=by
 refine⟨⟨h.ep,fun id' hd'=>?_,fun id' hd'=>?_⟩,fun id' hd'=>?_,rfl,rfl⟩
 ·simp only[St.kill,upd];split
  ·rfl
  ·exact h.out id' hd'
 ·simp only[St.kill,upd];split
  ·rfl
  ·exact h.abs id' hd'
 ·simp only[St.kill,upd];rw[if_neg (show ¬id'=id from fun e=>hd (by rw[←e];exact hd'))]
theorem Ext.setB (h:Ext D s t) {id:Id} {b:Blk} (hd:¬D id):Ext2 D t (s.setB id b) (t.setB id b):=by
 refine⟨⟨h.ep,fun id' hd'=>?_,fun id' hd'=>?_⟩,fun id' hd'=>?_,rfl,rfl⟩
 ·simp only[St.setB,upd];split
  ·rfl
  ·exact h.out id' hd'
 ·simp only[St.setB,upd];rw[if_neg (show ¬id'=id from fun e=>hd (by rw[←e];exact hd'))];exact h.abs id' hd'
 ·simp only[St.setB,upd];rw[if_neg (show ¬id'=id from fun e=>hd (by rw[←e];exact hd'))]
theorem Ext.rowsOf (h:Ext D s t) {x:V} {r:List (List V)} (hr:s.rowsOf x=some r):t.rowsOf x=some r:=by
 unfold St.rowsOf at hr ⊢
 split at hr
 ·obtain⟨b,hb,hr⟩:=Option.bind_eq_some_iff.1 hr
  simp only[h.get hb,Option.bind_some];exact hr
 ·exact hr
 ·exact hr
 ·exact hr
 ·cases hr
theorem Ext.whole (h:Ext D s t) {id:Id} {off len:Nat} {r:TypeId×List (List V)} (hr:s.whole id off len=some r):t.whole id off len=some r∧¬D id:=by
 unfold St.whole at hr ⊢
 obtain⟨b,hb,hr⟩:=Option.bind_eq_some_iff.1 hr
 exact⟨by simp only[h.get hb,Option.bind_some];exact hr,h.notD hb⟩
theorem Ext.sink:∀(xs:List V) {s t:St} {ys:List V} {c:Bool} {s':St},Ext D s t→s.sink xs=some (ys,c,s')→∃t',t.sink xs=some (ys,c,t')∧Ext2 D t s' t':=by
 intro xs
 induction xs with
 | nil=>
  intro s t ys c s' h hs
  simp only[St.sink,Option.some.injEq,Prod.mk.injEq] at hs
  obtain⟨rfl,rfl,rfl⟩:=hs
  exact⟨t,rfl,h.two⟩
 | cons x xs ih=>
  intro s t ys c s' h hs
  have step:∀{y:V} {f:Bool→Bool},((s.sink xs).map fun q=>(y::q.1,f q.2.1,q.2.2))=some (ys,c,s')→∃t',((t.sink xs).map fun q=>(y::q.1,f q.2.1,q.2.2))=some (ys,c,t')∧Ext2 D t s' t':=by
   intro y f hs
   obtain⟨⟨q1,q2,q3⟩,hq,he⟩:=Option.map_eq_some_iff.1 hs
   simp only[Prod.mk.injEq] at he
   obtain⟨rfl,rfl,rfl⟩:=he
   obtain⟨t',h1,h2⟩:=ih h hq
   exact⟨t',by rw[h1];rfl,h2⟩
  unfold St.sink at hs ⊢
  split at hs
  ·exact step (f:=fun b=>b) hs
  ·rename_i hne
   exact step (f:=fun b=>b) hs
  ·exact step (f:=fun _=>false) hs
  ·exact step (f:=fun _=>false) hs
  ·rename_i id off len
   split at hs
   ·rename_i er hw
    obtain⟨hw',hd⟩:=h.whole hw
    obtain⟨⟨q1,q2,q3⟩,hq,he⟩:=Option.map_eq_some_iff.1 hs
    simp only[Prod.mk.injEq] at he
    obtain⟨rfl,rfl,rfl⟩:=he
    obtain⟨t',h1,h2⟩:=ih (h.kill hd).1 hq
    refine⟨t',by rw[hw'];simp only[h1];rfl,(h.kill hd).trans h2⟩
   ·rename_i hw
    split at hs
    ·rename_i b hb
     split at hs
     ·rename_i hown
      obtain⟨rows,hrows,hs⟩:=Option.bind_eq_some_iff.1 hs
      obtain⟨t',h1,h2⟩:=step (f:=fun _=>false) hs
      have hb':=h.get hb
      have hw':t.whole id off len=none:=by
       unfold St.whole at hw ⊢
       rw[hb'] ;rw[hb] at hw;exact hw
      exact⟨t',by rw[hw',hb'];simp only[hown,if_true,h.rowsOf hrows,Option.bind_some];exact h1,h2⟩
     ·cases hs
    ·cases hs
  ·cases hs
theorem Ext.sinkRows:∀(xs:List (List V)) {s t:St} {ys:List (List V)} {c:Bool} {s':St},Ext D s t→s.sinkRows xs=some (ys,c,s')→∃t',t.sinkRows xs=some (ys,c,t')∧Ext2 D t s' t':=by
 intro xs
 induction xs with
 | nil=>
  intro s t ys c s' h hs
  simp only[St.sinkRows,Option.some.injEq,Prod.mk.injEq] at hs
  obtain⟨rfl,rfl,rfl⟩:=hs
  exact⟨t,rfl,h.two⟩
 | cons x xs ih=>
  intro s t ys c s' h hs
  simp only[St.sinkRows] at hs ⊢
  obtain⟨⟨y1,c1,s1⟩,h1,hs⟩:=Option.bind_eq_some_iff.1 hs
  obtain⟨⟨y2,c2,s2⟩,h2,hs⟩:=Option.map_eq_some_iff.1 hs
  simp only[Prod.mk.injEq] at hs
  obtain⟨rfl,rfl,rfl⟩:=hs
  obtain⟨t1,g1,e1⟩:=Ext.sink x h h1
  obtain⟨t2,g2,e2⟩:=ih e1.1 h2
  exact⟨t2,by rw[g1];simp only[Option.bind_some,g2];rfl,e1.trans e2⟩
theorem Ext.rdCell (h:Ext D s t) {x y:V} (hr:s.rdCell x=some y):t.rdCell x=some y:=by
 unfold St.rdCell at hr ⊢
 split at hr
 ·exact hr
 ·exact hr
 ·exact hr
 ·exact hr
 ·obtain⟨r,h1,rfl⟩:=Option.map_eq_some_iff.1 hr
  rw[h.rowsOf h1];rfl
 ·exact hr
 ·exact hr
theorem Ext.rdCells (h:Ext D s t):∀{xs ys:List V},s.rdCells xs=some ys→t.rdCells xs=some ys:=by
 intro xs
 induction xs with
 | nil=>intro ys hr;exact hr
 | cons x xs ih=>
  intro ys hr
  simp only[St.rdCells] at hr ⊢
  obtain⟨y,h1,hr⟩:=Option.bind_eq_some_iff.1 hr
  obtain⟨zs,h2,rfl⟩:=Option.map_eq_some_iff.1 hr
  rw[h.rdCell h1];simp only[Option.bind_some,ih h2];rfl
theorem Ext.rdPlace (h:Ext D s t) {x y:V} (hr:s.rdPlace x=some y):t.rdPlace x=some y:=by
 unfold St.rdPlace at hr ⊢
 split at hr
 ·obtain⟨b,hb,hr⟩:=Option.bind_eq_some_iff.1 hr
  simp only[h.get hb,Option.bind_some]
  split at hr
  ·rename_i ho
   rw[if_pos ho]
   obtain⟨row,hrow,hr⟩:=Option.bind_eq_some_iff.1 hr
   obtain⟨cs,hcs,rfl⟩:=Option.map_eq_some_iff.1 hr
   rw[hrow];simp only[Option.bind_some,h.rdCells hcs];rfl
  ·cases hr
 ·exact h.rdCell hr
theorem Ext.rdPlaces (h:Ext D s t):∀{xs ys:List V},s.rdPlaces xs=some ys→t.rdPlaces xs=some ys:=by
 intro xs
 induction xs with
 | nil=>intro ys hr;exact hr
 | cons x xs ih=>
  intro ys hr
  simp only[St.rdPlaces] at hr ⊢
  obtain⟨y,h1,hr⟩:=Option.bind_eq_some_iff.1 hr
  obtain⟨zs,h2,rfl⟩:=Option.map_eq_some_iff.1 hr
  rw[h.rdPlace h1];simp only[Option.bind_some,ih h2];rfl
theorem Ext.rdArg (h:Ext D s t) {x y:V} (hr:s.rdArg x=some y):t.rdArg x=some y:=by
 unfold St.rdArg at hr ⊢
 split at hr
 ·obtain⟨ys,h1,rfl⟩:=Option.map_eq_some_iff.1 hr
  simp only[h.rdCells h1];rfl
 ·obtain⟨ys,h1,rfl⟩:=Option.map_eq_some_iff.1 hr
  simp only[h.rdPlaces h1];rfl
 ·exact h.rdPlace hr
theorem Ext.rdAll (h:Ext D s t):∀{xs:List V} {ms:List Mode} {ys:List V},s.rdAll ms xs=some ys→t.rdAll ms xs=some ys:=by
 intro xs
 induction xs with
 | nil=>intro ms ys hr;exact hr
 | cons x xs ih=>
  intro ms ys hr
  simp only[St.rdAll] at hr ⊢
  obtain⟨y,h1,hr⟩:=Option.bind_eq_some_iff.1 hr
  obtain⟨zs,h2,rfl⟩:=Option.map_eq_some_iff.1 hr
  have:t.rdArgM (ms.headD .rd) x=some y:=by
   unfold St.rdArgM at h1 ⊢
   split at h1
   ·exact h.rdArg h1
   ·exact h1
  rw[this];simp only[Option.bind_some,ih h2];rfl
theorem Ext.giveCell (h:Ext D s t) {ty:Option TypeId} {x y:V} (hg:s.giveCell ty x=some (y,s')):∃t',t.giveCell ty x=some (y,t')∧Ext2 D t s' t':=by
 unfold St.giveCell at hg ⊢
 split at hg
 ·obtain⟨e,h1,he⟩:=Option.map_eq_some_iff.1 hg
  simp only[Prod.mk.injEq] at he
  obtain⟨rfl,rfl⟩:=he
  exact⟨t,by rw[h1];rfl,h.two⟩
 ·simp only[Option.some.injEq,Prod.mk.injEq] at hg
  obtain⟨rfl,rfl⟩:=hg
  exact⟨t,rfl,h.two⟩
 ·simp only[Option.some.injEq,Prod.mk.injEq] at hg
  obtain⟨rfl,rfl⟩:=hg
  exact⟨t,rfl,h.two⟩
 ·simp only[Option.some.injEq,Prod.mk.injEq] at hg
  obtain⟨rfl,rfl⟩:=hg
  exact⟨t,rfl,h.two⟩
 ·obtain⟨er,h1,he⟩:=Option.map_eq_some_iff.1 hg
  simp only[Prod.mk.injEq] at he
  obtain⟨rfl,rfl⟩:=he
  obtain⟨h2,hd⟩:=h.whole h1
  exact⟨_,by rw[h2];rfl,h.kill hd⟩
 ·cases hg
theorem Ext.giveCells:∀{xs:List V} {s t:St} {ts:List (Option TypeId)} {ys:List V} {s':St},Ext D s t→s.giveCells ts xs=some (ys,s')→∃t',t.giveCells ts xs=some (ys,t')∧Ext2 D t s' t':=by
 intro xs
 induction xs with
 | nil=>
  intro s t ts ys s' h hs
  simp only[St.giveCells,Option.some.injEq,Prod.mk.injEq] at hs
  obtain⟨rfl,rfl⟩:=hs
  exact⟨t,rfl,h.two⟩
 | cons x xs ih=>
  intro s t ts ys s' h hs
  simp only[St.giveCells] at hs ⊢
  obtain⟨⟨y1,s1⟩,h1,hs⟩:=Option.bind_eq_some_iff.1 hs
  obtain⟨⟨y2,s2⟩,h2,hs⟩:=Option.map_eq_some_iff.1 hs
  simp only[Prod.mk.injEq] at hs
  obtain⟨rfl,rfl⟩:=hs
  obtain⟨t1,g1,e1⟩:=h.giveCell h1
  obtain⟨t2,g2,e2⟩:=ih e1.1 h2
  exact⟨t2,by rw[g1];simp only[Option.bind_some,g2];rfl,e1.trans e2⟩
theorem Ext.giveArg (h:Ext D s t) {ts:List (Option TypeId)} {x y:V} (hg:s.giveArg ts x=some (y,s')):∃t',t.giveArg ts x=some (y,t')∧Ext2 D t s' t':=by
 unfold St.giveArg at hg ⊢
 split at hg
 ·obtain⟨⟨ys,s1⟩,h1,he⟩:=Option.map_eq_some_iff.1 hg
  simp only[Prod.mk.injEq] at he
  obtain⟨rfl,rfl⟩:=he
  obtain⟨t',g,e⟩:=Ext.giveCells h h1
  exact⟨t',by rw[g];rfl,e⟩
 ·exact h.giveCell hg
theorem Ext.giveBox (h:Ext D s t) {ts:List (Option TypeId)} {id:Id} {ys:List V} (hg:s.giveBox ts id=some (ys,s')):(∃t',t.giveBox ts id=some (ys,t')∧Ext2 D t s' t')∧¬D id:=by
 unfold St.giveBox at hg ⊢
 obtain⟨b,hb,hg⟩:=Option.bind_eq_some_iff.1 hg
 refine⟨?_,h.notD hb⟩
 simp only[h.get hb,Option.bind_some]
 split at hg
 ·rename_i hc
  rw[if_pos hc]
  split at hg
  ·rename_i row hr
   obtain⟨t',g,e⟩:=Ext.giveCells (h.kill (h.notD hb)).1 hg
   exact⟨t',g,(h.kill (h.notD hb)).trans e⟩
  ·cases hg
 ·cases hg
def Zql (D:Id→Prop):V→Prop
 | .sl id _ _=>¬D id
 | _=>True
def idsM (D:Id→Prop) (m:Mode) (x:V):Prop:=match m with
 | .io=>match x with|.ptr id _ _=>¬D id|_=>True
 | .iov=>match thin x with|.agg cs=>∀c∈cs,Zql D c|x=>Zql D x
 | _=>True
def Z54 (D:Id→Prop):List Mode→List V→Prop
 | _,[]=>True
 | ms,x::r=>idsM D (ms.headD .rd) x∧Z54 D ms.tail r
theorem Ext.giveCell_ids (h:Ext D s t) {ty:Option TypeId} {x y:V} (hg:s.giveCell ty x=some (y,s')):Zql D x:=by
 cases x<;>try exact trivial
 rename_i id off len
 simp only[St.giveCell] at hg
 obtain⟨er,h1,he⟩:=Option.map_eq_some_iff.1 hg
 exact (h.whole h1).2
theorem Ext.giveCells_ids:∀{xs:List V} {s t:St} {ts:List (Option TypeId)} {ys:List V} {s':St},Ext D s t→s.giveCells ts xs=some (ys,s')→∀c∈xs,Zql D c:=by
 intro xs
 induction xs with
 | nil=>intro s t ts ys s' h hs c hc;simp at hc
 | cons x xs ih=>
  intro s t ts ys s' h hs c hc
  simp only[St.giveCells] at hs
  obtain⟨⟨y1,s1⟩,h1,hs⟩:=Option.bind_eq_some_iff.1 hs
  obtain⟨⟨y2,s2⟩,h2,hs⟩:=Option.map_eq_some_iff.1 hs
  rcases List.mem_cons.1 hc with rfl|hc
  ·exact h.giveCell_ids h1
  ·obtain⟨t1,g1,e1⟩:=h.giveCell h1
   exact ih e1.1 h2 c hc
theorem Ext.give (h:Ext D s t) {ts:List (Option TypeId)} {m:Mode} {x y:V} (hg:s.give ts m x=some (y,s')):(∃t',t.give ts m x=some (y,t')∧Ext2 D t s' t')∧idsM D m x:=by
 unfold St.give at hg ⊢
 split at hg
 ·simp only[Option.some.injEq,Prod.mk.injEq] at hg
  obtain⟨rfl,rfl⟩:=hg
  exact⟨⟨t,rfl,h.two⟩,trivial⟩
 ·split at hg
  ·obtain⟨⟨ys,s1⟩,h1,he⟩:=Option.map_eq_some_iff.1 hg
   simp only[Prod.mk.injEq] at he
   obtain⟨rfl,rfl⟩:=he
   obtain⟨⟨t',g,e⟩,hd⟩:=h.giveBox h1
   exact⟨⟨t',by simp only[g];rfl,e⟩,hd⟩
  ·cases hg
 ·exact⟨h.giveArg hg,trivial⟩
 ·refine⟨h.giveArg hg,?_⟩
  unfold idsM
  generalize thin x=z at hg
  unfold St.giveArg at hg
  split at hg
  ·obtain⟨⟨ys,s1⟩,h1,he⟩:=Option.map_eq_some_iff.1 hg
   exact Ext.giveCells_ids h h1
  ·rename_i hne
   have:=h.giveCell_ids hg
   cases z<;>first|exact this|exact absurd rfl (hne _)
theorem Ext.gives:∀{xs:List V} {s t:St} {ts:List TypeId} {ms:List Mode} {ys:List V} {s':St},Ext D s t→s.gives P ts ms xs=some (ys,s')→(∃t',t.gives P ts ms xs=some (ys,t')∧Ext2 D t s' t')∧Z54 D ms xs:=by
 intro xs
 induction xs with
 | nil=>
  intro s t ts ms ys s' h hs
  simp only[St.gives,Option.some.injEq,Prod.mk.injEq] at hs
  obtain⟨rfl,rfl⟩:=hs
  exact⟨⟨t,rfl,h.two⟩,trivial⟩
 | cons x xs ih=>
  intro s t ts ms ys s' h hs
  simp only[St.gives] at hs ⊢
  obtain⟨⟨y1,s1⟩,h1,hs⟩:=Option.bind_eq_some_iff.1 hs
  obtain⟨⟨y2,s2⟩,h2,hs⟩:=Option.map_eq_some_iff.1 hs
  simp only[Prod.mk.injEq] at hs
  obtain⟨rfl,rfl⟩:=hs
  obtain⟨⟨t1,g1,e1⟩,i1⟩:=h.give h1
  obtain⟨⟨t2,g2,e2⟩,i2⟩:=ih e1.1 h2
  exact⟨⟨t2,by rw[g1];simp only[Option.bind_some,g2];rfl,e1.trans e2⟩,i1,i2⟩
theorem Ext.takeCell (h:Ext D s t) {id:Id} (hd:¬D id) {x y:V} (hg:s.takeCell id x=some (y,s')):∃t',t.takeCell id x=some (y,t')∧Ext2 D t s' t':=by
 unfold St.takeCell at hg ⊢
 split at hg
 ·simp only[Option.some.injEq,Prod.mk.injEq] at hg
  obtain⟨rfl,rfl⟩:=hg
  exact⟨_,rfl,h.setB hd⟩
 ·simp only[Option.some.injEq,Prod.mk.injEq] at hg
  obtain⟨rfl,rfl⟩:=hg
  exact⟨t,rfl,h.two⟩
 ·simp only[Option.some.injEq,Prod.mk.injEq] at hg
  obtain⟨rfl,rfl⟩:=hg
  exact⟨t,rfl,h.two⟩
 ·cases hg
theorem Ext.takeCells {e:Nat}:∀{xs:List V} {s t:St} {k:Nat} {ys:List V} {s':St},Ext D s t→(∀j,k≤j→j < k+xs.length→¬D (e,j))→s.takeCells e k xs=some (ys,s')→∃t',t.takeCells e k xs=some (ys,t')∧Ext2 D t s' t':=by
 intro xs
 induction xs with
 | nil=>
  intro s t k ys s' h _ hs
  simp only[St.takeCells,Option.some.injEq,Prod.mk.injEq] at hs
  obtain⟨rfl,rfl⟩:=hs
  exact⟨t,rfl,h.two⟩
 | cons x xs ih=>
  intro s t k ys s' h hd hs
  simp only[St.takeCells] at hs ⊢
  obtain⟨⟨y1,s1⟩,h1,hs⟩:=Option.bind_eq_some_iff.1 hs
  obtain⟨⟨y2,s2⟩,h2,hs⟩:=Option.map_eq_some_iff.1 hs
  simp only[Prod.mk.injEq] at hs
  obtain⟨rfl,rfl⟩:=hs
  obtain⟨t1,g1,e1⟩:=h.takeCell (hd k (Nat.le_refl _) (by simp)) h1
  obtain⟨t2,g2,e2⟩:=ih e1.1 (fun j hj hlt=>hd j (by omega) (by simp only[List.length_cons];omega)) h2
  exact⟨t2,by rw[g1];simp only[Option.bind_some,g2];rfl,e1.trans e2⟩
theorem Ext.takeOne (h:Ext D s t) {e k:Nat} (hd:∀j,k≤j→j < k+64→¬D (e,j)) {x y:V} (hg:s.takeOne e k x=some (y,s')):∃t',t.takeOne e k x=some (y,t')∧Ext2 D t s' t':=by
 unfold St.takeOne at hg ⊢
 split at hg
 ·split at hg
  ·rename_i hl
   rw[if_pos hl]
   obtain⟨⟨ys,s1⟩,h1,he⟩:=Option.map_eq_some_iff.1 hg
   simp only[Prod.mk.injEq] at he
   obtain⟨rfl,rfl⟩:=he
   obtain⟨t',g,e⟩:=Ext.takeCells h (fun j hj hlt=>hd j hj (by omega)) h1
   exact⟨t',by rw[g];rfl,e⟩
  ·cases hg
 ·split at hg
  ·rename_i hl
   rw[if_pos hl]
   obtain⟨⟨ys,s1⟩,h1,he⟩:=Option.map_eq_some_iff.1 hg
   simp only[Prod.mk.injEq] at he
   obtain⟨rfl,rfl⟩:=he
   obtain⟨t',g,e⟩:=Ext.takeCells h (fun j hj hlt=>hd j hj (by omega)) h1
   exact⟨_,by rw[g];rfl,e.trans (e.1.setB (hd _ (by omega) (by omega)))⟩
  ·cases hg
 ·exact h.takeCell (hd k (Nat.le_refl _) (by omega)) hg
theorem Ext.takeAll {e:Nat}:∀{xs:List V} {s t:St} {k:Nat} {ys:List V} {s':St},Ext D s t→(∀j,64*k≤j→j < 64*(k+xs.length)→¬D (e,j))→s.takeAll e k xs=some (ys,s')→∃t',t.takeAll e k xs=some (ys,t')∧Ext2 D t s' t':=by
 intro xs
 induction xs with
 | nil=>
  intro s t k ys s' h _ hs
  simp only[St.takeAll,Option.some.injEq,Prod.mk.injEq] at hs
  obtain⟨rfl,rfl⟩:=hs
  exact⟨t,rfl,h.two⟩
 | cons x xs ih=>
  intro s t k ys s' h hd hs
  simp only[List.length_cons] at hd
  simp only[St.takeAll] at hs ⊢
  obtain⟨⟨y1,s1⟩,h1,hs⟩:=Option.bind_eq_some_iff.1 hs
  obtain⟨⟨y2,s2⟩,h2,hs⟩:=Option.map_eq_some_iff.1 hs
  simp only[Prod.mk.injEq] at hs
  obtain⟨rfl,rfl⟩:=hs
  obtain⟨t1,g1,e1⟩:=h.takeOne (fun j hj hlt=>hd j hj (by omega)) h1
  obtain⟨t2,g2,e2⟩:=ih e1.1 (fun j hj hlt=>hd j (by omega) (by omega)) h2
  exact⟨t2,by rw[g1];simp only[Option.bind_some,g2];rfl,e1.trans e2⟩
theorem Ext.takeRes (h:Ext D s t) {e k:Nat} (hd:∀j,64*k≤j→j < 64*(k+8)→¬D (e,j)) {x y:V} (hg:s.takeRes e k x=some (y,s')):∃t',t.takeRes e k x=some (y,t')∧Ext2 D t s' t':=by
 unfold St.takeRes at hg ⊢
 split at hg
 ·split at hg
  ·rename_i hl
   rw[if_pos hl]
   obtain⟨⟨ys,s1⟩,h1,he⟩:=Option.map_eq_some_iff.1 hg
   simp only[Prod.mk.injEq] at he
   obtain⟨rfl,rfl⟩:=he
   obtain⟨t',g,e⟩:=Ext.takeAll h (fun j hj hlt=>hd j hj (by omega)) h1
   exact⟨t',by rw[g];rfl,e⟩
  ·cases hg
 ·exact h.takeOne (fun j hj hlt=>hd j hj (by omega)) hg
theorem Ext.backCells:∀{xs:List V} {s t:St} {os:List V} {s':St},Ext D s t→(∀c∈xs,Zql D c)→s.backCells xs os=some s'→∃t',t.backCells xs os=some t'∧Ext2 D t s' t':=by
 intro xs
 induction xs with
 | nil=>
  intro s t os s' h _ hs
  simp only[St.backCells,Option.some.injEq] at hs
  subst hs
  exact⟨t,rfl,h.two⟩
 | cons x xs ih=>
  intro s t os s' h hd hs
  unfold St.backCells at hs ⊢
  split at hs
  ·rename_i heq;cases heq
  ·rename_i id l os1 e rows ns heq1
   injection heq1 with h1 h2
   subst h1;subst h2
   have:=h.setB (b:=⟨false,true,true,e,rows⟩) (hd _ List.mem_cons_self)
   obtain⟨t',g,e⟩:=ih this.1 (fun c hc=>hd c (List.mem_cons_of_mem _ hc)) hs
   exact⟨t',g,this.trans e⟩
  ·rename_i heq1
   injection heq1 with h1 h2
   subst h1;subst h2
   rename_i hne
   obtain⟨t',g,e⟩:=ih h (fun c hc=>hd c (List.mem_cons_of_mem _ hc)) hs
   exact⟨t',g,e⟩
  ·cases hs
theorem Ext.back (h:Ext D s t) {m:Mode} {e k:Nat} (hd:∀j,64*k≤j→j < 64*(k+1)→¬D (e,j)) {x o:V} (hi:idsM D m x) (hb:s.back m e k x o=some s'):∃t',t.back m e k x o=some t'∧Ext2 D t s' t':=by
 unfold St.back at hb ⊢
 split at hb
 ·simp only[Option.some.injEq] at hb;subst hb;exact⟨t,rfl,h.two⟩
 ·simp only[Option.some.injEq] at hb;subst hb;exact⟨t,rfl,h.two⟩
 ·split at hb
  ·split at hb
   ·rename_i hl
    rw[if_pos hl]
    obtain⟨⟨ys,s1⟩,h1,rfl⟩:=Option.map_eq_some_iff.1 hb
    obtain⟨t',g,e⟩:=Ext.takeCells h (fun j hj hlt=>hd j hj (by omega)) h1
    exact⟨_,by rw[g];rfl,e.trans (e.1.setB hi)⟩
   ·cases hb
  ·cases hb
 ·unfold idsM at hi
  generalize thin x=z at hb hi
  split at hb
  ·exact Ext.backCells h hi hb
  ·rename_i hne
   refine Ext.backCells h (fun c hc=>?_) hb
   rw[List.mem_singleton.1 hc]
   cases z<;>first|exact hi|exact trivial
theorem Ext.backs {e:Nat}:∀{xs:List V} {s t:St} {ms:List Mode} {k:Nat} {os:List V} {s':St},Ext D s t→(∀j,64*k≤j→j < 64*(k+xs.length)→¬D (e,j))→Z54 D ms xs→s.backs e ms k xs os=some s'→∃t',t.backs e ms k xs os=some t'∧Ext2 D t s' t':=by
 intro xs
 induction xs with
 | nil=>
  intro s t ms k os s' h _ _ hs
  simp only[St.backs,Option.some.injEq] at hs
  subst hs
  exact⟨t,by simp[St.backs],h.two⟩
 | cons x xs ih=>
  intro s t ms k os s' h hd hi hs
  simp only[List.length_cons] at hd
  cases os with
  | nil=>simp[St.backs] at hs
  | cons o os=>
   simp only[St.backs] at hs ⊢
   obtain⟨s1,h1,hs⟩:=Option.bind_eq_some_iff.1 hs
   obtain⟨t1,g1,e1⟩:=h.back (fun j hj hlt=>hd j hj (by omega)) hi.1 h1
   obtain⟨t2,g2,e2⟩:=ih e1.1 (fun j hj hlt=>hd j (by omega) (by omega)) hi.2 hs
   exact⟨t2,by rw[g1];exact g2,e1.trans e2⟩
variable {M:Hints} {C:Yw} {k:Nat} {o:Oper} {v:V}
theorem Ext.call (h:Ext D s t) (hd:∀id:Id,D id→¬(id.1=s.ep∧id.2 / 1024=k)) {g:FuncId} {args:List V} (hc:Zeq P M C s k g args=some (v,s')):∃t',Zeq P M C t k g args=some (v,t')∧Ext2 D t s' t':=by
 unfold Zeq at hc ⊢
 split at hc
 case isFalse=>cases hc
 rename_i hl
 rw[if_pos hl]
 obtain⟨⟨ys,s1⟩,h1,hc⟩:=Option.bind_eq_some_iff.1 hc
 obtain⟨xs,h2,hc⟩:=Option.bind_eq_some_iff.1 hc
 obtain⟨⟨r,os⟩,h3,hc⟩:=Option.bind_eq_some_iff.1 hc
 obtain⟨⟨t1,g1,e1⟩,i1⟩:=h.gives h1
 have g2:=e1.1.rdAll h2
 simp only at hc g2
 rw[g1]
 simp only[Option.bind_some,g2,h3]
 split at hc
 ·cases hc
 ·rename_i hp
  rw[if_neg hp]
  obtain⟨s2,h4,h5⟩:=Option.bind_eq_some_iff.1 hc
  have hnd:∀j,1024*k≤j→j < 1024*(k+1)→¬D (s.ep,j):=fun j h1 h2 hD=>hd _ hD ⟨rfl,by simp only;omega⟩
  obtain⟨t2,g4,e4⟩:=Ext.backs e1.1 (fun j hj hlt=>hnd j (by omega) (by omega)) i1 h4
  obtain⟨t3,g5,e5⟩:=e4.1.takeRes (fun j hj hlt=>hnd j (by omega) (by omega)) h5
  exact⟨t3,by rw[h.ep,g4];exact g5,(e1.trans e4).trans e5⟩
theorem Ext.moved (h:Ext D s t) {all:Bool} {x:V} {rows:List (List V)} {c:Bool} (hm:s.moved all x=some (rows,c,s')):∃t',t.moved all x=some (rows,c,t')∧Ext2 D t s' t':=by
 have look:∀{x:V},((s.rowsOf x).map fun rows=>(rows,We rows,s))=some (rows,c,s')→∃t',((t.rowsOf x).map fun rows=>(rows,We rows,t))=some (rows,c,t')∧Ext2 D t s' t':=by
  intro x hm
  obtain⟨r,h1,he⟩:=Option.map_eq_some_iff.1 hm
  simp only[Prod.mk.injEq] at he
  obtain⟨rfl,rfl,rfl⟩:=he
  exact⟨t,by rw[h.rowsOf h1];rfl,h.two⟩
 unfold St.moved at hm ⊢
 split at hm
 ·rename_i id off len
  split at hm
  ·rename_i er hw
   split at hw
   ·rename_i hc
    obtain⟨g,hd⟩:=h.whole hw
    simp only[Option.some.injEq,Prod.mk.injEq] at hm
    obtain⟨rfl,rfl,rfl⟩:=hm
    refine⟨t.kill id,?_,h.kill hd⟩
    rw[h.ep,if_pos hc,g]
   ·cases hw
  ·rename_i hw
   have hb:∃b,s.heap id=some b:=by
    obtain⟨r,h1,_⟩:=Option.map_eq_some_iff.1 hm
    simp only[St.rowsOf] at h1
    obtain⟨b,hb,_⟩:=Option.bind_eq_some_iff.1 h1
    exact⟨b,hb⟩
   obtain⟨b,hb⟩:=hb
   have hw':(if id.1=t.ep∨all=true then t.whole id off len else none)=none:=by
    rw[h.ep]
    split
    ·rename_i hc
     rw[if_pos hc] at hw
     unfold St.whole at hw ⊢
     rw[h.get hb];rw[hb] at hw;exact hw
    ·rfl
   rw[hw']
   exact look hm
 ·exact look hm
theorem Ext.append (h:Ext D s t) {all:Bool} {id:Id} (hd:¬D id) {ty:TypeId} {b x:V} (ha:Zcn P all s id ty b x=some (v,s')):∃t',Zcn P all t id ty b x=some (v,t')∧Ext2 D t s' t':=by
 unfold Zcn at ha ⊢
 obtain⟨e,h1,ha⟩:=Option.bind_eq_some_iff.1 ha
 obtain⟨⟨rows,c,s1⟩,h2,ha⟩:=Option.bind_eq_some_iff.1 ha
 obtain⟨t1,g2,e2⟩:=h.moved h2
 rw[h1,Option.bind_some,g2,Option.bind_some]
 simp only at ha ⊢
 split at ha
 case isFalse=>cases ha
 rename_i hc
 rw[if_pos hc]
 split at ha
 ·split at ha
  ·rename_i hl
   rw[if_pos hl]
   simp only[Option.some.injEq,Prod.mk.injEq] at ha
   obtain⟨rfl,rfl⟩:=ha
   exact⟨_,rfl,e2.trans (e2.1.setB hd)⟩
  ·cases ha
 ·obtain⟨kb,h3,ha⟩:=Option.bind_eq_some_iff.1 ha
  rw[e2.1.get h3,Option.bind_some]
  split at ha
  ·rename_i hl
   rw[if_pos hl]
   simp only[Option.some.injEq,Prod.mk.injEq] at ha
   obtain⟨rfl,rfl⟩:=ha
   have:=e2.1.kill (e2.1.notD h3)
   exact⟨_,rfl,(e2.trans this).trans (this.1.setB hd)⟩
  ·cases ha
 ·cases ha
theorem Ext.slice (h:Ext D s t) {ty:TypeId} {x:V} {lo hi:Option V} (hs:Zfj P s ty x lo hi=some v):Zfj P t ty x lo hi=some v:=by
 unfold Zfj at hs ⊢
 obtain⟨e,h1,hs⟩:=Option.bind_eq_some_iff.1 hs
 obtain⟨rows,h2,hs⟩:=Option.bind_eq_some_iff.1 hs
 rw[h1,Option.bind_some,h.rowsOf h2,Option.bind_some]
 exact hs
theorem Ext.op {f:Operand→V} (h:Ext D s t) (hd:∀id:Id,D id→¬(id.1=s.ep∧id.2 / 1024=k)) (he:Zq P M C f s k o=some (v,s')):∃t',Zq P M C f t k o=some (v,t')∧Ext2 D t s' t':=by
 have hid:¬D (s.ep,1024*k):=fun hD=>hd _ hD ⟨rfl,by simp⟩
 have pu:∀{x:Option V},(x.map fun y=>(y,s))=some (v,s')→∃t',(x.map fun y=>(y,t))=some (v,t')∧Ext2 D t s' t':=by
  intro x hx
  obtain⟨y,rfl,he⟩:=Option.map_eq_some_iff.1 hx
  simp only[Prod.mk.injEq] at he
  obtain⟨rfl,rfl⟩:=he
  exact⟨t,rfl,h.two⟩
 have sm:∀{x:V},some (x,s)=some (v,s')→∃t',some (x,t)=some (v,t')∧Ext2 D t s' t':=by
  intro x hx
  simp only[Option.some.injEq,Prod.mk.injEq] at hx
  obtain⟨rfl,rfl⟩:=hx
  exact⟨t,rfl,h.two⟩
 unfold Zq at he ⊢
 simp only[h.ep] at he ⊢
 split at he
 ·split at he
  ·cases he
  ·exact sm he
 ·split at he
  ·cases he
  ·exact sm he
 ·split at he
  ·exact sm he
  ·cases he
 ·split at he
  ·exact pu he
  ·cases he
 ·split at he
  ·exact sm he
  ·exact sm he
  ·exact sm he
  ·cases he
 ·obtain⟨z,hz,he⟩:=Option.map_eq_some_iff.1 he
  simp only[Prod.mk.injEq] at he
  obtain⟨rfl,rfl⟩:=he
  exact⟨_,by rw[hz];rfl,h.setB hid⟩
 ·obtain⟨cs,hcs,he⟩:=Option.bind_eq_some_iff.1 he
  rw[hcs,Option.bind_some]
  split at he
  ·rename_i hl
   rw[if_pos hl]
   simp only[Option.some.injEq,Prod.mk.injEq] at he
   obtain⟨rfl,rfl⟩:=he
   exact⟨_,rfl,h.setB hid⟩
  ·cases he
 ·obtain⟨z,hz,he⟩:=Option.bind_eq_some_iff.1 he
  rw[hz,Option.bind_some]
  split at he
  ·split at he
   ·cases he
   ·rename_i hl
    rw[if_neg hl]
    obtain⟨cs,hcs,he⟩:=Option.map_eq_some_iff.1 he
    rw[hcs]
    exact sm (congrArg some he)
  ·cases he
 ·obtain⟨e,hte,he⟩:=Option.bind_eq_some_iff.1 he
  obtain⟨z,hz,he⟩:=Option.bind_eq_some_iff.1 he
  rw[hte,Option.bind_some,hz,Option.bind_some]
  split at he
  ·cases he
  ·rename_i hl
   rw[if_neg hl]
   obtain⟨cs,hcs,he⟩:=Option.bind_eq_some_iff.1 he
   obtain⟨⟨rows,c,s1⟩,hs,he⟩:=Option.map_eq_some_iff.1 he
   simp only[Prod.mk.injEq] at he
   obtain⟨rfl,rfl⟩:=he
   obtain⟨t1,g,e1⟩:=Ext.sinkRows _ h hs
   exact⟨_,by rw[hcs,Option.bind_some,g];rfl,e1.trans (e1.1.setB hid)⟩
 ·split at he
  ·obtain⟨b,hb,he⟩:=Option.bind_eq_some_iff.1 he
   obtain⟨row,hrow,he⟩:=Option.bind_eq_some_iff.1 he
   rw[h.get hb,Option.bind_some,hrow,Option.bind_some]
   split at he
   ·rename_i hl
    rw[if_pos hl]
    exact pu he
   ·cases he
  ·split at he
   ·rename_i hl
    rw[if_pos hl]
    exact pu he
   ·cases he
  ·cases he
 ·split at he
  ·obtain⟨b,hb,he⟩:=Option.bind_eq_some_iff.1 he
   obtain⟨row,hrow,he⟩:=Option.bind_eq_some_iff.1 he
   obtain⟨cs,hcs,he⟩:=Option.bind_eq_some_iff.1 he
   rw[h.get hb,Option.bind_some,hrow,Option.bind_some,hcs,Option.bind_some]
   split at he
   ·rename_i hc
    rw[if_pos hc]
    split at he
    ·rename_i hbox
     rw[if_pos hbox]
     simp only[Option.some.injEq,Prod.mk.injEq] at he
     obtain⟨rfl,rfl⟩:=he
     exact⟨_,rfl,h.setB (h.notD hb)⟩
    ·rename_i hbox
     rw[if_neg hbox]
     obtain⟨⟨ys,c,s1⟩,hs,he⟩:=Option.bind_eq_some_iff.1 he
     obtain⟨t1,g,e1⟩:=Ext.sink _ h hs
     simp only at he
     split at he
     ·rename_i b1 hb1
      simp only[Option.some.injEq,Prod.mk.injEq] at he
      obtain⟨rfl,rfl⟩:=he
      exact⟨_,by rw[g,Option.bind_some];simp only[e1.1.get hb1],e1.trans (e1.1.setB (h.notD hb))⟩
     ·cases he
   ·cases he
  ·cases he
 ·obtain⟨off,hoff,he⟩:=Option.bind_eq_some_iff.1 he
  rw[hoff,Option.bind_some]
  split at he
  ·exact sm he
  ·exact sm he
  ·cases he
 ·obtain⟨e,hte,he⟩:=Option.bind_eq_some_iff.1 he
  rw[hte,Option.bind_some]
  split at he
  ·cases he
  ·rename_i hz
   rw[if_neg hz]
   obtain⟨n,hn,he⟩:=Option.bind_eq_some_iff.1 he
   rw[hn,Option.bind_some]
   split at he
   ·split at he
    ·rename_i hlt
     rw[if_pos hlt]
     obtain⟨b,hb,he⟩:=Option.bind_eq_some_iff.1 he
     obtain⟨row,hrow,he⟩:=Option.bind_eq_some_iff.1 he
     rw[h.get hb,Option.bind_some,hrow,Option.bind_some]
     split at he
     ·rename_i hl;rw[if_pos hl];exact sm he
     ·cases he
    ·cases he
   ·obtain⟨row,hrow,he⟩:=Option.bind_eq_some_iff.1 he
    rw[hrow,Option.bind_some]
    split at he
    ·rename_i hl;rw[if_pos hl];exact sm he
    ·cases he
   ·obtain⟨row,hrow,he⟩:=Option.bind_eq_some_iff.1 he
    rw[hrow,Option.bind_some]
    split at he
    ·rename_i hl;rw[if_pos hl];exact sm he
    ·cases he
   ·cases he
 ·split at he
  ·obtain⟨y,hy,he⟩:=Option.map_eq_some_iff.1 he
   rw[h.slice hy];exact sm (congrArg some he)
  ·obtain⟨y,hy,he⟩:=Option.map_eq_some_iff.1 he
   rw[h.slice hy];exact sm (congrArg some he)
  ·obtain⟨y,hy,he⟩:=Option.map_eq_some_iff.1 he
   rw[h.slice hy];exact sm (congrArg some he)
  ·exact pu he
 ·obtain⟨e,hte,he⟩:=Option.bind_eq_some_iff.1 he
  obtain⟨z,hz,he⟩:=Option.bind_eq_some_iff.1 he
  obtain⟨n,hn,he⟩:=Option.bind_eq_some_iff.1 he
  obtain⟨m,hm,he⟩:=Option.bind_eq_some_iff.1 he
  rw[hte,Option.bind_some,hz,Option.bind_some,hn,Option.bind_some,hm,Option.bind_some]
  split at he
  ·rename_i hc
   rw[if_pos hc]
   simp only[Option.some.injEq,Prod.mk.injEq] at he
   obtain⟨rfl,rfl⟩:=he
   exact⟨_,rfl,h.setB hid⟩
  ·cases he
 ·split at he
  ·rename_i hf;rw[if_pos hf];exact sm he
  ·cases he
 ·split at he
  ·exact pu he
  ·split at he
   ·split at he
    ·obtain⟨rows,hr,he⟩:=Option.bind_eq_some_iff.1 he
     rw[h.rowsOf hr,Option.bind_some]
     obtain⟨bs,hb,he⟩:=Option.map_eq_some_iff.1 he
     rw[hb];exact sm (congrArg some he)
    ·cases he
   ·cases he
   ·cases he
 ·split at he
  ·split at he
   ·split at he
    ·rename_i hl
     rw[if_pos hl]
     exact h.append hid he
    ·cases he
   ·cases he
  ·split at he
   ·split at he
    ·split at he
     ·rename_i hl;rw[if_pos hl];exact sm he
     ·cases he
    ·split at he
     ·rename_i hl;rw[if_pos hl];exact sm he
     ·cases he
    ·split at he
     ·rename_i hl;rw[if_pos hl];exact sm he
     ·cases he
    ·exact pu he
   ·cases he
  ·split at he
   ·obtain⟨e,hte,he⟩:=Option.bind_eq_some_iff.1 he
    obtain⟨z,hz,he⟩:=Option.bind_eq_some_iff.1 he
    rw[hte,Option.bind_some,hz,Option.bind_some]
    split at he
    ·obtain⟨b,hb,he⟩:=Option.bind_eq_some_iff.1 he
     rw[h.get hb,Option.bind_some]
     split at he
     ·rename_i hc
      rw[if_pos hc]
      simp only[Option.some.injEq,Prod.mk.injEq] at he
      obtain⟨rfl,rfl⟩:=he
      exact⟨_,rfl,h.setB (h.notD hb)⟩
     ·cases he
    ·cases he
   ·cases he
  ·exact pu he
  ·split at he
   ·exact h.call hd he
   ·cases he
  ·cases he
 ·split at he
  ·exact pu he
  ·exact pu he
  ·exact pu he
  ·split at he
   ·cases he
   ·rename_i hte
    rw[if_neg hte]
    split at he
    ·rw[h.rowsOf (show s.rowsOf _=some (_::_) by assumption)];exact sm he
    ·rw[h.rowsOf (show s.rowsOf _=some (_::_) by assumption)];exact sm he
    ·cases he
  ·split at he
   ·cases he
   ·rename_i hte
    rw[if_neg hte]
    split at he
    ·rw[h.rowsOf (show s.rowsOf _=some (_::_) by assumption)];exact sm he
    ·rw[h.rowsOf (show s.rowsOf _=some (_::_) by assumption)];exact sm he
    ·cases he
  ·cases he
 ·exact pu he
end
section
variable {s s' t:St} {P:Program} {M:Hints} {C:Yw} {k:Nat} {o:Oper} {v:V} {f f':Operand→V}
theorem Zvh (h:∀x∈o.op.operands.toList,f x=f' x) (hc:Zfk o.op=true→execOp (fun x=>(Yg (f x)).getD undef) o=execOp (fun x=>(Yg (f' x)).getD undef) o):Ye P f o=Ye P f' o:=by
 unfold Ye
 have h1:o.op.operands.toList.all (fun x=>(Yg (f x)).isSome)=o.op.operands.toList.all (fun x=>(Yg (f' x)).isSome):=by
  rw[Bool.eq_iff_iff,List.all_eq_true,List.all_eq_true]
  exact⟨fun hh x hx=>by rw[←h x hx];exact hh x hx,fun hh x hx=>by rw[h x hx];exact hh x hx⟩
 rw[h1]
 cases hp:Zfk o.op with
 | false=>simp
 | true=>rw[hc hp]
theorem Z97:∀{xs:List V} {s:St} {ts:List TypeId} {ms:List Mode} {ys:List V} {s':St},(ms.any fun m=>m != .rd)=false→s.gives P ts ms xs=some (ys,s')→s'=s:=by
 intro xs
 induction xs with
 | nil=>
  intro s ts ms ys s' _ hs
  simp only[St.gives,Option.some.injEq,Prod.mk.injEq] at hs
  exact hs.2.symm
 | cons x xs ih=>
  intro s ts ms ys s' hm hs
  simp only[St.gives] at hs
  obtain⟨⟨y1,s1⟩,h1,hs⟩:=Option.bind_eq_some_iff.1 hs
  obtain⟨⟨y2,s2⟩,h2,hs⟩:=Option.map_eq_some_iff.1 hs
  simp only[Prod.mk.injEq] at hs
  obtain⟨rfl,rfl⟩:=hs
  have hrd:ms.headD .rd=.rd∧(ms.tail.any fun m=>m != .rd)=false:=by
   cases ms with
   | nil=>exact⟨rfl,rfl⟩
   | cons m ms=>
    simp only[List.any_cons,Bool.or_eq_false_iff] at hm
    exact⟨by simpa using hm.1,hm.2⟩
  rw[hrd.1] at h1
  simp only[St.give,Option.some.injEq,Prod.mk.injEq] at h1
  obtain⟨rfl,rfl⟩:=h1
  exact ih hrd.2 h2
theorem Z9x {e:Nat}:∀{xs:List V} {s:St} {ms:List Mode} {k:Nat} {os:List V} {s':St},(ms.any fun m=>m != .rd)=false→s.backs e ms k xs os=some s'→s'=s:=by
 intro xs
 induction xs with
 | nil=>
  intro s ms k os s' _ hs
  simp only[St.backs,Option.some.injEq] at hs
  exact hs.symm
 | cons x xs ih=>
  intro s ms k os s' hm hs
  have hrd:ms.headD .rd=.rd∧(ms.tail.any fun m=>m != .rd)=false:=by
   cases ms with
   | nil=>exact⟨rfl,rfl⟩
   | cons m ms=>
    simp only[List.any_cons,Bool.or_eq_false_iff] at hm
    exact⟨by simpa using hm.1,hm.2⟩
  cases os with
  | nil=>simp[St.backs] at hs
  | cons o os=>
   simp only[St.backs] at hs
   obtain⟨s1,h1,hs⟩:=Option.bind_eq_some_iff.1 hs
   rw[hrd.1] at h1
   simp only[St.back,Option.some.injEq] at h1
   subst h1
   exact ih hrd.2 hs
theorem Zk4 {id id':Id} {b:Blk} (h:id'≠id):(s.setB id b).heap id'=s.heap id':=by simp[St.setB,upd,h]
theorem Zqs {id id':Id} {x y:V} (ht:s.takeCell id x=some (y,s')) (hne:id'≠id):s'.heap id'=s.heap id':=by
 unfold St.takeCell at ht
 split at ht
 ·simp only[Option.some.injEq,Prod.mk.injEq] at ht;obtain⟨rfl,rfl⟩:=ht;exact Zk4 hne
 ·simp only[Option.some.injEq,Prod.mk.injEq] at ht;obtain⟨rfl,rfl⟩:=ht;rfl
 ·simp only[Option.some.injEq,Prod.mk.injEq] at ht;obtain⟨rfl,rfl⟩:=ht;rfl
 ·cases ht
theorem Zpm {e:Nat} {id':Id}:∀{xs:List V} {s:St} {k:Nat} {ys:List V} {s':St},s.takeCells e k xs=some (ys,s')→¬(id'.1=e∧k≤id'.2∧id'.2 < k+xs.length)→s'.heap id'=s.heap id':=by
 intro xs
 induction xs with
 | nil=>intro s k ys s' hs _;simp only[St.takeCells,Option.some.injEq,Prod.mk.injEq] at hs;rw[hs.2]
 | cons x xs ih=>
  intro s k ys s' hs hn
  simp only[List.length_cons] at hn
  simp only[St.takeCells] at hs
  obtain⟨⟨y1,s1⟩,h1,hs⟩:=Option.bind_eq_some_iff.1 hs
  obtain⟨⟨y2,s2⟩,h2,hs⟩:=Option.map_eq_some_iff.1 hs
  simp only[Prod.mk.injEq] at hs
  obtain⟨rfl,rfl⟩:=hs
  rw[ih h2 (fun h=>hn ⟨h.1,by omega,by omega⟩)]
  exact Zqs h1 (fun e=>hn (by subst e;exact⟨rfl,Nat.le_refl _,by simp⟩))
theorem Zr8 {e k:Nat} {id':Id} {x y:V} (ht:s.takeOne e k x=some (y,s')) (hn:¬(id'.1=e∧k≤id'.2∧id'.2 < k+64)):s'.heap id'=s.heap id':=by
 unfold St.takeOne at ht
 split at ht
 ·split at ht
  ·obtain⟨⟨ys,s1⟩,h1,he⟩:=Option.map_eq_some_iff.1 ht
   simp only[Prod.mk.injEq] at he
   obtain⟨rfl,rfl⟩:=he
   exact Zpm h1 (fun h=>hn ⟨h.1,h.2.1,by omega⟩)
  ·cases ht
 ·split at ht
  ·obtain⟨⟨ys,s1⟩,h1,he⟩:=Option.map_eq_some_iff.1 ht
   simp only[Prod.mk.injEq] at he
   obtain⟨rfl,rfl⟩:=he
   rw[Zk4 (fun e=>hn (by subst e;exact⟨rfl,by simp,by simp⟩))]
   exact Zpm h1 (fun h=>hn ⟨h.1,h.2.1,by omega⟩)
  ·cases ht
 ·exact Zqs ht (fun e=>hn (by subst e;exact⟨rfl,Nat.le_refl _,by simp⟩))
theorem Z3c {e:Nat} {id':Id}:∀{xs:List V} {s:St} {k:Nat} {ys:List V} {s':St},s.takeAll e k xs=some (ys,s')→¬(id'.1=e∧64*k≤id'.2∧id'.2 < 64*(k+xs.length))→s'.heap id'=s.heap id':=by
 intro xs
 induction xs with
 | nil=>intro s k ys s' hs _;simp only[St.takeAll,Option.some.injEq,Prod.mk.injEq] at hs;rw[hs.2]
 | cons x xs ih=>
  intro s k ys s' hs hn
  simp only[List.length_cons] at hn
  simp only[St.takeAll] at hs
  obtain⟨⟨y1,s1⟩,h1,hs⟩:=Option.bind_eq_some_iff.1 hs
  obtain⟨⟨y2,s2⟩,h2,hs⟩:=Option.map_eq_some_iff.1 hs
  simp only[Prod.mk.injEq] at hs
  obtain⟨rfl,rfl⟩:=hs
  rw[ih h2 (fun h=>hn ⟨h.1,by omega,by omega⟩)]
  exact Zr8 h1 (fun h=>hn ⟨h.1,h.2.1,by omega⟩)
theorem Z13 {e k:Nat} {id':Id} {x y:V} (ht:s.takeRes e k x=some (y,s')) (hn:¬(id'.1=e∧64*k≤id'.2∧id'.2 < 64*(k+8))):s'.heap id'=s.heap id':=by
 unfold St.takeRes at ht
 split at ht
 ·split at ht
  ·obtain⟨⟨ys,s1⟩,h1,he⟩:=Option.map_eq_some_iff.1 ht
   simp only[Prod.mk.injEq] at he
   obtain⟨rfl,rfl⟩:=he
   exact Z3c h1 (fun h=>hn ⟨h.1,h.2.1,by omega⟩)
  ·cases ht
 ·exact Zr8 ht (fun h=>hn ⟨h.1,h.2.1,by omega⟩)
theorem Z67 (he:Zq P M C f s k o=some (v,s')) (hw:Zc4 M f o=false) {id:Id} (hf:Ya s.ep k id=false):s'.heap id=s.heap id:=by
 have hid:id≠(s.ep,1024*k):=fun e=>by subst e;simp[Ya] at hf
 have pu:∀{x:Option V},(x.map fun y=>(y,s))=some (v,s')→s'.heap id=s.heap id:=by
  intro x hx
  obtain⟨y,_,he⟩:=Option.map_eq_some_iff.1 hx
  simp only[Prod.mk.injEq] at he
  rw[←he.2]
 have sm:∀{x:V},some (x,s)=some (v,s')→s'.heap id=s.heap id:=by
  intro x hx
  simp only[Option.some.injEq,Prod.mk.injEq] at hx
  rw[←hx.2]
 unfold Zq at he
 unfold Zc4 at hw
 split at he
 ·split at he
  ·cases he
  ·exact sm he
 ·split at he
  ·cases he
  ·exact sm he
 ·split at he
  ·exact sm he
  ·cases he
 ·split at he
  ·exact pu he
  ·cases he
 ·split at he
  ·exact sm he
  ·exact sm he
  ·exact sm he
  ·cases he
 ·obtain⟨z,hz,he⟩:=Option.map_eq_some_iff.1 he
  simp only[Prod.mk.injEq] at he
  obtain⟨rfl,rfl⟩:=he
  exact Zk4 hid
 ·obtain⟨cs,hcs,he⟩:=Option.bind_eq_some_iff.1 he
  split at he
  ·simp only[Option.some.injEq,Prod.mk.injEq] at he
   obtain⟨rfl,rfl⟩:=he
   exact Zk4 hid
  ·cases he
 ·obtain⟨z,hz,he⟩:=Option.bind_eq_some_iff.1 he
  split at he
  ·split at he
   ·cases he
   ·obtain⟨cs,hcs,he⟩:=Option.map_eq_some_iff.1 he
    exact sm (congrArg some he)
  ·cases he
 ·rename_i ho;rw[ho] at hw;simp at hw
 ·split at he
  ·obtain⟨b,hb,he⟩:=Option.bind_eq_some_iff.1 he
   obtain⟨row,hrow,he⟩:=Option.bind_eq_some_iff.1 he
   split at he
   ·exact pu he
   ·cases he
  ·split at he
   ·exact pu he
   ·cases he
  ·cases he
 ·rename_i ho;rw[ho] at hw;simp at hw
 ·obtain⟨off,hoff,he⟩:=Option.bind_eq_some_iff.1 he
  split at he
  ·exact sm he
  ·exact sm he
  ·cases he
 ·obtain⟨e,hte,he⟩:=Option.bind_eq_some_iff.1 he
  split at he
  ·cases he
  ·obtain⟨n,hn,he⟩:=Option.bind_eq_some_iff.1 he
   split at he
   ·split at he
    ·obtain⟨b,hb,he⟩:=Option.bind_eq_some_iff.1 he
     obtain⟨row,hrow,he⟩:=Option.bind_eq_some_iff.1 he
     split at he
     ·exact sm he
     ·cases he
    ·cases he
   ·obtain⟨row,hrow,he⟩:=Option.bind_eq_some_iff.1 he
    split at he
    ·exact sm he
    ·cases he
   ·obtain⟨row,hrow,he⟩:=Option.bind_eq_some_iff.1 he
    split at he
    ·exact sm he
    ·cases he
   ·cases he
 ·split at he
  ·exact pu he
  ·exact pu he
  ·exact pu he
  ·exact pu he
 ·obtain⟨e,hte,he⟩:=Option.bind_eq_some_iff.1 he
  obtain⟨z,hz,he⟩:=Option.bind_eq_some_iff.1 he
  obtain⟨n,hn,he⟩:=Option.bind_eq_some_iff.1 he
  obtain⟨m,hm,he⟩:=Option.bind_eq_some_iff.1 he
  split at he
  ·simp only[Option.some.injEq,Prod.mk.injEq] at he
   obtain⟨rfl,rfl⟩:=he
   exact Zk4 hid
  ·cases he
 ·split at he
  ·exact sm he
  ·cases he
 ·split at he
  ·exact pu he
  ·split at he
   ·split at he
    ·obtain⟨rows,hr,he⟩:=Option.bind_eq_some_iff.1 he
     obtain⟨bs,hb,he⟩:=Option.map_eq_some_iff.1 he
     exact sm (congrArg some he)
    ·cases he
   ·cases he
   ·cases he
 ·rename_i c ho
  rw[ho] at hw
  simp only at hw
  split at he
  ·rename_i hc;rw[hc] at hw;simp at hw
  ·split at he
   ·split at he
    ·split at he
     ·exact sm he
     ·cases he
    ·split at he
     ·exact sm he
     ·cases he
    ·split at he
     ·exact sm he
     ·cases he
    ·exact pu he
   ·cases he
  ·rename_i hc;rw[hc] at hw;simp at hw
  ·exact pu he
  ·rename_i x hc
   rw[hc] at hw
   simp only at hw
   split at he
   ·rename_i g caps hf'
    rw[hf'] at hw
    simp only at hw
    unfold Zeq at he
    split at he
    ·obtain⟨⟨ys,s1⟩,h1,he⟩:=Option.bind_eq_some_iff.1 he
     obtain⟨xs,h2,he⟩:=Option.bind_eq_some_iff.1 he
     obtain⟨⟨r,os⟩,h3,he⟩:=Option.bind_eq_some_iff.1 he
     have e1:=Z97 hw h1
     subst e1
     simp only at he
     split at he
     ·cases he
     ·obtain⟨s2,h4,h5⟩:=Option.bind_eq_some_iff.1 he
      have e2:=Z9x hw h4
      subst e2
      refine Z13 h5 (fun h=>?_)
      have:Ya s2.ep k id=true:=by
       simp only[Ya,Bool.and_eq_true,beq_iff_eq]
       exact⟨h.1,by omega⟩
      rw[this] at hf;cases hf
    ·cases he
   ·cases he
  ·cases he
 ·split at he
  ·exact pu he
  ·exact pu he
  ·exact pu he
  ·split at he
   ·cases he
   ·split at he
    ·exact sm he
    ·exact sm he
    ·cases he
  ·split at he
   ·cases he
   ·split at he
    ·exact sm he
    ·exact sm he
    ·cases he
  ·cases he
 ·exact pu he
end
end Go.Proofs.YtlcfolgfmlgncaaGreatDoor.Ev
namespace Go.Proofs.YtlcfolgfmlgncaaGreatDoor.Ev
open Go
set_option linter.unusedVariables false
set_option linter.unusedSimpArgs false
set_option linter.unusedSectionVars false
variable [Anchor]
section
variable {s s' t:St} {P:Program} {M:Hints} {C:Yw} {k:Nat} {o:Oper} {v:V} {f f':Operand→V}
theorem Z2p (h:∀x∈o.op.operands.toList,f x=f' x):Ye P f o=Ye P f' o:=
 Zvh h fun hp=>Zrq hp fun x hx=>by rw[h x hx]
theorem Z11 (h:∀x∈o.op.operands.toList,f x=f' x):Zq P M C f s k o=Zq P M C f' s k o:=by
 have hs:=Z2p (P:=P) h
 unfold Zq
 simp only[hs]
 obtain⟨dst,op,type,pos,after,guard⟩:=o
 cases op<;>simp only[Op.operands] at h<;>simp only<;>try rfl
 case move x=>rw[h x (by simp)]
 case assign x=>rw[h x (by simp)]
 case pick c x y=>rw[h c (by simp),h x (by simp),h y (by simp)]
 case box t x=>rw[h x (by simp)]
 case build t ps=>
  have:(ps.toList.map fun p=>(p.1,f p.2))=ps.toList.map fun p=>(p.1,f' p.2):=List.map_congr_left fun p hp=>by rw[h p.2 (by simpa using ⟨p.1,by simpa using hp⟩)]
  rw[this]
 case buildSlice t n ps=>
  have:(ps.toList.map fun p=>(p.1,f p.2))=ps.toList.map fun p=>(p.1,f' p.2):=List.map_congr_left fun p hp=>by rw[h p.2 (by simpa using ⟨p.1,by simpa using hp⟩)]
  rw[this]
 case load t x=>rw[h x (by simp)]
 case store t x y=>rw[h x (by simp),h y (by simp)]
 case nilCheck x=>rw[h x (by simp)]
 case binOp op t x y yt=>rw[h x (by simp),h y (by simp)]
 case convert src dst x=>rw[h x (by simp)]
 case fieldAddr t x i=>rw[h x (by simp)]
 case indexAddr t x i=>rw[h x (by simp),h i (by simp)]
 case slice t x lo hi mx=>
  have h1:=h x (by simp)
  have h2:lo.map f=lo.map f':=by cases lo<;>simp;exact h _ (by simp)
  have h3:hi.map f=hi.map f':=by cases hi<;>simp;exact h _ (by simp)
  cases mx with
  | none=>simp only[h1,h2,h3]
  | some m=>rfl
 case makeSlice t l c=>rw[h l (by simp),h c (by simp)]
 case makeFunc fn first caps=>
  have:caps.toList.map f=caps.toList.map f':=List.map_congr_left fun x hx=>h x (by simp at hx ⊢;exact .inr hx)
  cases fn<;>simp only[this]
 case extract x i=>rw[h x (by simp)]
 case call c=>
  obtain⟨callee,ars,ts⟩:=c
  cases callee with
  | value g=>
   simp only[Call.operands] at h
   have h1:f g=f' g:=h g (by simp)
   have:ars.toList.map f=ars.toList.map f':=List.map_congr_left fun x hx=>h x (by simp at hx ⊢;exact .inr hx)
   simp only[h1,this]
  | invoke r m=>rfl
  | builtin b=>
   simp only[Call.operands] at h
   have h1:∀x,x∈ars.toList→f x=f' x:=fun x hx=>h x (by simpa using hx)
   cases b<;>simp only<;>try rfl
   case append=>
    split
    ·rename_i heq _
     have hb:=h1 _ (by rw[heq];exact List.mem_cons_self)
     have hx:=h1 _ (by rw[heq];exact List.mem_cons_of_mem _ List.mem_cons_self)
     rw[hb,hx]
    ·rfl
   case len=>
    split
    ·rename_i heq _
     have hb:=h1 _ (by rw[heq];exact List.mem_cons_self)
     rw[hb]
    ·rfl
   case clear=>
    split
    ·rename_i heq _
     have hb:=h1 _ (by rw[heq];exact List.mem_cons_self)
     rw[hb]
    ·rfl
end
end Go.Proofs.YtlcfolgfmlgncaaGreatDoor.Ev
namespace Go.Proofs.YtlcfolgfmlgncaaGreatDoor.Ev
open Go Go.RowKit
set_option linter.unusedVariables false
set_option linter.unusedSimpArgs false
set_option linter.unusedSectionVars false
variable [Anchor]
structure Eff where
 dst:Option Tmp
 v:V
 W:Id→Bool
 hp:Id→Option Blk
def Eff.app (E:Eff) (s:St):St:=St.put {s with heap:=fun id=>if E.W id then E.hp id else s.heap id} E.dst E.v
theorem Eff.app_ep (E:Eff) (s:St):(E.app s).ep=s.ep:=by unfold Eff.app;rw[J7]
theorem Eff.app_heap (E:Eff) (s:St):(E.app s).heap=fun id=>if E.W id then E.hp id else s.heap id:=by unfold Eff.app;rw[Zhb]
theorem Eff.app_env (E:Eff) (s:St) (t:Nat):(E.app s).env t=if E.dst=some t then E.v else s.env t:=by
 unfold Eff.app St.put
 split
 ·rename_i d hd
  simp only[upd,hd,Option.some.injEq]
  by_cases h:t=d
  ·subst h;simp
  ·rw[if_neg h,if_neg (fun e=>h e.symm)]
 ·rename_i hd;rw[hd];simp
theorem St.ext' {a b:St} (h1:∀t,a.env t=b.env t) (h2:∀id,a.heap id=b.heap id) (h3:a.ep=b.ep):a=b:=by
 obtain⟨e1,p1,n1⟩:=a
 obtain⟨e2,p2,n2⟩:=b
 simp only at h1 h2 h3
 rw[funext h1,funext h2,h3]
structure Apart (E G:Eff):Prop where
 dst:∀t,E.dst=some t→G.dst≠some t
 W:∀id,E.W id=true→G.W id=false
theorem Eff.comm {E G:Eff} (h:Apart E G) (s:St):E.app (G.app s)=G.app (E.app s):=by
 refine St.ext' (fun t=>?_) (fun id=>?_) (by simp[Eff.app_ep])
 ·simp only[Eff.app_env]
  by_cases h1:E.dst=some t
  ·rw[if_pos h1,if_neg (h.dst t h1),if_pos h1]
  ·rw[if_neg h1,if_neg h1]
 ·simp only[Eff.app_heap]
  cases h1:E.W id with
  | true=>simp[h.W id h1]
  | false=>simp
def sub (Es:Nat→Eff) (L:Nat→Bool) (s:St):Nat→St
 | 0=>s
 | k+1=>if L k then (Es k).app (sub Es L s k) else sub Es L s k
theorem X8 (Es:Nat→Eff) (L:Nat→Bool) (s:St) (k:Nat):sub Es L s (k+1)=if L k then (Es k).app (sub Es L s k) else sub Es L s k:=rfl
theorem Zt0 (Es:Nat→Eff) (L:Nat→Bool) (s:St) (k:Nat):(sub Es L s k).ep=s.ep:=by
 induction k with
 | zero=>rfl
 | succ k ih=>rw[X8];split<;>simp[Eff.app_ep,ih]
theorem Zwv {Es:Nat→Eff} {L L':Nat→Bool} {s:St}:∀{k:Nat},(∀j,j < k→L j=L' j)→sub Es L s k=sub Es L' s k:=by
 intro k
 induction k with
 | zero=>intro _;rfl
 | succ k ih=>intro h;rw[X8,X8,h k (by omega),ih fun j hj=>h j (by omega)]
def Zhg (A:Nat→Prop) (T:Id→Prop) (x y:St):Prop:=(∀t,A t→x.env t=y.env t)∧∀id,T id→x.heap id=y.heap id
theorem Zhg.app {A:Nat→Prop} {T:Id→Prop} {x y:St} (h:Zhg A T x y) (E:Eff):Zhg A T (E.app x) (E.app y):=
 ⟨fun t ht=>by simp only[Eff.app_env,h.1 t ht],fun id hid=>by simp only[Eff.app_heap,h.2 id hid]⟩
def Off (E:Eff) (A:Nat→Prop) (T:Id→Prop):Prop:=(∀t,A t→E.dst≠some t)∧∀id,T id→E.W id=false
theorem Zhg.off {A:Nat→Prop} {T:Id→Prop} {x y:St} (h:Zhg A T x y) {E:Eff} (ho:Off E A T):Zhg A T (E.app x) y:=
 ⟨fun t ht=>by rw[Eff.app_env,if_neg (ho.1 t ht)];exact h.1 t ht,fun id hid=>by simp only[Eff.app_heap,ho.2 id hid];exact h.2 id hid⟩
theorem Zhg.off' {A:Nat→Prop} {T:Id→Prop} {x y:St} (h:Zhg A T x y) {E:Eff} (ho:Off E A T):Zhg A T x (E.app y):=
 ⟨fun t ht=>by rw[Eff.app_env,if_neg (ho.1 t ht)];exact h.1 t ht,fun id hid=>by simp only[Eff.app_heap,ho.2 id hid];exact h.2 id hid⟩
theorem Z6v {Es:Nat→Eff} {L:Nat→Bool} {s:St} {A:Nat→Prop} {T:Id→Prop} {i n:Nat} (hi:L i=false) (h1:∀j,j < i→L j=false→Off (Es j) A T) (h2:∀j,i < j→j < n→L j=true→Off (Es j) A T):
  ∀k,k≤n→Zhg A T (sub Es L s k) (sub Es (fun _=>true) s (min k i)):=by
 intro k
 induction k with
 | zero=>intro _;rw[Nat.zero_min];exact⟨fun _ _=>rfl,fun _ _=>rfl⟩
 | succ k ih=>
  intro hk
  have ih:=ih (by omega)
  by_cases hlt:k < i
  ·rw[Nat.min_eq_left (by omega)] at ih ⊢
   have e2:sub Es (fun _=>true) s (k+1)=(Es k).app (sub Es (fun _=>true) s k):=by rw[X8];rfl
   rw[e2,X8]
   cases hL:L k with
   | true=>simp only[if_true];exact ih.app _
   | false=>simp only[Bool.false_eq_true,if_false];exact ih.off' (h1 k hlt hL)
  ·rw[Nat.min_eq_right (by omega)] at ih ⊢
   rw[X8]
   cases hL:L k with
   | true=>
    simp only[if_true]
    have hne:k≠i:=fun e=>by subst e;rw[hi] at hL;cases hL
    exact ih.off (h2 k (by omega) (by omega) hL)
   | false=>simp only[Bool.false_eq_true,if_false];exact ih
theorem Yaz {Es:Nat→Eff} {L:Nat→Bool} {s:St} {i n:Nat} (hin:i < n) (hi:L i=false) (hc:∀j,i < j→j < n→L j=true→Apart (Es i) (Es j)):
  (Es i).app (sub Es L s n)=sub Es (fun j=>L j||j == i) s n:=by
 have key:∀k,i < k→k≤n→(Es i).app (sub Es L s k)=sub Es (fun j=>L j||j == i) s k:=by
  intro k
  induction k with
  | zero=>intro h;omega
  | succ k ih=>
   intro h1 h2
   by_cases he:k=i
   ·subst he
    have e1:sub Es L s (k+1)=sub Es L s k:=by rw[X8,hi];rfl
    have e2:sub Es (fun j=>L j||j == k) s (k+1)=(Es k).app (sub Es (fun j=>L j||j == k) s k):=by rw[X8];simp
    rw[e1,e2]
    congr 1
    refine Zwv fun j hj=>?_
    have:(j == k)=false:=by simpa using (show j≠k by omega)
    simp[this]
   ·have ih:=ih (by omega) (by omega)
    have hki:(k == i)=false:=by simpa using he
    rw[X8,X8]
    simp only[hki,Bool.or_false]
    cases hL:L k with
    | true=>
     simp only[if_true]
     rw[Eff.comm (hc k (by omega) (by omega) hL),ih]
    | false=>simp only[Bool.false_eq_true,if_false];exact ih
 exact key n hin (Nat.le_refl _)
theorem Zut {Es Es':Nat→Eff} {L:Nat→Bool} {s:St}:∀{k:Nat},(∀j,j < k→Es j=Es' j)→sub Es L s k=sub Es' L s k:=by
 intro k
 induction k with
 | zero=>intro _;rfl
 | succ k ih=>intro h;rw[X8,X8,h k (by omega),ih fun j hj=>h j (by omega)]
section
variable {P:Program} {M:Hints} {C:Nat→Yw} {ops:Array Oper}
structure Fact (P:Program) (M:Hints) (C:Nat→Yw) (ops:Array Oper) (s0:St) (Es:Nat→Eff) (Rs:Nat→Rec) (i:Nat) (o:Oper):Prop where
 pre:(Rs i).pre=Zhd ((List.range i).map Rs) o
 ok:Zd6 ops s0.ep ((List.range i).map Rs) (Rs i).pre i o (Rs i).T (Rs i).w=true
 dst:(Es i).dst=o.dst
 run:∃g,wanted (sub Es (fun _=>true) s0 i) ops o=some g∧
  (g=true→∃y,Zq P M (C i) (sub Es (fun _=>true) s0 i).opV ((sub Es (fun _=>true) s0 i).only (Rs i).T) i o=some ((Es i).v,y)∧(∀id,(Es i).W id=(Ya s0.ep i id||((Rs i).w&&(Rs i).T.contains id)))∧(Es i).hp=y.heap∧(Rs i).w=Zc4 M (sub Es (fun _=>true) s0 i).opV o)∧
  (g=false→(Es i).v=.tup []∧(∀id,(Es i).W id=false)∧(Rs i).T=[]∧(Rs i).w=false)
theorem Zzx {s0:St}:∀(l:List Oper) {k:Nat} {s s':St} {recs:List Rec} {Es0:Nat→Eff} {Rs0:Nat→Rec},recs=(List.range k).map Rs0→s=sub Es0 (fun _=>true) s0 k→Qo P M C ops s recs k l=some s'→
  ∃Es Rs,(∀j,j < k→Es j=Es0 j∧Rs j=Rs0 j)∧s'=sub Es (fun _=>true) s0 (k+l.length)∧∀(j:Nat) (o:Oper),l[j]?=some o→Fact P M C ops s0 Es Rs (k+j) o:=by
 intro l
 induction l with
 | nil=>
  intro k s s' recs Es0 Rs0 hr hs he
  simp only[Qo,Option.some.injEq] at he
  subst he
  exact⟨Es0,Rs0,fun _ _=>⟨rfl,rfl⟩,by rw[hs];rfl,fun j o ho=>by simp at ho⟩
 | cons o l ih=>
  intro k s s' recs Es0 Rs0 hr hs he
  simp only[Qo] at he
  obtain⟨g,hg,he⟩:=Option.bind_eq_some_iff.1 he
  have hep:s.ep=s0.ep:=by rw[hs,Zt0]
  have more:∀(E:Eff) (R:Rec),Qo P M C ops (E.app s) (recs++[R]) (k+1) l=some s'→R.pre=Zhd recs o→Zd6 ops s.ep recs R.pre k o R.T R.w=true→E.dst=o.dst→
    (g=true→∃y,Zq P M (C k) s.opV (s.only R.T) k o=some (E.v,y)∧(∀id,E.W id=(Ya s0.ep k id||(R.w&&R.T.contains id)))∧E.hp=y.heap∧R.w=Zc4 M s.opV o)→
    (g=false→E.v=.tup []∧(∀id,E.W id=false)∧R.T=[]∧R.w=false)→
    ∃Es Rs,(∀j,j < k→Es j=Es0 j∧Rs j=Rs0 j)∧s'=sub Es (fun _=>true) s0 (k+(o::l).length)∧∀(j:Nat) (o':Oper),(o::l)[j]?=some o'→Fact P M C ops s0 Es Rs (k+j) o':=by
   intro E R he hpre hok hdst ht hf
   have hlow:∀j,j < k→upd Es0 k E j=Es0 j:=fun j hj=>by simp[upd,show j≠k by omega]
   have hlowR:∀j,j < k→upd Rs0 k R j=Rs0 j:=fun j hj=>by simp[upd,show j≠k by omega]
   obtain⟨Es,Rs,h1,h2,h3⟩:=ih (k:=k+1) (Es0:=upd Es0 k E) (Rs0:=upd Rs0 k R) (by
    rw[List.range_succ,List.map_append,hr]
    congr 1
    ·refine List.map_congr_left fun j hj=>?_
     rw[hlowR j (List.mem_range.1 hj)]
    ·simp[upd]) (by
    rw[X8]
    simp only[if_true]
    rw[Zut (Es':=Es0) hlow,←hs]
    simp[upd]) he
   have hE:∀j,j < k→Es j=Es0 j:=fun j hj=>by rw[(h1 j (by omega)).1,hlow j hj]
   have hR:∀j,j < k→Rs j=Rs0 j:=fun j hj=>by rw[(h1 j (by omega)).2,hlowR j hj]
   have hEk:Es k=E:=by rw[(h1 k (by omega)).1];simp[upd]
   have hRk:Rs k=R:=by rw[(h1 k (by omega)).2];simp[upd]
   have hsub:sub Es (fun _=>true) s0 k=s:=by rw[Zut hE,←hs]
   have hrecs:(List.range k).map Rs=recs:=by rw[hr];exact List.map_congr_left fun j hj=>hR j (List.mem_range.1 hj)
   refine⟨Es,Rs,fun j hj=>⟨hE j hj,hR j hj⟩,by rw[h2];congr 1;simp;omega,fun j o' ho=>?_⟩
   cases j with
   | zero=>
    have:o=o':=by simpa using ho
    subst this
    refine⟨by rw[Nat.add_zero,hRk,hrecs];exact hpre,by rw[Nat.add_zero,hRk,hrecs,←hep];exact hok,by rw[Nat.add_zero,hEk];exact hdst,⟨g,by rw[Nat.add_zero,hsub];exact hg,fun hgt=>?_,fun hgf=>?_⟩⟩
    ·rw[Nat.add_zero,hsub,hEk,hRk];exact ht hgt
    ·rw[Nat.add_zero,hEk,hRk];exact hf hgf
   | succ j=>
    have:=h3 j o' (by simpa using ho)
    rw[show k+(j+1)=k+1+j by omega]
    exact this
  cases g with
  | true=>
   simp only[if_true] at he
   split at he
   ·rename_i hok
    obtain⟨⟨v,y⟩,hy,he⟩:=Option.bind_eq_some_iff.1 he
    refine more ⟨o.dst,v,fun id=>Ya s.ep k id||(Zc4 M s.opV o&&(touch s o).contains id),y.heap⟩ ⟨Zhd recs o,touch s o,Zc4 M s.opV o⟩ ?_ rfl hok rfl (fun _=>⟨y,hy,fun id=>by rw[←hep],rfl,rfl⟩) (fun hf=>by cases hf)
    exact he
   ·cases he
  | false=>
   simp only[Bool.false_eq_true,if_false] at he
   split at he
   ·rename_i hok
    refine more ⟨o.dst,.tup [],fun _=>false,fun _=>none⟩ ⟨Zhd recs o,[],false⟩ ?_ rfl hok rfl (fun hf=>by cases hf) (fun _=>⟨rfl,fun _=>rfl,rfl,rfl⟩)
    have:Eff.app ⟨o.dst,.tup [],fun _=>false,fun _=>none⟩ s=s.put o.dst (.tup []):=by
     unfold Eff.app
     simp
    rw[this];exact he
   ·cases he
variable {s0:St} {Es:Nat→Eff} {Rs:Nat→Rec} {n:Nat}
structure Unord (e:Nat) (Es:Nat→Eff) (Rs:Nat→Rec) (ops:Array Oper) (j k:Nat) (oj ok:Oper):Prop where
 tmp:oj.apart ops ok=true
 f1:∀id∈(Rs k).T,Ya e j id=false
 f2:∀id∈(Rs j).T,Ya e k id=false
 ww:((Rs j).w||(Rs k).w)=true→∀id∈(Rs k).T,id ∉ (Rs j).T
theorem Zoy (hF:∀(i:Nat) (o:Oper),ops[i]?=some o→Fact P M C ops s0 Es Rs i o) {j k:Nat} {oj ok:Oper} (hj:ops[j]?=some oj) (hk:ops[k]?=some ok) (hlt:j < k) (hn:j ∉ (Rs k).pre):Unord s0.ep Es Rs ops j k oj ok:=by
 have h:=(hF k ok hk).ok
 unfold Zd6 at h
 simp only[Bool.and_eq_true] at h
 have h2:=List.all_eq_true.1 h.2 (Rs j,j) (by
  rw[List.mem_zipIdx_iff_getElem?]
  simp[List.getElem?_range hlt])
 simp only[Bool.or_eq_true,Bool.and_eq_true,List.contains_iff_mem,hn,false_or,hj] at h2
 obtain⟨⟨⟨a,b⟩,c⟩,d⟩:=h2
 refine⟨a,fun id hid=>?_,fun id hid=>?_,fun hw id hid hid2=>?_⟩
 ·have:=List.all_eq_true.1 b id hid;simpa using this
 ·have:=List.all_eq_true.1 c id hid;simpa using this
 ·rcases d with d|d
  ·rw[hw] at d;simp at d
  ·have:=List.all_eq_true.1 d id hid
   simp at this
   exact this hid2
theorem W_of {i:Nat} {o:Oper} (hF:Fact P M C ops s0 Es Rs i o) {id:Id} (hW:(Es i).W id=true):Ya s0.ep i id=true∨((Rs i).w=true∧id∈(Rs i).T):=by
 obtain⟨g,_,ht,hf⟩:=hF.run
 cases g with
 | true=>
  obtain⟨y,_,h2,_⟩:=ht rfl
  rw[h2 id] at hW
  simpa using hW
 | false=>
  rw[(hf rfl).2.1 id] at hW;cases hW
theorem Unord.apart {j k:Nat} {oj ok:Oper} (h:Unord s0.ep Es Rs ops j k oj ok) (hj:Fact P M C ops s0 Es Rs j oj) (hk:Fact P M C ops s0 Es Rs k ok) (hne:j≠k):Apart (Es j) (Es k):=by
 obtain⟨t1,t2,t3⟩:=Oper.apart_spec h.tmp
 refine⟨fun t ht=>by rw[hk.dst];rw[hj.dst] at ht;exact t2 t ht,fun id hid=>?_⟩
 cases hW:(Es k).W id with
 | false=>rfl
 | true=>
  exfalso
  rcases W_of hj hid with h1|⟨h1,h1'⟩
  ·rcases W_of hk hW with h2|⟨h2,h2'⟩
   ·simp only[Ya,Bool.and_eq_true,beq_iff_eq] at h1 h2
    omega
   ·rw[h.f1 id h2'] at h1;cases h1
  ·rcases W_of hk hW with h2|⟨h2,h2'⟩
   ·rw[h.f2 id h1'] at h2;cases h2
   ·exact h.ww (by rw[h1];rfl) id h2' h1'
def Zoc (ops:Array Oper) (o:Oper):Nat→Prop:=fun t=>t∈o.looksAt ops
def Zvk (Rs:Nat→Rec) (i:Nat):Id→Prop:=fun id=>id∈(Rs i).T
theorem Unord.off1 {j k:Nat} {oj ok:Oper} (h:Unord s0.ep Es Rs ops j k oj ok) (hj:Fact P M C ops s0 Es Rs j oj):Off (Es j) (Zoc ops ok) (Zvk Rs k):=by
 obtain⟨t1,t2,t3⟩:=Oper.apart_spec h.tmp
 refine⟨fun t ht hd=>by rw[hj.dst] at hd;exact t1 t hd ht,fun id hid=>?_⟩
 cases hW:(Es j).W id with
 | false=>rfl
 | true=>
  exfalso
  rcases W_of hj hW with h1|⟨h1,h1'⟩
  ·rw[h.f1 id hid] at h1;cases h1
  ·exact h.ww (by rw[h1];rfl) id hid h1'
theorem Unord.off2 {j k:Nat} {oj ok:Oper} (h:Unord s0.ep Es Rs ops j k oj ok) (hk:Fact P M C ops s0 Es Rs k ok):Off (Es k) (Zoc ops oj) (Zvk Rs j):=by
 obtain⟨t1,t2,t3⟩:=Oper.apart_spec h.tmp
 refine⟨fun t ht hd=>by rw[hk.dst] at hd;exact t3 t hd ht,fun id hid=>?_⟩
 cases hW:(Es k).W id with
 | false=>rfl
 | true=>
  exfalso
  rcases W_of hk hW with h1|⟨h1,h1'⟩
  ·rw[h.f2 id hid] at h1;cases h1
  ·exact h.ww (by rw[h1];simp) id h1' hid
end
section
variable {P:Program} {M:Hints} {C:Nat→Yw} {ops:Array Oper} {s0:St} {Es:Nat→Eff} {Rs:Nat→Rec} {n:Nat}
theorem Zv6 (hF:∀(i:Nat) (o:Oper),ops[i]?=some o→Fact P M C ops s0 Es Rs i o) {m:Nat} {o:Oper} (ho:ops[m]?=some o):∀e∈o.after,Region.binds .any e=true→e.on < m:=fun e he hb=>by
 have h:=(hF m o ho).ok
 unfold Zd6 at h
 simp only[Bool.and_eq_true] at h
 have:=List.all_eq_true.1 h.1.1 e (by simpa using he)
 rw[hb] at this
 simpa using this
theorem Z5h (hF:∀(i:Nat) (o:Oper),ops[i]?=some o→Fact P M C ops s0 Es Rs i o) {L:Nat→Bool} (hL:∀(m:Nat) (o:Oper),L m=true→ops[m]?=some o→∀e∈o.after,Region.binds .any e=true→L e.on=true):
  ∀(m:Nat) (o:Oper),ops[m]?=some o→(∀e∈o.after,Region.binds .any e=true→L e.on=true)→∀j∈(Rs m).pre,L j=true:=by
 intro m
 induction m using Nat.strongRecOn with
 | _ m ih=>
  intro o ho hp j hj
  rw[(hF m o ho).pre] at hj
  unfold Zhd at hj
  rw[List.mem_eraseDups] at hj
  obtain⟨e,he,hj⟩:=List.mem_flatMap.1 hj
  rw[List.mem_filter] at he
  have hem:e∈o.after:=by simpa using he.1
  have hlt:=Zv6 hF ho e hem he.2
  have hLe:=hp e hem he.2
  rcases List.mem_cons.1 hj with rfl|hj
  ·exact hLe
  ·have hm:m < ops.size:=(Array.getElem?_eq_some_iff.1 ho).1
   have h1:((List.range m).map Rs)[e.on]?=some (Rs e.on):=by simp[List.getElem?_range hlt]
   rw[h1] at hj
   simp only[Option.map_some,Option.getD_some] at hj
   have ho':ops[e.on]?=some (ops[e.on]'(by omega)):=Array.getElem?_eq_getElem (by omega)
   exact ih e.on hlt _ ho' (hL e.on _ hLe ho') j hj
theorem Z98 (hF:∀(i:Nat) (o:Oper),ops[i]?=some o→Fact P M C ops s0 Es Rs i o) {L:Nat→Bool} {i:Nat} (hLi:L i=false) (h0:∀id:Id,id.1=s0.ep→s0.heap id=none)
  (hu:∀j,i < j→j < ops.size→L j=true→i ∉ (Rs j).pre) {oi:Oper} (hi:ops[i]?=some oi) {id:Id} (hf:Ya s0.ep i id=true):∀k,k≤ops.size→(sub Es L s0 k).heap id=none:=by
 have hf':id.1=s0.ep∧id.2 / 1024=i:=by simpa [Ya] using hf
 intro k
 induction k with
 | zero=>intro _;exact h0 id hf'.1
 | succ k ih=>
  intro hk
  rw[X8]
  cases hL:L k with
  | false=>simp only[Bool.false_eq_true,if_false];exact ih (by omega)
  | true=>
   simp only[if_true,Eff.app_heap]
   have hko:ops[k]?=some (ops[k]'(by omega)):=Array.getElem?_eq_getElem (by omega)
   have hki:k≠i:=fun e=>by subst e;rw[hLi] at hL;cases hL
   have hW:(Es k).W id=false:=by
    cases hW:(Es k).W id with
    | false=>rfl
    | true=>
     exfalso
     rcases W_of (hF k _ hko) hW with h1|⟨h1,h2⟩
     ·have:id.1=s0.ep∧id.2 / 1024=k:=by simpa [Ya] using h1
      omega
     ·rcases Nat.lt_or_ge i k with hlt|hge
      ·have:=(Zoy hF hi hko hlt (hu k hlt (by omega) hL)).f1 id h2
       rw[hf] at this;cases this
      ·have h:=(hF k _ hko).ok
       unfold Zd6 at h
       simp only[Bool.and_eq_true] at h
       have:=List.all_eq_true.1 h.1.2 id h2
       simp only[Bool.not_eq_true',Bool.and_eq_false_iff,beq_eq_false_iff_ne,decide_eq_false_iff_not] at this
       rcases this with h3|h3
       ·exact h3 hf'.1
       ·omega
   rw[hW]
   simp only[Bool.false_eq_true,if_false]
   exact ih (by omega)
theorem Zy0 {x y:St} {o:Oper} (h:∀t,Zoc ops o t→x.env t=y.env t):wanted x ops o=wanted y ops o:=by
 unfold wanted
 cases hg:o.guard with
 | none=>rfl
 | some jb=>
  obtain⟨j,b⟩:=jb
  simp only
  cases ht:(ops[j]?).bind (·.dst) with
  | none=>rfl
  | some t=>
   have:x.env t=y.env t:=h t (by
    unfold Zoc Oper.looksAt
    rw[hg]
    simp[ht])
   simp only[Option.map_some,this]
theorem Z8i {x y:St} {o:Oper} (h:∀t,Zoc ops o t→x.env t=y.env t):∀z∈o.op.operands.toList,x.opV z=y.opV z:=by
 intro z hz
 cases z with
 | tmp t=>
  exact h t (by
   unfold Zoc Oper.looksAt
   refine List.mem_append_left _ (List.mem_filterMap.2 ⟨.tmp t,hz,rfl⟩))
 | _=>rfl
theorem Z8u (hF:∀(i:Nat) (o:Oper),ops[i]?=some o→Fact P M C ops s0 Es Rs i o) {L:Nat→Bool} {i:Nat} {o:Oper} (hi:ops[i]?=some o) (hLi:L i=false) (h0:∀id:Id,id.1=s0.ep→s0.heap id=none)
  (hL:∀(m:Nat) (o:Oper),L m=true→ops[m]?=some o→∀e∈o.after,Region.binds .any e=true→L e.on=true) (hr:∀e∈o.after,Region.binds .any e=true→L e.on=true):
  ∃g,wanted (sub Es L s0 ops.size) ops o=some g∧
   (g=true→∃x1,evOp P M (C i) (sub Es L s0 ops.size) i o=some ((Es i).v,x1)∧x1.put o.dst (Es i).v=sub Es (fun j=>L j||j == i) s0 ops.size)∧
   (g=false→(sub Es L s0 ops.size).put o.dst (.tup [])=sub Es (fun j=>L j||j == i) s0 ops.size):=by
 have hin:i < ops.size:=(Array.getElem?_eq_some_iff.1 hi).1
 have hFi:=hF i o hi
 have hpre:=Z5h hF hL
 have hlow:∀j,j < i→L j=false→j ∉ (Rs i).pre:=fun j hj hLj hm=>by
  rw[hpre i o hi hr j hm] at hLj;cases hLj
 have hhigh:∀j,i < j→j < ops.size→L j=true→i ∉ (Rs j).pre:=fun j hj hjn hLj hm=>by
  have hjo:ops[j]?=some (ops[j]'hjn):=Array.getElem?_eq_getElem hjn
  have:=hpre j _ hjo (hL j _ hLj hjo) i hm
  rw[hLi] at this;cases this
 have hag:=Z6v (Es:=Es) (s:=s0) (A:=Zoc ops o) (T:=Zvk Rs i) (i:=i) (n:=ops.size) hLi
  (fun j hj hLj=>by
   have hjo:ops[j]?=some (ops[j]'(by omega)):=Array.getElem?_eq_getElem (by omega)
   exact (Zoy hF hjo hi hj (hlow j hj hLj)).off1 (hF j _ hjo))
  (fun j hj hjn hLj=>by
   have hjo:ops[j]?=some (ops[j]'hjn):=Array.getElem?_eq_getElem hjn
   exact (Zoy hF hi hjo hj (hhigh j hj hjn hLj)).off2 (hF j _ hjo))
  ops.size (Nat.le_refl _)
 rw[Nat.min_eq_right (by omega)] at hag
 have hadd:=Yaz (Es:=Es) (s:=s0) hin hLi (fun j hj hjn hLj=>by
   have hjo:ops[j]?=some (ops[j]'hjn):=Array.getElem?_eq_getElem hjn
   exact (Zoy hF hi hjo hj (hhigh j hj hjn hLj)).apart hFi (hF j _ hjo) (by omega))
 obtain⟨g,hg,ht,hf⟩:=hFi.run
 refine⟨g,by rw[Zy0 (fun t h=>hag.1 t h)];exact hg,fun hgt=>?_,fun hgf=>?_⟩
 ·obtain⟨y,hy,hW,hhp,hw⟩:=ht hgt
  have hep:(sub Es L s0 ops.size).ep=s0.ep:=Zt0 _ _ _ _
  have hepi:(sub Es (fun _=>true) s0 i).ep=s0.ep:=Zt0 _ _ _ _
  have hext:Ext (fun id=>(Rs i).T.contains id=false∧Ya s0.ep i id=false) ((sub Es (fun _=>true) s0 i).only (Rs i).T) (sub Es L s0 ops.size):=by
   refine⟨by rw[hep];exact hepi.symm,fun id hid=>?_,fun id hid=>?_⟩
   ·simp only[St.only]
    cases hc:(Rs i).T.contains id with
    | true=>simp only[if_true];exact hag.2 id (show id∈(Rs i).T by simpa using hc)
    | false=>
     simp only[Bool.false_eq_true,if_false]
     have hfr:Ya s0.ep i id=true:=by
      cases hfr:Ya s0.ep i id with
      | true=>rfl
      | false=>exact absurd ⟨hc,hfr⟩ hid
     exact Z98 hF hLi h0 hhigh hi hfr ops.size (Nat.le_refl _)
   ·simp only[St.only,hid.1,Bool.false_eq_true,if_false]
  obtain⟨x1,h1,h2,h3,h4,h5⟩:=hext.op (P:=P) (M:=M) (C:=C i) (k:=i) (fun id hid hh=>by
   have:Ya s0.ep i id=true:=by simp only[Ya,Bool.and_eq_true,beq_iff_eq];exact⟨by rw[hh.1];exact hepi,hh.2⟩
   rw[hid.2] at this;cases this) hy
  refine⟨x1,?_,?_⟩
  ·unfold evOp
   rw[Z11 (Z8i (ops:=ops) (fun t h=>hag.1 t h))]
   exact h1
  ·rw[←hadd]
   refine St.ext' (fun t=>?_) (fun id=>?_) ?_
   ·have e1:∀(z:St),(z.put o.dst (Es i).v).env t=if o.dst=some t then (Es i).v else z.env t:=fun z=>by
     have:=Eff.app_env ⟨o.dst,(Es i).v,fun _=>false,fun _=>none⟩ z t
     simpa [Eff.app] using this
    rw[e1,Eff.app_env,hFi.dst,h4]
   ·rw[Zhb,Eff.app_heap]
    simp only[hW id]
    have hyr:(Rs i).w=false→Ya s0.ep i id=false→y.heap id=((sub Es (fun _=>true) s0 i).only (Rs i).T).heap id:=fun hwf hff=>by
     refine Z67 hy (by rw[←hw];exact hwf) ?_
     have:((sub Es (fun _=>true) s0 i).only (Rs i).T).ep=s0.ep:=hepi
     rw[this];exact hff
    cases hff:Ya s0.ep i id with
    | true=>
     simp only[Bool.true_or,if_true]
     rw[hhp,h2.out id (fun hd=>by rw[hd.2] at hff;cases hff)]
    | false=>
     cases hc:(Rs i).T.contains id with
     | false=>
      simp only[Bool.and_false,Bool.or_self,Bool.false_eq_true,if_false]
      exact h3 id ⟨hc,hff⟩
     | true=>
      have hnd:¬((Rs i).T.contains id=false∧Ya s0.ep i id=false):=fun hd=>by rw[hd.1] at hc;cases hc
      rw[h2.out id hnd]
      cases hwi:(Rs i).w with
      | true=>simp[hhp]
      | false=>
       simp only[Bool.false_and,Bool.or_self,Bool.false_eq_true,if_false]
       rw[hyr hwi hff,←hext.out id hnd]
   ·rw[J7,Eff.app_ep,h5]
 ·obtain⟨hv,hWf,_,_⟩:=hf hgf
  rw[←hadd]
  refine St.ext' (fun t=>?_) (fun id=>?_) ?_
  ·have e1:∀(z:St),(z.put o.dst (.tup [])).env t=if o.dst=some t then (.tup []) else z.env t:=fun z=>by
    have:=Eff.app_env ⟨o.dst,.tup [],fun _=>false,fun _=>none⟩ z t
    simpa [Eff.app] using this
   rw[e1,Eff.app_env,hFi.dst,hv]
  ·rw[Zhb,Eff.app_heap]
   simp[hWf id]
  ·rw[J7,Eff.app_ep]
theorem Z2b {listed:Array Bool} {i n:Nat} (hi:i < n) (hl:listed.getD i true=false):
  ((List.range n).filter fun j=>!(listed.setIfInBounds i true).getD j true).length < ((List.range n).filter fun j=>!listed.getD j true).length:=by
 have hsz:i < listed.size:=by
  rcases Nat.lt_or_ge i listed.size with h|h
  ·exact h
  ·simp[Array.getElem?_eq_none h] at hl
 have hset:∀j,(listed.setIfInBounds i true).getD j true=(listed.getD j true||j == i):=fun j=>by
  by_cases h:i=j
  ·subst h;simp[hsz]
  ·have hji:(j == i)=false:=by simpa using (fun e=>h e.symm)
   rw[getD_set_ne true h,hji,Bool.or_false]
 have hsub:((List.range n).filter fun j=>!(listed.setIfInBounds i true).getD j true)=((List.range n).filter fun j=>!listed.getD j true).filter fun j=>!(j == i):=by
  rw[List.filter_filter]
  congr 1
  funext j
  rw[hset]
  cases listed.getD j true<;>cases (j == i)<;>rfl
 rw[hsub]
 have hle:=List.length_filter_le (fun j=>!(j == i)) ((List.range n).filter fun j=>!listed.getD j true)
 rcases Nat.lt_or_ge (((List.range n).filter fun j=>!listed.getD j true).filter fun j=>!(j == i)).length ((List.range n).filter fun j=>!listed.getD j true).length with h|h
 ·exact h
 ·have he:=(List.filter_sublist (p:=fun j=>!(j == i)) (l:=(List.range n).filter fun j=>!listed.getD j true)).eq_of_length (by omega)
  have hm:i∈(List.range n).filter fun j=>!listed.getD j true:=List.mem_filter.2 ⟨List.mem_range.2 hi,by rw[hl];rfl⟩
  rw[←he,List.mem_filter] at hm
  simp at hm
variable {B:Nat} {io:Nat→Prop} {fl:List Nat}
theorem Z4n {Q:Exit→Act→World→Prop} (hC:∀k,Kr P M (C k)) (hF:∀(i:Nat) (o:Oper),ops[i]?=some o→Fact P M C ops s0 Es Rs i o) (h0:∀id:Id,id.1=s0.ep→s0.heap id=none):
  ∀(fuel:Nat) (listed:Array Bool) {a:Act} {w:World} {ρ:Rho} {F:Id→List Nat},listed.size=ops.size→((List.range ops.size).filter fun j=>!listed.getD j true).length≤fuel→
   (∀(m:Nat) (o:Oper),listed.getD m false=true→ops[m]?=some o→∀e∈o.after,Region.binds .any e=true→listed.getD e.on false=true)→
   Rel P B io w a.tmps (sub Es (fun j=>listed.getD j false) s0 ops.size) ρ F fl→(∀id:Id,id.1=s0.ep→(ρ id).isSome=true→listed.getD (id.2 / 1024) false=true)→Zgk a.tmps.size ops.toList=true→
   (∀a' w',Zcf P B io fl w a ρ (sub Es (fun _=>true) s0 ops.size) a' w'→Q .normal a' w')→wpAny P .any ops Q fuel listed a w:=by
 have same:∀(listed:Array Bool) (j:Nat),listed.size=ops.size→j < ops.size→listed.getD j false=listed.getD j true:=fun listed j hs hj=>by
  simp[show j < listed.size by omega]
 have done:∀(listed:Array Bool) {a:Act} {w:World} {ρ:Rho} {F:Id→List Nat},listed.size=ops.size→(∀(m:Nat) (o:Oper),listed.getD m false=true→ops[m]?=some o→∀e∈o.after,Region.binds .any e=true→listed.getD e.on false=true)→Region.ready .any ops listed=[]→
   Rel P B io w a.tmps (sub Es (fun j=>listed.getD j false) s0 ops.size) ρ F fl→(∀a' w',Zcf P B io fl w a ρ (sub Es (fun _=>true) s0 ops.size) a' w'→Q .normal a' w')→Q .normal a w:=by
  intro listed a w ρ F hs hcl hr h hQ
  have hall:∀j,j < ops.size→listed.getD j false=true:=by
   intro j
   induction j using Nat.strongRecOn with
   | _ j ih=>
    intro hj
    have hjo:ops[j]?=some (ops[j]'hj):=Array.getElem?_eq_getElem hj
    cases hl:listed.getD j false with
    | true=>rfl
    | false=>
     exfalso
     have:j∈Region.ready .any ops listed:=mem_ready.2 ⟨by rw[←same listed j hs hj];exact hl,_,hjo,fun e he hb=>ih e.on (Zv6 hF hjo e he hb) (by have:=Zv6 hF hjo e he hb;omega)⟩
     rw[hr] at this;cases this
  have:sub Es (fun j=>listed.getD j false) s0 ops.size=sub Es (fun _=>true) s0 ops.size:=Zwv fun j hj=>hall j hj
  rw[this] at h
  exact hQ _ _ (.refl h)
 intro fuel
 induction fuel with
 | zero=>
  intro listed a w ρ F hs hf hcl h hρ hd hQ
  have hr:Region.ready .any ops listed=[]:=by
   have hnil:=List.eq_nil_of_length_eq_zero (Nat.le_zero.1 hf)
   unfold Region.ready
   rw[List.filter_eq_nil_iff]
   intro i hi hh
   simp only[Bool.and_eq_true] at hh
   have hm:i∈(List.range ops.size).filter fun j=>!listed.getD j true:=List.mem_filter.2 ⟨hi,hh.1⟩
   rw[hnil] at hm;cases hm
  exact⟨hr,done listed hs hcl hr h hQ⟩
 | succ fuel ih=>
  intro listed a w ρ F hs hf hcl h hρ hd hQ
  refine⟨fun hr=>done listed hs hcl hr h hQ,fun i hi=>?_⟩
  obtain⟨hun,o,ho,hready⟩:=mem_ready.1 hi
  have hin:i < ops.size:=(Array.getElem?_eq_some_iff.1 ho).1
  have hLi:listed.getD i false=false:=by rw[same listed i hs hin];exact hun
  obtain⟨g,hg,ht,hff⟩:=Z8u hF (L:=fun j=>listed.getD j false) ho hLi h0 hcl hready
  have hset:∀j,(listed.setIfInBounds i true).getD j false=(listed.getD j false||j == i):=fun j=>by
   by_cases e:i=j
   ·subst e;simp[show i < listed.size by omega]
   ·have hji:(j == i)=false:=by simpa using (fun h=>e h.symm)
    rw[getD_set_ne false e,hji,Bool.or_false]
  have hnew:∀id:Id,id.1=(sub Es (fun j=>listed.getD j false) s0 ops.size).ep→id.2 / 1024=i→ρ id=none:=fun id h1 h2=>by
   cases hr:ρ id with
   | none=>rfl
   | some x=>
    have:=hρ id (by rw[h1,Zt0]) (by rw[hr];rfl)
    rw[h2,hLi] at this;cases this
  have hd':∀d,o.dst=some d→d < a.tmps.size:=Zj2 hd (by simpa using ho)
  have next:∀{s2:St} {a':Act} {w':World} {ρ':Rho} {F':Id→List Nat},Rel P B io w' a'.tmps s2 ρ' F' fl→s2=sub Es (fun j=>listed.getD j false||j == i) s0 ops.size→Left B io w w'→(∀id i,ρ id=some i→ρ' id=some i)→
    (∀id,(ρ' id).isSome=true→(ρ id).isSome=true∨(id.1=(sub Es (fun j=>listed.getD j false) s0 ops.size).ep∧id.2 / 1024=i))→a'.tmps.size=a.tmps.size→a'.defers=a.defers→wpAny P .any ops Q fuel (listed.setIfInBounds i true) a' w':=by
   intro s2 a' w' ρ' F' hR hs2 hLf hρ' hdom hts hdf
   subst hs2
   refine ih (listed.setIfInBounds i true) (by simpa using hs) (by have:=Z2b hin hun;omega) (fun m o' hm hmo e he hb=>?_) (by
    have:(fun j=>(listed.setIfInBounds i true).getD j false)=fun j=>listed.getD j false||j == i:=funext hset
    rw[this];exact hR) (fun id h1 h2=>?_) (by rw[hts];exact hd) (fun a2 w2 hA=>hQ _ _ (.trans hLf hρ' hts hdf hA))
   ·rw[hset] at hm ⊢
    simp only[Bool.or_eq_true,beq_iff_eq] at hm ⊢
    rcases hm with hm|rfl
    ·exact .inl (hcl m o' hm hmo e he hb)
    ·rw[ho] at hmo;injection hmo with hmo;subst hmo
     exact .inl (hready e he hb)
   ·rw[hset]
    simp only[Bool.or_eq_true,beq_iff_eq]
    rcases hdom id h2 with h3|h3
    ·exact .inl (hρ id h1 h3)
    ·exact .inr h3.2
  cases g with
  | true=>
   obtain⟨x1,hx1,hx2⟩:=ht rfl
   refine Zqf (M:=M) (C:=C i) (v:=(Es i).v) (s1:=x1) h ho hd' hg (fun _=>hnew) (fun _=>hx1) (fun _=>hC i _ _ _ _ _ _ F _ _ _ _ h hnew) (fun a' w' ρ' F' hR hep hLf hρ' hdom hts hdf=>?_)
   simp only[if_true] at hR
   exact next hR hx2 hLf hρ' hdom hts hdf
  | false=>
   refine Zqf (M:=M) (C:=C i) (v:=.undef) (s1:=s0) h ho hd' hg (fun hf=>by cases hf) (fun hf=>by cases hf) (fun hf=>by cases hf) (fun a' w' ρ' F' hR hep hLf hρ' hdom hts hdf=>?_)
   simp only[Bool.false_eq_true,if_false] at hR
   exact next hR (hff rfl) hLf hρ' hdom hts hdf
theorem Z8f {Q:Exit→Act→World→Prop} (hC:∀k,Kr P M (C k)) {s':St} {a:Act} {w:World} {ρ:Rho} {F:Id→List Nat} (h:Rel P B io w a.tmps s0 ρ F fl) (he:Qo P M C ops s0 [] 0 ops.toList=some s')
  (hnew:∀id:Id,id.1=s0.ep→ρ id=none) (hd:Zgk a.tmps.size ops.toList=true) (hQ:∀a' w',Zcf P B io fl w a ρ s' a' w'→Q .normal a' w'):
  wpAny P .any ops Q ops.size (Array.replicate ops.size false) a w:=by
 obtain⟨Es,Rs,_,h2,h3⟩:=Zzx (s0:=s0) ops.toList (k:=0) (Es0:=fun _=>⟨none,.undef,fun _=>false,fun _=>none⟩) (Rs0:=fun _=>⟨[],[],false⟩) rfl rfl he
 rw[Nat.zero_add,Array.length_toList] at h2
 subst h2
 have hF:∀(i:Nat) (o:Oper),ops[i]?=some o→Fact P M C ops s0 Es Rs i o:=fun i o ho=>by
  have:=h3 i o (by simpa using ho)
  rwa [Nat.zero_add] at this
 have hrep:∀j,(Array.replicate ops.size false).getD j false=false:=fun j=>by
  by_cases h:j < ops.size<;>simp[h]
 have hh0:∀id:Id,id.1=s0.ep→s0.heap id=none:=fun id h1=>by
  cases hb:s0.heap id with
  | none=>rfl
  | some b=>
   exfalso
   have hB:=h.heap id b hb
   rw[hnew id h1] at hB
   unfold BlkR at hB
   split at hB
   ·obtain⟨_,_,_,_,_,hi,_⟩:=hB;cases hi
   ·rcases hB with⟨hi,_⟩|⟨_,_,_,_,hi,_⟩<;>cases hi
   ·obtain⟨_,hB⟩:=hB
    rcases hB with⟨hi,_⟩|⟨_,_,_,_,hi,_⟩<;>cases hi
 refine Z4n (F:=F) hC hF hh0 ops.size _ (by simp) (by
  have:=List.length_filter_le (fun j=>!(Array.replicate ops.size false).getD j true) (List.range ops.size)
  simpa using this) (fun m o hm=>by rw[hrep] at hm;cases hm) ?_ (fun id h1 h2=>by rw[hnew id h1] at h2;cases h2) hd hQ
 have:sub Es (fun j=>(Array.replicate ops.size false).getD j false) s0 ops.size=s0:=by
  have key:∀k,sub Es (fun j=>(Array.replicate ops.size false).getD j false) s0 k=s0:=by
   intro k
   induction k with
   | zero=>rfl
   | succ k ih=>rw[X8,hrep,if_neg (by simp)];exact ih
  exact key _
 rw[this];exact h
end
def X1 (n:Nat):Code→Bool
 | .region _ ops _=>Zgk n ops.toList
 | .seq a b=>X1 n a&&X1 n b
 | .cond _ a b=>X1 n a&&X1 n b
 | .block _ c=>X1 n c
 | .loop c=>X1 n c
 | _=>true
def Ex.to:Ex→Exit
 | .normal=>.normal
 | .ret=>.ret
 | .exit n=>.exit n
open Classical in
section
variable {P:Program} {B:Nat} {io:Nat→Prop} {w w':World} {a a':Act} {s s':St} {ρ ρ':Rho} {F F':Id→List Nat} {fl:List Nat} {M:Hints} {C:Yw}
theorem Rel.tick (h:Rel P B io w a.tmps s ρ F fl):Rel P B io w a.tmps {s with ep:=s.ep+1} ρ F fl:=
 {h with dom:=fun id hid=>by have:=h.dom id hid;simp only;omega}
theorem Rel.drawn (h:Rel P B io w a.tmps s ρ F fl) (n:Nat):Rel P B io {w with drawn:=n} a.tmps s ρ F fl:=by
 have hg:RelG P B io {w with drawn:=n} a.tmps s ρ F fl (okS s ρ w):=
  {h with
   env:=fun t v hv=>(h.env t v hv).world fun _ _=>rfl
   heap:=fun id b hb=>(h.heap id b hb).world (fun _ _=>rfl) (fun _ _=>rfl)
   base0:=h.base0.step (Nat.le_refl _) (fun _ _ _=>rfl)}
 exact hg.toRel fun g hg=>hg
end
structure ExtE (D:Id→Prop) (s t:St):Prop where
 ext:Ext D s t
 env:t.env=s.env
 ph:∀id b,D id→t.heap id=some b→b.rows=[]
def Ext3 (D:Id→Prop) (t s' t':St):Prop:=ExtE D s' t'∧∀id,D id→t'.heap id=t.heap id
section
variable {D:Id→Prop} {s t s':St} {P:Program} {M:Hints} {C:Yw} {k:Nat} {o:Oper} {v:V} {ops:Array Oper}
theorem ExtE.three (h:ExtE D s t):Ext3 D t s t:=⟨h,fun _ _=>rfl⟩
theorem Ext3.trans {t1 s1 s2 t2:St} (h:Ext3 D t s1 t1) (k:Ext3 D t1 s2 t2):Ext3 D t s2 t2:=⟨k.1,fun id hd=>(k.2 id hd).trans (h.2 id hd)⟩
theorem ExtE.of2 {s1 t1:St} (h:ExtE D s t) (e:Ext2 D t s1 t1) (henv:s1.env=s.env):Ext3 D t s1 t1:=
 ⟨⟨e.1,by rw[e.2.2.1,h.env,henv],fun id b hd hb=>h.ph id b hd (by rw[←e.2.1 id hd];exact hb)⟩,e.2.1⟩
theorem ExtE.put (h:ExtE D s t) (d:Option Tmp) (v:V):Ext3 D t (s.put d v) (t.put d v):=by
 cases d with
 | none=>exact h.three
 | some d=>exact⟨⟨⟨h.ext.ep,h.ext.out,h.ext.abs⟩,by simp only[St.put,h.env],h.ph⟩,fun _ _=>rfl⟩
theorem ExtE.opV (h:ExtE D s t):t.opV=s.opV:=by
 funext x;cases x<;>simp only[St.opV,h.env]
theorem ExtE.wanted (h:ExtE D s t):Ev.wanted t ops o=Ev.wanted s ops o:=by
 unfold Ev.wanted;rw[h.env]
theorem Zwm {f:Operand→V} (he:Zq P M C f s k o=some (v,s')):s'.env=s.env∧s'.ep=s.ep:=by
 have h:Ext (fun _=>False) s ⟨s.env,s.heap,s.ep⟩:=⟨rfl,fun _ _=>rfl,fun _ h=>h.elim⟩
 obtain⟨t',h1,h2⟩:=h.op (fun _ h=>h.elim) he
 have h3:(some (v,t'):Option (V×St))=some (v,s'):=by rw[←h1,←he]
 simp only[Option.some.injEq,Prod.mk.injEq,true_and] at h3
 subst h3
 exact⟨h2.2.2.1,h2.2.2.2⟩
theorem ExtE.op (h:ExtE D s t) (hd:∀id:Id,D id→¬(id.1=s.ep∧id.2 / 1024=k)) (he:evOp P M C s k o=some (v,s')):∃t',evOp P M C t k o=some (v,t')∧Ext3 D t s' t':=by
 unfold evOp at he ⊢
 rw[h.opV]
 obtain⟨t',h1,h2⟩:=h.ext.op hd he
 exact⟨t',h1,h.of2 h2 (Zwm he).1⟩
theorem ExtE.evops {C:Nat→Yw} (hD:∀id:Id,D id→id.1=0):∀(l:List Oper) {k:Nat} {s t s':St},ExtE D s t→s.ep≠0→Ju P M C ops s k l=some s'→∃t',Ju P M C ops t k l=some t'∧Ext3 D t s' t'∧s'.ep=s.ep:=by
 intro l
 induction l with
 | nil=>
  intro k s t s' h _ he
  simp only[Ju,Option.some.injEq] at he
  subst he
  exact⟨t,rfl,h.three,rfl⟩
 | cons o l ih=>
  intro k s t s' h hep he
  simp only[Ju] at he ⊢
  obtain⟨g,hg,he⟩:=Option.bind_eq_some_iff.1 he
  rw[h.wanted,hg,Option.bind_some]
  cases g with
  | true=>
   simp only[if_true] at he ⊢
   obtain⟨⟨v,s1⟩,h1,he⟩:=Option.bind_eq_some_iff.1 he
   obtain⟨t1,g1,e1⟩:=h.op (fun id hd hh=>hep (by rw[←hh.1];exact hD id hd)) h1
   have hp:=e1.1.put o.dst v
   have hs1:s1.ep=s.ep:=(Zwm h1).2
   obtain⟨t2,g2,e2,e3⟩:=ih hp.1 (by rw[J7,hs1];exact hep) he
   exact⟨t2,by rw[g1];exact g2,(e1.trans hp).trans e2,by rw[e3,J7,hs1]⟩
  | false=>
   simp only[Bool.false_eq_true,if_false] at he ⊢
   have hp:=h.put o.dst (.tup [])
   obtain⟨t2,g2,e2,e3⟩:=ih hp.1 (by rw[J7];exact hep) he
   exact⟨t2,g2,hp.trans e2,by rw[e3,J7]⟩
theorem ExtE.deep (h:ExtE D s t) (id:Id):t.deep id=s.deep id:=by
 unfold St.deep
 by_cases hd:D id
 ·rw[h.ext.abs id hd]
  cases hb:t.heap id with
  | none=>rfl
  | some b=>simp only[h.ph id b hd hb];simp
 ·rw[h.ext.out id hd]
theorem ExtE.storeT (h:ExtE D s t) (d:List Id) (x:V):t.storeT d x=s.storeT d x:=by
 cases x with
 | ptr i j n=>
  simp only[St.storeT]
  by_cases hd:D i
  ·rw[h.ext.abs i hd]
   cases hb:t.heap i with
   | none=>rfl
   | some b=>
    have:=h.ph i b hd hb
    simp only[this]
    cases b.box<;>rfl
  ·rw[h.ext.out i hd]
 | _=>rfl
theorem ExtE.touch (h:ExtE D s t):Ev.touch t o=Ev.touch s o:=by
 have hdp:t.deep=s.deep:=funext h.deep
 have hst:t.storeT=s.storeT:=funext fun d=>funext fun x=>h.storeT d x
 unfold Ev.touch
 rw[h.opV,hdp,hst]
theorem ExtE.only (h:ExtE D s t) (T:List Id):Ext D (s.only T) (t.only T):=by
 refine⟨h.ext.ep,fun id hd=>?_,fun id hd=>?_⟩
 ·simp only[St.only];split
  ·exact h.ext.out id hd
  ·rfl
 ·simp only[St.only];split
  ·exact h.ext.abs id hd
  ·rfl
theorem ExtE.merge {y z:St} {T:List Id} {w:Bool} (h:ExtE D s t) (hD:∀id:Id,D id→Ya s.ep k id=false) (hy:Ext D y z) (hz:∀id,D id→z.heap id=(t.only T).heap id):Ext3 D t (s.merge k T w y) (t.merge k T w z):=by
 have key:∀id,D id→(t.merge k T w z).heap id=t.heap id:=fun id hd=>by
  simp only[St.merge,h.ext.ep,hD id hd,Bool.false_or]
  split
  ·rename_i hc
   rw[hz id hd]
   simp only[Bool.and_eq_true] at hc
   have hm:id∈T:=by simpa using hc.2
   simp[St.only,hm]
  ·rfl
 refine⟨⟨⟨h.ext.ep,fun id hd=>?_,fun id hd=>?_⟩,h.env,fun id b hd hb=>h.ph id b hd (by rw[←key id hd];exact hb)⟩,key⟩
 ·simp only[St.merge,h.ext.ep];split
  ·exact hy.out id hd
  ·exact h.ext.out id hd
 ·simp only[St.merge];split
  ·exact hy.abs id hd
  ·exact h.ext.abs id hd
theorem ExtE.draw {C:Nat→Yw} (hD:∀id:Id,D id→id.1=0):∀(l:List Oper) {k:Nat} {s t s':St} {recs:List Rec},ExtE D s t→s.ep≠0→Qo P M C ops s recs k l=some s'→∃t',Qo P M C ops t recs k l=some t'∧Ext3 D t s' t':=by
 intro l
 induction l with
 | nil=>
  intro k s t s' recs h _ he
  simp only[Qo,Option.some.injEq] at he
  subst he
  exact⟨t,rfl,h.three⟩
 | cons o l ih=>
  intro k s t s' recs h hep he
  have hno:∀id:Id,D id→¬(id.1=s.ep∧id.2 / 1024=k):=fun id hd hh=>hep (by rw[←hh.1];exact hD id hd)
  have hnf:∀id:Id,D id→Ya s.ep k id=false:=fun id hd=>by
   cases hf:Ya s.ep k id with
   | false=>rfl
   | true=>exact absurd (by simpa [Ya] using hf) (hno id hd)
  simp only[Qo] at he ⊢
  obtain⟨g,hg,he⟩:=Option.bind_eq_some_iff.1 he
  rw[h.wanted,hg,Option.bind_some,h.touch,h.opV,h.ext.ep]
  cases g with
  | true=>
   simp only[if_true] at he ⊢
   split at he
   ·rename_i hok
    rw[if_pos hok]
    obtain⟨⟨v,y⟩,h1,he⟩:=Option.bind_eq_some_iff.1 he
    obtain⟨z,g1,e1⟩:=(h.only (Ev.touch s o)).op (by exact hno) h1
    have hm:=h.merge (T:=Ev.touch s o) (w:=Zc4 M s.opV o) hnf e1.1 e1.2.1
    have hp:=hm.1.put o.dst v
    obtain⟨t2,g2,e2⟩:=ih hp.1 (by rw[J7];exact hep) he
    exact⟨t2,by rw[g1];exact g2,(hm.trans hp).trans e2⟩
   ·cases he
  | false=>
   simp only[Bool.false_eq_true,if_false] at he ⊢
   split at he
   ·rename_i hok
    rw[if_pos hok]
    have hp:=h.put o.dst (.tup [])
    obtain⟨t2,g2,e2⟩:=ih hp.1 (by rw[J7];exact hep) he
    exact⟨t2,g2,hp.trans e2⟩
   ·cases he
theorem ExtE.tick (h:ExtE D s t):Ext3 D t {s with ep:=s.ep+1} {t with ep:=t.ep+1}:=
 ⟨⟨⟨by simp only[h.ext.ep],h.ext.out,h.ext.abs⟩,h.env,h.ph⟩,fun _ _=>rfl⟩
theorem ExtE.res (h:ExtE D s t):∀{l:List ResultVar} {vs:List V},resV P s l=some vs→resV P t l=some vs:=by
 intro l
 induction l with
 | nil=>intro vs hr;exact hr
 | cons r l ih=>
  intro vs hr
  cases r with
  | tmp x=>
   simp only[resV,h.env] at hr ⊢
   split at hr
   ·cases hr
   ·obtain⟨ys,h1,rfl⟩:=Option.map_eq_some_iff.1 hr
    rw[ih h1];rfl
  | cell a ty=>
   simp only[resV,h.env] at hr ⊢
   split at hr
   ·obtain⟨b,hb,hr⟩:=Option.bind_eq_some_iff.1 hr
    obtain⟨row,hrow,hr⟩:=Option.bind_eq_some_iff.1 hr
    rw[h.ext.get hb,Option.bind_some,hrow,Option.bind_some]
    split at hr
    ·rename_i hl
     rw[if_pos hl]
     obtain⟨x,hx,hr⟩:=Option.bind_eq_some_iff.1 hr
     obtain⟨ys,h1,rfl⟩:=Option.map_eq_some_iff.1 hr
     rw[hx,Option.bind_some,ih h1];rfl
    ·cases hr
   ·cases hr
theorem Ext.liftOne (h:Ext D s t) {ts:List (Option TypeId)} {x y:V} (hl:s.liftOne ts x=some (y,s')):∃t',t.liftOne ts x=some (y,t')∧Ext2 D t s' t':=by
 unfold St.liftOne at hl ⊢
 split at hl
 ·obtain⟨⟨ys,s1⟩,h1,he⟩:=Option.map_eq_some_iff.1 hl
  simp only[Prod.mk.injEq] at he
  obtain⟨rfl,rfl⟩:=he
  obtain⟨t',g,e⟩:=Ext.giveCells h h1
  exact⟨t',by rw[g];rfl,e⟩
 ·obtain⟨⟨ys,s1⟩,h1,he⟩:=Option.map_eq_some_iff.1 hl
  simp only[Prod.mk.injEq] at he
  obtain⟨rfl,rfl⟩:=he
  obtain⟨⟨t',g,e⟩,_⟩:=h.giveBox h1
  exact⟨t',by rw[g];rfl,e⟩
 ·exact h.giveCell hl
theorem Ext.liftAll:∀{xs:List V} {s t:St} {ts:List TypeId} {ys:List V} {s':St},Ext D s t→s.liftAll P ts xs=some (ys,s')→∃t',t.liftAll P ts xs=some (ys,t')∧Ext2 D t s' t':=by
 intro xs
 induction xs with
 | nil=>
  intro s t ts ys s' h hs
  simp only[St.liftAll,Option.some.injEq,Prod.mk.injEq] at hs
  obtain⟨rfl,rfl⟩:=hs
  exact⟨t,rfl,h.two⟩
 | cons x xs ih=>
  intro s t ts ys s' h hs
  simp only[St.liftAll] at hs ⊢
  obtain⟨⟨y1,s1⟩,h1,hs⟩:=Option.bind_eq_some_iff.1 hs
  obtain⟨⟨y2,s2⟩,h2,hs⟩:=Option.map_eq_some_iff.1 hs
  simp only[Prod.mk.injEq] at hs
  obtain⟨rfl,rfl⟩:=hs
  obtain⟨t1,g1,e1⟩:=h.liftOne h1
  obtain⟨t2,g2,e2⟩:=ih e1.1 h2
  exact⟨t2,by rw[g1];simp only[Option.bind_some,g2];rfl,e1.trans e2⟩
theorem Ext.outCells {p:Nat}:∀{xs:List V} {s t:St} {k:Nat} {ys:List V} {s':St},Ext D s t→s.outCells p k xs=some (ys,s')→∃t',t.outCells p k xs=some (ys,t')∧Ext2 D t s' t':=by
 intro xs
 induction xs with
 | nil=>
  intro s t k ys s' h hs
  simp only[St.outCells,Option.some.injEq,Prod.mk.injEq] at hs
  obtain⟨rfl,rfl⟩:=hs
  exact⟨t,rfl,h.two⟩
 | cons x xs ih=>
  intro s t k ys s' h hs
  unfold St.outCells at hs ⊢
  split at hs
  ·rename_i heq;cases heq
  ·rename_i heq
   injection heq with h1 h2
   subst h1;subst h2
   obtain⟨er,hw,hs⟩:=Option.bind_eq_some_iff.1 hs
   obtain⟨hw',hd⟩:=h.whole hw
   rw[hw',Option.bind_some]
   split at hs
   ·rename_i he
    rw[if_pos he]
    obtain⟨⟨ys',s1⟩,h1,he⟩:=Option.map_eq_some_iff.1 hs
    simp only[Prod.mk.injEq] at he
    obtain⟨rfl,rfl⟩:=he
    obtain⟨t',g,e⟩:=ih (h.kill hd).1 h1
    exact⟨t',by rw[g];rfl,(h.kill hd).trans e⟩
   ·cases hs
  ·rename_i hne heq
   injection heq with h1 h2
   subst h1;subst h2
   obtain⟨⟨ys',s1⟩,h1,he⟩:=Option.map_eq_some_iff.1 hs
   simp only[Prod.mk.injEq] at he
   obtain⟨rfl,rfl⟩:=he
   obtain⟨t',g,e⟩:=ih h h1
   exact⟨t',by rw[g];rfl,e⟩
theorem Ext.outOne (h:Ext D s t) {p:Nat} {ts:List (Option TypeId)} {m:Mode} {x y:V} (ho:s.out p ts m x=some (y,s')):∃t',t.out p ts m x=some (y,t')∧Ext2 D t s' t':=by
 unfold St.out at ho ⊢
 split at ho
 ·simp only[Option.some.injEq,Prod.mk.injEq] at ho;obtain⟨rfl,rfl⟩:=ho;exact⟨t,rfl,h.two⟩
 ·simp only[Option.some.injEq,Prod.mk.injEq] at ho;obtain⟨rfl,rfl⟩:=ho;exact⟨t,rfl,h.two⟩
 ·split at ho
  ·obtain⟨⟨ys,s1⟩,h1,ho⟩:=Option.bind_eq_some_iff.1 ho
   obtain⟨⟨t',g,e⟩,_⟩:=h.giveBox h1
   simp only at ho
   split at ho
   ·rename_i hl
    simp only[Option.some.injEq,Prod.mk.injEq] at ho
    obtain⟨rfl,rfl⟩:=ho
    exact⟨t',by rw[g,Option.bind_some];simp only[hl,if_true],e⟩
   ·cases ho
  ·cases ho
 ·split at ho
  ·obtain⟨⟨ys,s1⟩,h1,he⟩:=Option.map_eq_some_iff.1 ho
   simp only[Prod.mk.injEq] at he
   obtain⟨rfl,rfl⟩:=he
   obtain⟨t',g,e⟩:=Ext.outCells h h1
   exact⟨t',by rw[g];rfl,e⟩
  ·obtain⟨⟨ys,s1⟩,h1,ho⟩:=Option.bind_eq_some_iff.1 ho
   obtain⟨z,hz,he⟩:=Option.map_eq_some_iff.1 ho
   simp only[Prod.mk.injEq] at he
   obtain⟨rfl,rfl⟩:=he
   obtain⟨t',g,e⟩:=Ext.outCells h h1
   exact⟨t',by rw[g,Option.bind_some];simp only[hz];rfl,e⟩
theorem Ext.outs:∀{xs:List V} {s t:St} {p:Nat} {ts:List TypeId} {ms:List Mode} {ys:List V},Ext D s t→s.outs P p ts ms xs=some ys→t.outs P p ts ms xs=some ys:=by
 intro xs
 induction xs with
 | nil=>intro s t p ts ms ys h hs;exact hs
 | cons x xs ih=>
  intro s t p ts ms ys h hs
  simp only[St.outs] at hs ⊢
  obtain⟨⟨y1,s1⟩,h1,hs⟩:=Option.bind_eq_some_iff.1 hs
  obtain⟨zs,h2,rfl⟩:=Option.map_eq_some_iff.1 hs
  obtain⟨t1,g1,e1⟩:=h.outOne h1
  rw[g1]
  simp only[Option.bind_some,ih e1.1 h2];rfl
theorem ExtE.enter (h:ExtE D s t) (hD:∀id:Id,D id→64000≤id.2) {p:Nat} {m:Mode} {x:V} (he:s.enter p m x=some s'):∃t',t.enter p m x=some t'∧Ext3 D t s' t':=by
 have hnd:p < 1000→∀j,64*p≤j→j < 64*p+64→¬D (0,j):=fun hp j _ h2 hd=>by have:=hD _ hd;simp only at this;omega
 have one:∀{x y:V} {s1:St},p < 1000→s.takeOne 0 (64*p) x=some (y,s1)→∃t1,t.takeOne 0 (64*p) x=some (y,t1)∧Ext3 D t (s1.put (some p) y) (t1.put (some p) y):=by
  intro x y s1 hp h1
  obtain⟨t1,g,e⟩:=h.ext.takeOne (hnd hp) h1
  have henv:s1.env=s.env:=by
   have h0:Ext (fun _=>False) s ⟨s.env,s.heap,s.ep⟩:=⟨rfl,fun _ _=>rfl,fun _ h=>h.elim⟩
   obtain⟨t',k1,k2⟩:=h0.takeOne (fun _ _ _ h=>h.elim) h1
   have h3:(some (y,t'):Option (V×St))=some (y,s1):=by rw[←k1,←h1]
   simp only[Option.some.injEq,Prod.mk.injEq,true_and] at h3
   subst h3
   exact k2.2.2.1
  have e3:=h.of2 e henv
  exact⟨t1,g,e3.trans (e3.1.put _ _)⟩
 unfold St.enter at he ⊢
 split at he
 case isFalse=>cases he
 rename_i hp
 rw[if_pos hp]
 split at he
 ·simp only[Option.some.injEq] at he
  subst he
  exact⟨_,rfl,h.put _ _⟩
 ·split at he
  ·obtain⟨⟨y,s1⟩,h1,rfl⟩:=Option.map_eq_some_iff.1 he
   obtain⟨t1,g,e⟩:=one hp h1
   exact⟨_,by rw[g];rfl,e⟩
  ·cases he
 ·split at he
  ·cases he
  ·rename_i hne
   obtain⟨⟨y,s1⟩,h1,rfl⟩:=Option.map_eq_some_iff.1 he
   obtain⟨t1,g,e⟩:=one hp h1
   refine⟨_,?_,e⟩
   rw[g];rfl
 ·split at he
  ·cases he
  ·rename_i hne
   obtain⟨⟨y,s1⟩,h1,rfl⟩:=Option.map_eq_some_iff.1 he
   obtain⟨t1,g,e⟩:=one hp h1
   refine⟨_,?_,e⟩
   rw[g];rfl
theorem ExtE.enters (hD:∀id:Id,D id→64000≤id.2):∀{xs:List V} {s t s':St} {p:Nat} {ms:List Mode},ExtE D s t→s.enters p ms xs=some s'→∃t',t.enters p ms xs=some t'∧Ext3 D t s' t':=by
 intro xs
 induction xs with
 | nil=>
  intro s t s' p ms h hs
  simp only[St.enters,Option.some.injEq] at hs
  subst hs
  exact⟨t,rfl,h.three⟩
 | cons x xs ih=>
  intro s t s' p ms h hs
  simp only[St.enters] at hs ⊢
  obtain⟨s1,h1,hs⟩:=Option.bind_eq_some_iff.1 hs
  obtain⟨t1,g1,e1⟩:=h.enter hD h1
  obtain⟨t2,g2,e2⟩:=ih e1.1 hs
  exact⟨t2,by rw[g1];exact g2,e1.trans e2⟩
end
theorem En.slAny {w w':World} {ok ok':Nat→Prop} {ρ:Rho} {v:Value} {id:Id} {off len:Nat} (h:En w ok ρ v (.sl id off len)):En w' ok' ρ v (.sl id off len):=by
 cases h with
 | sl h hc=>exact .sl h hc
 | sle h=>exact .sle h
theorem En.ptrAny {w w':World} {ok ok':Nat→Prop} {ρ:Rho} {v:Value} {id:Id} {i off:Nat} (h:En w ok ρ v (.ptr id i off)):En w' ok' ρ v (.ptr id i off):=by
 generalize hq:V.ptr id i off=q at h
 cases h<;>cases hq
 rename_i h
 exact .ptr h
def Pl (ρ:Rho) (p:Nat) (m:Mode) (u:Value) (x:V):Prop:=
 match m with
 | .io=>∀w ok,En w ok ρ u (.ptr (0,64*p+63) 0 0)
 | .iov=>match x with
  | .agg cs=>∃us:Array Value,u=.agg us∧us.size=cs.length∧∀(j:Nat) (v:Value) (e:TypeId) (rows:List (List V)),us[j]?=some v→cs[j]?=some (.own e rows)→∀w ok,En w ok ρ v (.sl (0,64*p+j) 0 rows.length)
  | x=>∀(e:TypeId) (rows:List (List V)),x=.own e rows→∀w ok,En w ok ρ u (.sl (0,64*p) 0 rows.length)
 | _=>True
inductive PlL (ρ:Rho):Nat→List Mode→List Value→List V→Prop
 | nil {p:Nat} {ms:List Mode}:PlL ρ p ms [] []
 | cons {p:Nat} {ms:List Mode} {u:Value} {us:List Value} {x:V} {xs:List V} (h:Pl ρ p (ms.headD .rd) u x) (hs:PlL ρ (p+1) ms.tail us xs):PlL ρ p ms (u::us) (x::xs)
theorem Pl.ext {ρ ρ':Rho} (hρ:∀id i,ρ id=some i→ρ' id=some i) {p:Nat} {m:Mode} {u:Value} {x:V} (h:Pl ρ p m u x):Pl ρ' p m u x:=by
 cases m
 ·exact trivial
 ·exact fun w ok=>(h w ok).ext (fun _ h=>h) hρ
 ·exact trivial
 ·unfold Pl at h ⊢
  simp only at h ⊢
  split
  ·obtain⟨us,h1,h2,h3⟩:=h
   exact⟨us,h1,h2,fun j v e rows hv hc w ok=>(h3 j v e rows hv hc w ok).ext (fun _ h=>h) hρ⟩
  ·rename_i hne
   split at h
   ·rename_i cs;exact absurd rfl (hne cs)
   ·exact fun e rows he w ok=>(h e rows he w ok).ext (fun _ h=>h) hρ
theorem Zx6 {e:Nat}:∀{xs:List V} {s:St} {k:Nat} {ys:List V} {s':St},s.takeCells e k xs=some (ys,s')→∀(j:Nat) (e':TypeId) (rows:List (List V)),xs[j]?=some (.own e' rows)→ys[j]?=some (.sl (e,k+j) 0 rows.length):=by
 intro xs
 induction xs with
 | nil=>intro s k ys s' _ j e' rows h;simp at h
 | cons x xs ih=>
  intro s k ys s' hs j e' rows h
  simp only[St.takeCells] at hs
  obtain⟨⟨y1,s1⟩,h1,hs⟩:=Option.bind_eq_some_iff.1 hs
  obtain⟨⟨y2,s2⟩,h2,hs⟩:=Option.map_eq_some_iff.1 hs
  simp only[Prod.mk.injEq] at hs
  obtain⟨rfl,rfl⟩:=hs
  cases j with
  | zero=>
   have:x=.own e' rows:=by simpa using h
   subst this
   simp only[St.takeCell,Option.some.injEq,Prod.mk.injEq] at h1
   simp[h1.1]
  | succ j=>
   have:=ih h2 j e' rows (by simpa using h)
   rw[List.getElem?_cons_succ,this]
   congr 2
   simp only[V.sl.injEq,Prod.mk.injEq,true_and,and_true]
   omega
section
variable {P:Program} {B:Nat} {io:Nat→Prop} {w w':World} {tmps:Array Value} {s s':St} {ρ ρ':Rho} {F F':Id→List Nat} {fl fl':List Nat} {ok ok':Nat→Prop}
structure Came (P:Program) (B:Nat) (io:Nat→Prop) (w:World) (tmps:Array Value) (s:St) (ρ:Rho) (fl:List Nat) (ok:Nat→Prop) (lo hi:Nat) (s':St) (ρ':Rho) (F':Id→List Nat):Prop where
 rel:RelG P B io w tmps s' ρ' F' fl ok
 ext:∀id i,ρ id=some i→ρ' id=some i
 dom:∀id,(ρ' id).isSome=true→(ρ id).isSome=true∨(id.1=0∧lo≤id.2∧id.2 < hi)
 ep:s'.ep=s.ep
 heap:∀id:Id,¬(id.1=0∧lo≤id.2∧id.2 < hi)→s'.heap id=s.heap id
 tops:∀g,Ev.tops s' ρ' g→Ev.tops s ρ g∨io g
theorem Zy5 {d:Option Tmp} {v:V} {g:Nat} (h:tops (s.put d v) ρ g):tops s ρ g:=by
 obtain⟨id,b,o,c,sz,h1,h2,h3⟩:=h
 rw[Zhb] at h1
 exact⟨id,b,o,c,sz,h1,h2,h3⟩
theorem Z81 {fp:List Nat} (h:RelG P B io w tmps s ρ F (fp++fl) ok) {p:Nat} {m:Mode} {u:Value} {x:V} (ha:ArgR P w ok io m u x fp) (hp:tmps[p]?=some u) (hep:s.ep=0) (hnew:∀j,64*p≤j→j < 64*p+64→ρ (0,j)=none∧s.heap (0,j)=none) (he:s.enter p m x=some s'):
  ∃ρ' F',Came P B io w tmps s ρ fl ok (64*p) (64*p+64) s' ρ' F'∧Pl ρ' p m u x:=by
 have fin:∀{y:V} {s1:St} {z:V} ,GivO P w ok io u z fp→s.takeOne 0 (64*p) z=some (y,s1)→∃ρ' F',Came P B io w tmps s ρ fl ok (64*p) (64*p+64) (s1.put (some p) y) ρ' F'∧En w ok ρ' u y:=by
  intro y s1 z hg ht
  obtain⟨ρ',F',t,en⟩:=Zn6 h hg (fun g hg=>.inl hg) (e:=0) (by omega) hnew ht
  exact⟨ρ',F',⟨t.rel.put hp en,t.ext,t.dom,by rw[J7];exact t.ep,fun id hid=>by rw[Zhb];exact t.heap id hid,fun g hg=>t.tops g (Zy5 hg)⟩,en⟩
 unfold St.enter at he
 split at he
 case isFalse=>cases he
 split at he
 ·simp only[Option.some.injEq] at he
  subst he
  obtain⟨h1,rfl⟩:=ha
  exact⟨ρ,F,⟨h.put hp (h1 ρ),fun _ _ h=>h,fun _ h=>.inl h,J7 _ _ _,fun id _=>by rw[Zhb],fun g hg=>.inl (Zy5 hg)⟩,trivial⟩
 ·split at he
  ·rename_i cs
   obtain⟨⟨y,s1⟩,h1,rfl⟩:=Option.map_eq_some_iff.1 he
   obtain⟨cs',hcs,hg⟩:=ha
   injection hcs with hcs
   subst hcs
   obtain⟨ρ',F',h2,h3⟩:=fin hg h1
   refine⟨ρ',F',h2,fun w' ok'=>?_⟩
   simp only[St.takeOne] at h1
   split at h1
   ·obtain⟨_,_,he⟩:=Option.map_eq_some_iff.1 h1
    simp only[Prod.mk.injEq] at he
    rw[←he.1] at h3
    exact h3.ptrAny
   ·cases h1
  ·cases he
 ·split at he
  ·cases he
  ·obtain⟨⟨y,s1⟩,h1,rfl⟩:=Option.map_eq_some_iff.1 he
   obtain⟨ρ',F',h2,h3⟩:=fin ha.2 h1
   exact⟨ρ',F',h2,trivial⟩
 ·split at he
  ·cases he
  ·obtain⟨⟨y,s1⟩,h1,rfl⟩:=Option.map_eq_some_iff.1 he
   obtain⟨ρ',F',h2,h3⟩:=fin ha.2 h1
   refine⟨ρ',F',h2,?_⟩
   unfold Pl
   simp only
   split
   ·rename_i cs
    obtain⟨us,rfl,hgl⟩:=ha.2
    refine⟨us,rfl,by have:=hgl.length;simpa using this,fun j v e rows hv hc w' ok'=>?_⟩
    simp only[St.takeOne] at h1
    split at h1
    ·obtain⟨⟨ys,s2⟩,h4,he⟩:=Option.map_eq_some_iff.1 h1
     simp only[Prod.mk.injEq] at he
     rw[←he.1] at h3
     cases h3 with
     | agg hl hcc hr=>exact (hr j v _ hv (Zx6 h4 j e rows hc)).slAny
    ·cases h1
   ·rename_i hne
    rintro e rows rfl w' ok'
    simp only[St.takeOne,St.takeCell,Option.some.injEq,Prod.mk.injEq] at h1
    rw[←h1.1] at h3
    exact h3.slAny
theorem Z6k:∀(xs:List V) {us:List Value} {p:Nat} {ms:List Mode} {s s':St} {ρ:Rho} {F:Id→List Nat} {G:List Nat},RelG P B io w tmps s ρ F (G++fl) ok→ArgsR P w ok io ms us xs G→(∀(j:Nat) (u:Value),us[j]?=some u→tmps[p+j]?=some u)→s.ep=0→
  (∀j,64*p≤j→j < 64000→ρ (0,j)=none∧s.heap (0,j)=none)→s.enters p ms xs=some s'→∃ρ' F',Came P B io w tmps s ρ fl ok (64*p) 64000 s' ρ' F'∧PlL ρ' p ms us xs:=by
 intro xs
 induction xs with
 | nil=>
  intro us p ms s s' ρ F G h ha ht hep hnew he
  cases ha
  simp only[St.enters,Option.some.injEq] at he
  subst he
  exact⟨ρ,F,⟨h,fun _ _ h=>h,fun _ h=>.inl h,rfl,fun _ _=>rfl,fun _ h=>.inl h⟩,.nil⟩
 | cons x xs ih=>
  intro us p ms s s' ρ F G h ha ht hep hnew he
  cases ha with
  | @cons _ u us _ _ f1 f2 h1 hs=>
   simp only[St.enters] at he
   obtain⟨s1,e1,he⟩:=Option.bind_eq_some_iff.1 he
   have hp:p < 1000:=by
    unfold St.enter at e1
    split at e1
    ·assumption
    ·cases e1
   obtain⟨ρ1,F1,c1,p1⟩:=Z81 (fl:=f2++fl) (by rw[←List.append_assoc];exact h) h1 (by simpa using ht 0 u rfl) hep (fun j h1 h2=>hnew j h1 (by omega)) e1
   obtain⟨ρ2,F2,c2,p2⟩:=ih c1.rel hs (fun j v hv=>by have:=ht (j+1) v (by simpa using hv);rw[show p+1+j=p+(j+1) by omega];exact this) (by rw[c1.ep];exact hep) (fun j h1 h2=>by
    obtain⟨a1,a2⟩:=hnew j (by omega) h2
    refine⟨?_,by rw[c1.heap _ (fun hh=>by have:=hh.2.2;simp only at this;omega)];exact a2⟩
    cases hr:ρ1 (0,j) with
    | none=>rfl
    | some i=>
     rcases c1.dom (0,j) (by rw[hr];rfl) with hh|hh
     ·rw[a1] at hh;cases hh
     ·have:=hh.2.2;simp only at this;omega) he
   refine⟨ρ2,F2,⟨c2.rel,fun id i hi=>c2.ext id i (c1.ext id i hi),fun id hi=>?_,c2.ep.trans c1.ep,fun id hid=>?_,fun g hg=>?_⟩,.cons (p1.ext c2.ext) p2⟩
   ·rcases c2.dom id hi with h3|h3
    ·rcases c1.dom id h3 with h4|h4
     ·exact .inl h4
     ·exact .inr ⟨h4.1,h4.2.1,by omega⟩
    ·exact .inr ⟨h3.1,by omega,h3.2.2⟩
   ·rw[c2.heap id (fun hh=>hid ⟨hh.1,by omega,hh.2.2⟩)]
    exact c1.heap id (fun hh=>hid ⟨hh.1,hh.2.1,by omega⟩)
   ·rcases c2.tops g hg with h3|h3
    ·exact c1.tops g h3
    ·exact .inr h3
end
inductive GivOL (P:Program) (w:World) (ok top:Nat→Prop):List Value→List V→List Nat→Prop
 | nil:GivOL P w ok top [] [] []
 | cons {v:Value} {x:V} {vs:List Value} {xs:List V} {f1 f2:List Nat} (h:GivO P w ok top v x f1) (hs:GivOL P w ok top vs xs f2):GivOL P w ok top (v::vs) (x::xs) (f1++f2)
theorem GivOL.top {P:Program} {w:World} {ok top top':Nat→Prop} {v:List Value} {x:List V} {fp:List Nat} (h:GivOL P w ok top v x fp) (ht:∀g,top g→top' g):GivOL P w ok top' v x fp:=by
 induction h with
 | nil=>exact .nil
 | cons h _ ih=>exact .cons (h.top ht) ih
inductive OutL (P:Program) (w:World) (top:Nat→Prop):List Value→List V→List V→List Nat→Prop
 | nil:OutL P w top [] [] [] []
 | own {u:Value} {e:TypeId} {rows rows':List (List V)} {us:List Value} {xs ns:List V} {f1 f2:List Nat} (h:OwT P w e u rows' f1) (ht:∀g,f1.head?=some g→top g) (hs:OutL P w top us xs ns f2):OutL P w top (u::us) (.own e rows::xs) (.own e rows'::ns) (f1++f2)
 | skip {u:Value} {x:V} {us:List Value} {xs ns:List V} {f:List Nat} (hx:∀e rows,x≠.own e rows) (hs:OutL P w top us xs ns f):OutL P w top (u::us) (x::xs) (.undef::ns) f
theorem OutL.top {P:Program} {w:World} {top top':Nat→Prop} {us:List Value} {xs ns:List V} {fp:List Nat} (h:OutL P w top us xs ns fp) (ht:∀g,top g→top' g):OutL P w top' us xs ns fp:=by
 induction h with
 | nil=>exact .nil
 | own h k _ ih=>exact .own h (fun g hg=>ht g (k g hg)) ih
 | skip h _ ih=>exact .skip h ih
def OutR (P:Program) (w:World) (ok top:Nat→Prop) (m:Mode) (u:Value) (x o:V) (fp:List Nat):Prop:=
 match m with
 | .rd|.mv=>fp=[]
 | .io=>∃cs cs',x=.agg cs∧o=.agg cs'∧cs'.length=cs.length∧GivO P w ok top u (.obx cs') fp
 | .iov=>(∃(us:Array Value) (cs ns:List V),x=.agg cs∧u=.agg us∧o=.agg ns∧OutL P w top us.toList cs ns fp)∨((∀cs,x≠.agg cs)∧OutL P w top [u] [x] [o] fp)
theorem OutR.top {P:Program} {w:World} {ok top top':Nat→Prop} {m:Mode} {u:Value} {x o:V} {fp:List Nat} (h:OutR P w ok top m u x o fp) (ht:∀g,top g→top' g):OutR P w ok top' m u x o fp:=by
 cases m
 ·exact h
 ·obtain⟨cs,cs',h1,h2,h3,h4⟩:=h;exact⟨cs,cs',h1,h2,h3,h4.top ht⟩
 ·exact h
 ·rcases h with⟨us,cs,ns,h1,h2,h3,h4⟩|⟨h1,h2⟩
  ·exact .inl ⟨us,cs,ns,h1,h2,h3,h4.top ht⟩
  ·exact .inr ⟨h1,h2.top ht⟩
inductive OutsR (P:Program) (w:World) (ok top:Nat→Prop):List Mode→List Value→List V→List V→List Nat→Prop
 | nil {ms:List Mode}:OutsR P w ok top ms [] [] [] []
 | cons {ms:List Mode} {u:Value} {us:List Value} {x o:V} {xs os:List V} {f1 f2:List Nat} (h:OutR P w ok top (ms.headD .rd) u x o f1) (hs:OutsR P w ok top ms.tail us xs os f2):OutsR P w ok top ms (u::us) (x::xs) (o::os) (f1++f2)
theorem OutsR.top {P:Program} {w:World} {ok top top':Nat→Prop} {ms:List Mode} {us:List Value} {xs os:List V} {fp:List Nat} (h:OutsR P w ok top ms us xs os fp) (ht:∀g,top g→top' g):OutsR P w ok top' ms us xs os fp:=by
 induction h with
 | nil=>exact .nil
 | cons h _ ih=>exact .cons (h.top ht) ih
section
variable {P:Program} {B:Nat} {io:Nat→Prop} {w w':World} {tmps:Array Value} {s s':St} {ρ ρ':Rho} {F F':Id→List Nat} {fl fl':List Nat} {ok ok':Nat→Prop}
theorem Z45 (h0:Rel P B io w tmps s ρ F fl) {s1 s2:St} {fl1:List Nat} (h:Rel P B io w tmps s1 ρ F fl1) (hless:Less s s1) {ts:List (Option TypeId)} {u:Value} {x y:V} (hu:En w (okS s ρ w) ρ u x) (hl:s1.liftOne ts x=some (y,s2)):
  ∃fp,Rel P B io w tmps s2 ρ F (fp++fl1)∧GivO P w (okS s ρ w) (Wd s1 s2 ρ F) u y fp∧Less s1 s2:=by
 have hok:∀g,okS s ρ w g→okS s1 ρ w g:=fun g hg=>Zkl hless hg
 unfold St.liftOne at hl
 split at hl
 ·rename_i cs
  exact Zn7 h hu hok (show s1.giveArg ts (.agg cs)=some (y,s2) from hl)
 ·rename_i id
  obtain⟨⟨cs,s4⟩,h3,he⟩:=Option.map_eq_some_iff.1 hl
  simp only[Prod.mk.injEq] at he
  obtain⟨rfl,rfl⟩:=he
  obtain⟨fp,a,b,c,_⟩:=Zog h hu hok (fun b row hb=>h0.boxCellsEn b row (hless.sub id b hb)) h3
  exact⟨fp,a,b,c⟩
 ·obtain⟨fp,a,b,c⟩:=Zm5 h hu hok hl
  refine⟨fp,a,?_,c⟩
  cases b with
  | lit h=>exact .lit h
  | tr h=>exact .tr h
  | own h k=>exact .own h k
theorem Z6g (h0:Rel P B io w tmps s ρ F fl):∀(xs:List V) {us:List Value} {ts:List TypeId} {s1 s2:St} {fl1:List Nat} {ys:List V},Rel P B io w tmps s1 ρ F fl1→Less s s1→us.length=xs.length→
  (∀(j:Nat) (u:Value) (x:V),us[j]?=some u→xs[j]?=some x→En w (okS s ρ w) ρ u x)→s1.liftAll P ts xs=some (ys,s2)→∃fp,Rel P B io w tmps s2 ρ F (fp++fl1)∧GivOL P w (okS s ρ w) (Wd s1 s2 ρ F) us ys fp∧Less s1 s2:=by
 intro xs
 induction xs with
 | nil=>
  intro us ts s1 s2 fl1 ys h hless hl hen hg
  have:us=[]:=List.eq_nil_of_length_eq_zero (by simpa using hl)
  subst this
  simp only[St.liftAll,Option.some.injEq,Prod.mk.injEq] at hg
  obtain⟨rfl,rfl⟩:=hg
  exact⟨[],h,.nil,.refl _⟩
 | cons x xs ih=>
  intro us ts s1 s2 fl1 ys h hless hl hen hg
  match us,hl with
  | u::us,hl=>
   simp only[St.liftAll] at hg
   obtain⟨⟨y,s3⟩,h1,hg⟩:=Option.bind_eq_some_iff.1 hg
   obtain⟨⟨zs,s4⟩,h2,hg⟩:=Option.map_eq_some_iff.1 hg
   simp only[Prod.mk.injEq] at hg
   obtain⟨rfl,rfl⟩:=hg
   simp only at h2
   obtain⟨f1,r1,a1,l1⟩:=Z45 h0 h hless (hen 0 u x rfl rfl) h1
   obtain⟨f2,r2,a2,l2⟩:=ih r1 (hless.trans l1) (by simpa using hl) (fun j v z hv hz=>hen (j+1) v z (by simpa using hv) (by simpa using hz)) h2
   refine⟨f1++f2,r2.perm ?_,.cons (a1.top fun g hg=>hg.left l2) (a2.top fun g hg=>hg.right l1),l1.trans l2⟩
   rw[List.append_assoc]
   exact (List.perm_append_comm_assoc _ _ _)
theorem Zr6 {p:Nat}:∀(xs:List V) {us:List Value} {k:Nat} {s1 s2:St} {fl1:List Nat} {ys:List V},Rel P B io w tmps s1 ρ F fl1→us.length=xs.length→
  (∀(j:Nat) (v:Value) (e:TypeId) (rows:List (List V)),us[j]?=some v→xs[j]?=some (.own e rows)→∀w ok,En w ok ρ v (.sl (0,64*p+(k+j)) 0 rows.length))→s1.outCells p k xs=some (ys,s2)→
  ∃fp,Rel P B io w tmps s2 ρ F (fp++fl1)∧OutL P w (Wd s1 s2 ρ F) us xs ys fp∧Less s1 s2:=by
 intro xs
 induction xs with
 | nil=>
  intro us k s1 s2 fl1 ys h hl hen hg
  have:us=[]:=List.eq_nil_of_length_eq_zero (by simpa using hl)
  subst this
  simp only[St.outCells,Option.some.injEq,Prod.mk.injEq] at hg
  obtain⟨rfl,rfl⟩:=hg
  exact⟨[],h,.nil,.refl _⟩
 | cons x xs ih=>
  intro us k s1 s2 fl1 ys h hl hen hg
  match us,hl with
  | u::us,hl=>
   have hen':∀(j:Nat) (v:Value) (e:TypeId) (rows:List (List V)),us[j]?=some v→xs[j]?=some (.own e rows)→∀w ok,En w ok ρ v (.sl (0,64*p+(k+1+j)) 0 rows.length):=fun j v e rows hv hx w' ok'=>by
    have:=hen (j+1) v e rows (by simpa using hv) (by simpa using hx) w' ok'
    rw[show k+1+j=k+(j+1) by omega];exact this
   unfold St.outCells at hg
   split at hg
   ·rename_i heq;cases heq
   ·rename_i heq
    injection heq with e1 e2
    subst e1;subst e2
    obtain⟨⟨e',rows'⟩,hw,hg⟩:=Option.bind_eq_some_iff.1 hg
    simp only at hg
    split at hg
    ·rename_i hee
     obtain⟨⟨zs,s3⟩,h2,he⟩:=Option.map_eq_some_iff.1 hg
     simp only[Prod.mk.injEq] at he
     obtain⟨rfl,rfl⟩:=he
     subst hee
     have hu:=hen 0 u _ _ rfl rfl w (okS s1 ρ w)
     obtain⟨f1,r1,o1,hh⟩:=h.whole2 (by simpa using hu) hw
     obtain⟨f2,r2,a2,l2⟩:=ih r1 (by simpa using hl) hen' h2
     refine⟨f1++f2,r2.perm ?_,.own o1 (fun g hg=>?_) (a2.top fun g hg=>hg.right (.kill s1 _)),(Less.kill s1 _).trans l2⟩
     ·rw[List.append_assoc]
      exact (List.perm_append_comm_assoc _ _ _)
     ·unfold St.whole at hw
      obtain⟨b,hb,hw⟩:=Option.bind_eq_some_iff.1 hw
      split at hw
      ·rename_i hc
       exact⟨_,b,hb,hc.2.1,l2.none Y6,(hh g hg).1,(hh g hg).2⟩
      ·cases hw
    ·cases hg
   ·rename_i hne heq
    injection heq with e1 e2
    subst e1;subst e2
    obtain⟨⟨zs,s3⟩,h2,he⟩:=Option.map_eq_some_iff.1 hg
    simp only[Prod.mk.injEq] at he
    obtain⟨rfl,rfl⟩:=he
    obtain⟨f2,r2,a2,l2⟩:=ih h (by simpa using hl) hen' h2
    exact⟨f2,r2,.skip (fun e rows hx=>hne e rows hx) a2,l2⟩
theorem Yb3 {D:Id→Prop} (h0:Rel P B io w tmps s ρ F fl):∀(xs:List V) {us:List Value} {p:Nat} {ts:List TypeId} {ms:List Mode} {sa s1:St} {fl1:List Nat} {ys:List V},Rel P B io w tmps s1 ρ F fl1→Less s s1→PlL ρ p ms us xs→
  Ext D sa s1→sa.outs P p ts ms xs=some ys→s1.outs P p ts ms xs=some ys→∃s2 fp,(∀id,D id→s2.heap id=s1.heap id)∧Rel P B io w tmps s2 ρ F (fp++fl1)∧OutsR P w (okS s ρ w) (Wd s1 s2 ρ F) ms us xs ys fp∧Less s1 s2:=by
 intro xs
 induction xs with
 | nil=>
  intro us p ts ms sa s1 fl1 ys h hless hpl hx hga hg
  cases hpl
  simp only[St.outs,Option.some.injEq] at hg
  subst hg
  exact⟨s1,[],fun _ _=>rfl,h,.nil,.refl _⟩
 | cons x xs ih=>
  intro us p ts ms sa s1 fl1 ys h hless hpl hx hga hg
  cases hpl with
  | @cons _ _ u us _ _ hp hps=>
   simp only[St.outs] at hg hga
   obtain⟨⟨y,s3⟩,h1,hg⟩:=Option.bind_eq_some_iff.1 hg
   obtain⟨zs,h2,rfl⟩:=Option.map_eq_some_iff.1 hg
   obtain⟨⟨ya,sa3⟩,ha1,hga⟩:=Option.bind_eq_some_iff.1 hga
   obtain⟨zsa,ha2,hzs⟩:=Option.map_eq_some_iff.1 hga
   simp only at h2 ha2
   injection hzs with hya hzs
   have hya:=hya.symm;have hzs:=hzs.symm;subst hya;subst hzs
   obtain⟨s3',k1,k2⟩:=hx.outOne ha1
   rw[h1] at k1
   simp only[Option.some.injEq,Prod.mk.injEq,true_and] at k1
   subst k1
   have hok:∀g,okS s ρ w g→okS s1 ρ w g:=fun g hg=>Zkl hless hg
   have one:∃fp,Rel P B io w tmps s3 ρ F (fp++fl1)∧OutR P w (okS s ρ w) (Wd s1 s3 ρ F) (ms.headD .rd) u x y fp∧Less s1 s3:=by
    unfold St.out at h1
    split at h1
    ·rename_i hm
     simp only[Option.some.injEq,Prod.mk.injEq] at h1
     obtain⟨rfl,rfl⟩:=h1
     rw[hm]
     exact⟨[],h,rfl,.refl _⟩
    ·rename_i hm
     simp only[Option.some.injEq,Prod.mk.injEq] at h1
     obtain⟨rfl,rfl⟩:=h1
     rw[hm]
     exact⟨[],h,rfl,.refl _⟩
    ·rename_i hm
     rw[hm] at hp ⊢
     split at h1
     ·rename_i cs
      obtain⟨⟨cs',s4⟩,h3,h1⟩:=Option.bind_eq_some_iff.1 h1
      simp only at h1
      split at h1
      ·rename_i hlen
       simp only[Option.some.injEq,Prod.mk.injEq] at h1
       obtain⟨rfl,rfl⟩:=h1
       obtain⟨fp,a,b,c,_⟩:=Zog h (hp w (okS s ρ w)) hok (fun b row hb=>h0.boxCellsEn b row (hless.sub _ b hb)) h3
       exact⟨fp,a,⟨cs,cs',rfl,rfl,hlen,b⟩,c⟩
      ·cases h1
     ·cases h1
    ·rename_i hm
     rw[hm] at hp ⊢
     unfold Pl at hp
     simp only at hp
     split at h1
     ·rename_i cs
      obtain⟨⟨ns,s4⟩,h3,he⟩:=Option.map_eq_some_iff.1 h1
      simp only[Prod.mk.injEq] at he
      obtain⟨rfl,rfl⟩:=he
      obtain⟨vs,rfl,hsz,hen⟩:=hp
      obtain⟨fp,a,b,c⟩:=Zr6 (p:=p) cs (us:=vs.toList) (k:=0) h (by simpa using hsz) (fun j v e rows hv hc w' ok'=>by
       have:=hen j v e rows (by simpa using hv) hc w' ok'
       rw[Nat.zero_add];exact this) h3
      exact⟨fp,a,.inl ⟨vs,cs,ns,rfl,rfl,rfl,b⟩,c⟩
     ·rename_i hne
      obtain⟨⟨ns,s4⟩,h3,h1⟩:=Option.bind_eq_some_iff.1 h1
      obtain⟨z,hz,he⟩:=Option.map_eq_some_iff.1 h1
      simp only[Prod.mk.injEq] at he
      obtain⟨rfl,rfl⟩:=he
      split at hp
      ·rename_i cs;exact absurd rfl (hne cs)
      ·obtain⟨fp,a,b,c⟩:=Zr6 (p:=p) [x] (us:=[u]) (k:=0) h rfl (fun j v e rows hv hc w' ok'=>by
        cases j with
        | zero=>
         have e1:u=v:=by simpa using hv
         have e2:x=.own e rows:=by simpa using hc
         subst e1
         have:=hp e rows e2 w' ok'
         simpa using this
        | succ j=>simp at hc) h3
       have hns:ns=[z]:=by
        cases b with
        | own _ _ hs=>cases hs;simp at hz;rw[hz]
        | skip _ hs=>cases hs;simp at hz;rw[hz]
       subst hns
       exact⟨fp,a,.inr ⟨hne,b⟩,c⟩
   obtain⟨f1,r1,a1,l1⟩:=one
   obtain⟨s5,f2,d2,r2,a2,l2⟩:=ih r1 (hless.trans l1) hps k2.1 ha2 h2
   refine⟨s5,f1++f2,fun id hd=>(d2 id hd).trans (k2.2.1 id hd),r2.perm ?_,.cons (a1.top fun g hg=>hg.left l2) (a2.top fun g hg=>hg.right l1),l1.trans l2⟩
   rw[List.append_assoc]
   exact (List.perm_append_comm_assoc _ _ _)
theorem Z1h {t:TypeId} {g n:Nat} {us:List Value} {cs:List V} {v:V} (hl:us.length=Zf P t) (hcl:us.length=cs.length) (hce:∀x∈cs,cellish x=true)
  (hc:∀j u,us[j]?=some u→w.cell? ⟨g,n+j,none⟩=some u) (he:Zbk P t cs=some v) (hen:∀(j:Nat) (u:Value) (x:V),us[j]?=some u→cs[j]?=some x→En w (okS s ρ w) ρ u x):
  ∃u,(loadVar t ⟨g,n,none⟩).run P w=.ok u w∧En w (okS s ρ w) ρ u v:=by
 unfold Zbk at he
 split at he
 ·rename_i hsome
  obtain⟨d,hu⟩:=Option.isSome_iff_exists.1 hsome
  split at he
  ·rename_i hagg
   simp only[Option.some.injEq] at he
   subst he
   obtain⟨ti,hti⟩:∃ti,P.info? t=some ti:=by
    unfold Program.underlying at hu
    split at hu
    ·rename_i h;exact⟨_,h⟩
    ·rename_i h;exact⟨_,h⟩
    ·cases hu
   have hsz:ti.size=us.length:=by rw[hl];simp[Zf,Program.cellsOf,hti]
   have hrun:=run_loadCells_list (P:=P) (w:=w) ⟨g,n,none⟩ us (fun j u hj=>by rw[Qv];exact hc j u hj)
   rw[←hsz] at hrun
   refine⟨.agg us.toArray,?_,(.agg (by simpa using hcl) hce (fun j u x hj hx=>hen j u x (by simpa using hj) hx))⟩
   cases d<;>simp[aggT,hu] at hagg<;>simp[loadVar,isAgg,underlying,hu,Go.sizeOf,typeInfo,hti,hrun]
  ·rename_i hagg
   split at he
   ·rename_i y
    simp only[Option.some.injEq] at he
    subst he
    match us,hcl with
    | [u],_=>
     refine⟨u,?_,hen 0 u y rfl rfl⟩
     have h0:=hc 0 u rfl
     simp only[Nat.add_zero] at h0
     cases d<;>simp[aggT,hu] at hagg<;>simp[loadVar,isAgg,underlying,hu,load,Sem.run,h0]
   ·cases he
 ·cases he
def resF (tmps:Array Value):ResultVar→Sem Value
 | .tmp t=>pure (tmps.getD t undef)
 | .cell a t=>do loadVar t (←asAddr (tmps.getD a undef))
theorem Ybj (h:Rel P B io w tmps s ρ F fl):∀(l:List ResultVar) {vs:List V},resV P s l=some vs→∃us:List Value,us.length=vs.length∧
  (l.mapM (resF tmps)).run P w=.ok us w∧∀(j:Nat) (u:Value) (x:V),us[j]?=some u→vs[j]?=some x→En w (okS s ρ w) ρ u x:=by
 intro l
 induction l with
 | nil=>
  intro vs hr
  simp only[resV,Option.some.injEq] at hr
  subst hr
  exact⟨[],rfl,by simp,fun j u x hu=>by simp at hu⟩
 | cons r l ih=>
  intro vs hr
  have tm:∀t,s.env t≠.undef→t < tmps.size:=fun t hne=>by
   rcases Nat.lt_or_ge t tmps.size with h'|h'
   ·exact h'
   ·exact absurd (h.out t h') hne
  have fin:∀{u:Value} {x:V} {ys:List V},(resF tmps r).run P w=.ok u w→En w (okS s ρ w) ρ u x→resV P s l=some ys→x::ys=vs→
    ∃us:List Value,us.length=vs.length∧((r::l).mapM (resF tmps)).run P w=.ok us w∧∀(j:Nat) (u:Value) (x:V),us[j]?=some u→vs[j]?=some x→En w (okS s ρ w) ρ u x:=by
   rintro u x ys hrun hen hr2 rfl
   obtain⟨us,h1,h2,h3⟩:=ih hr2
   refine⟨u::us,by simp[h1],?_,fun j v z hv hz=>?_⟩
   ·rw[List.mapM_cons]
    simp only[Sem.run_bind,hrun,h2,Result.andThen_ok,Sem.run_pure]
   ·cases j with
    | zero=>
     have e1:u=v:=by simpa using hv
     have e2:x=z:=by simpa using hz
     subst e1;subst e2;exact hen
    | succ j=>exact h3 j v z (by simpa using hv) (by simpa using hz)
  cases r with
  | tmp t=>
   simp only[resV] at hr
   split at hr
   ·cases hr
   ·rename_i hne
    obtain⟨ys,h1,h2⟩:=Option.map_eq_some_iff.1 hr
    have hlt:=tm t hne
    have hv:tmps[t]?=some tmps[t]:=Array.getElem?_eq_getElem hlt
    exact fin (u:=tmps.getD t undef) (by simp[resF]) (by rw[Array.getD_eq_getD_getElem?,hv];exact h.env t _ hv) h1 h2
  | cell ad t=>
   simp only[resV] at hr
   split at hr
   ·rename_i i j n hx
    obtain⟨b,hb,hr⟩:=Option.bind_eq_some_iff.1 hr
    obtain⟨row,hrow,hr⟩:=Option.bind_eq_some_iff.1 hr
    split at hr
    ·rename_i hlen
     obtain⟨x,hxe,hr⟩:=Option.bind_eq_some_iff.1 hr
     obtain⟨ys,h1,h2⟩:=Option.map_eq_some_iff.1 hr
     have hlt:=tm ad (by rw[hx];simp)
     have hv:tmps[ad]?=some tmps[ad]:=Array.getElem?_eq_getElem hlt
     have hen:=h.env ad _ hv
     rw[hx] at hen
     generalize hq:tmps[ad]=q at hen hv
     generalize hpp:V.ptr i j n=pp at hen
     cases hen<;>cases hpp
     rename_i g o' c sz hρ
     have cell:∀(m:Nat) (y:V),row[m]?=some y→∃u,w.cell? ⟨g,o'+j*sz+m,none⟩=some u∧En w (okS s ρ w) ρ u y∧cellish y=true:=fun m y hy=>by
      obtain⟨u,k1,k2,k3⟩:=h.cell hb hρ hrow hy
      cases hbox:b.box with
      | true=>exact⟨u,k1,k2 hbox,h.boxCells hb hbox hrow y (List.mem_of_getElem? hy)⟩
      | false=>exact⟨u,k1,(k3 hbox).en,(k3 hbox).cellish⟩
     have each:∀m,∃u:Value,∀y,row[m]?=some y→w.cell? ⟨g,o'+j*sz+m,none⟩=some u∧En w (okS s ρ w) ρ u y:=fun m=>by
      cases hm:row[m]? with
      | none=>exact⟨undef,fun y hy=>by cases hy⟩
      | some z=>
       obtain⟨u,k1,k2,_⟩:=cell m z hm
       exact⟨u,fun y hy=>by injection hy with hy;subst hy;exact⟨k1,k2⟩⟩
     obtain⟨uf,huf⟩:=Classical.axiomOfChoice each
     obtain⟨u,hrun,hue⟩:=Z1h (P:=P) (s:=s) (ρ:=ρ) (w:=w) (t:=t) (g:=g) (n:=o'+j*sz+n) (us:=(List.range (Zf P t)).map fun m=>uf (n+m)) (cs:=(row.drop n).take (Zf P t)) (by simp) (by simp;omega) (fun x hx=>by
      obtain⟨m,hm⟩:=List.getElem?_of_mem hx
      rw[List.getElem?_take] at hm
      split at hm
      ·rw[List.getElem?_drop] at hm
       obtain⟨_,_,_,k4⟩:=cell _ x hm
       exact k4
      ·cases hm) (fun m u hm=>by
      simp only[List.getElem?_map,Option.map_eq_some_iff] at hm
      obtain⟨m',hm',rfl⟩:=hm
      obtain⟨hlt',rfl⟩:=List.getElem?_eq_some_iff.1 hm'
      simp only[List.length_range,List.getElem_range] at hlt' ⊢
      rw[Nat.add_assoc]
      exact (huf (n+m) _ (List.getElem?_eq_getElem (by omega))).1) hxe (fun m u y hm hy=>by
      simp only[List.getElem?_map,Option.map_eq_some_iff] at hm
      obtain⟨m',hm',rfl⟩:=hm
      obtain⟨hlt',rfl⟩:=List.getElem?_eq_some_iff.1 hm'
      simp only[List.length_range,List.getElem_range] at hlt' ⊢
      rw[List.getElem?_take,if_pos hlt',List.getElem?_drop] at hy
      exact (huf (n+m) y hy).2)
     refine fin (u:=u) ?_ hue h1 h2
     simp only[resF,Sem.run_bind]
     rw[Array.getD_eq_getD_getElem?,hv]
     simp[asAddr,hrun]
    ·cases hr
   ·cases hr
end
def ResR (P:Program) (w:World) (ok top:Nat→Prop) (v:Value):V→List Nat→Prop
 | .tup rs,fp=>∃us:Array Value,v=.tuple us∧GivOL P w ok top us.toList rs fp
 | x,fp=>GivO P w ok top v x fp
structure Done (P:Program) (ms:List Mode) (w:World) (us:Array Value) (xs:List V) (G:List Nat) (T X:Nat→Prop) (r:V) (os:List V) (v:Value) (w':World):Prop where
 left:Left w.heap.size T w w'
 ex:∃(ok' top':Nat→Prop) (fr fo:List Nat),ResR P w' ok' top' v r fr∧OutsR P w' ok' top' ms us.toList xs os fo∧(fr++fo).Nodup∧(∀g∈fr++fo,g < w'.heap.size∧(g∈G∨w.heap.size≤g))∧(∀g,top' g→T g∨w.heap.size≤g)∧(∀g,ok' g→g < w'.heap.size∧¬top' g∧¬X g)
def Zko (P:Program) (ms:List Mode) (f:FuncId) (xs:List V) (r:V) (os:List V):Prop:=
 ∀(w:World) (us:Array Value) (G:List Nat) (T X ok:Nat→Prop),Anch w T→ArgsR P w ok T ms us.toList xs G→G.Nodup→(∀g∈G,g < w.heap.size∧¬X g)→(∀g,ok g→g < w.heap.size∧¬T g∧¬X g)→
  (∀g,X g→∃cur e,w.heap[g]?=some (.cells cur e (0,0)))→Calls P f us w (fun e w'=>∃v,e=.returned v∧Done P ms w us xs G T X r os v w')
def phId (b:Nat) (id:Id):Prop:=id.1=0∧b≤id.2
def Zhk (w:World) (g:Nat):Blk:=match w.heap[g]? with|some (.cells _ e _)=>⟨false,true,false,e,[]⟩|_=>⟨false,true,false,0,[]⟩
def Zqu (P:Program) (w:World) (g:Nat):Info:=match w.heap[g]? with|some (.cells cur e _)=>.blk g cur.size 0 (P.cellsOf e)|_=>.emp
open Classical in
noncomputable def phSt (b:Nat) (w:World) (X:Nat→Prop):St:=⟨fun _=>.undef,fun id=>if id.1=0∧b≤id.2∧X (id.2 - b) then some (Zhk w (id.2 - b)) else none,0⟩
open Classical in
noncomputable def phRho (b:Nat) (P:Program) (w:World) (X:Nat→Prop):Rho:=fun id=>if id.1=0∧b≤id.2∧X (id.2 - b) then some (Zqu P w (id.2 - b)) else none
theorem ph_ext (b:Nat) (w:World) (X:Nat→Prop):ExtE (phId b) ⟨fun _=>.undef,fun _=>none,0⟩ (phSt b w X):=by
 refine⟨⟨rfl,fun id hid=>?_,fun _ _=>rfl⟩,rfl,fun id bk hd hb=>?_⟩
 ·simp only[phSt]
  rw[if_neg (fun h=>hid ⟨h.1,h.2.1⟩)]
 ·simp only[phSt] at hb
  split at hb
  ·injection hb with hb
   subst hb
   unfold Zhk
   split<;>rfl
  ·cases hb
section
variable {P:Program} {M:Hints} {C:Yw}
theorem ph_rel {b:Nat} {w:World} {X T ok:Nat→Prop} {tmps:Array Value} {fl:List Nat} (hT:Anch w T) (hX:∀g,X g→∃cur e,w.heap[g]?=some (.cells cur e (0,0))) (hfl:∀g∈fl,g < w.heap.size∧¬X g) (hno:fl.Nodup):
  RelG P w.heap.size T w tmps (phSt b w X) (phRho b P w X) (fun id=>[id.2 - b]) fl ok:=by
 have key:∀id k,(phSt b w X).heap id=some k→id.1=0∧b≤id.2∧X (id.2 - b)∧k=Zhk w (id.2 - b):=fun id k hb=>by
  simp only[phSt] at hb
  split at hb
  ·rename_i h;injection hb with hb;exact⟨h.1,h.2.1,h.2.2,hb.symm⟩
  ·cases hb
 have lt:∀g,X g→g < w.heap.size:=fun g hg=>by
  obtain⟨cur,e,h⟩:=hX g hg
  exact (Array.getElem?_eq_some_iff.1 h).1
 refine⟨fun t v hv=>.undef,fun t ht=>rfl,fun id k hb=>?_,fun id k hb ho g hg=>?_,fun id k hb ho hc g hg=>?_,fun id id' k k' hb ho hb' ho' hne g hg hg'=>?_,fun id k hb ho=>by simp,fun id hid=>?_,⟨Nat.le_refl _,hT.1,hT.2.1,fun g hg=>hg.elim (hT.2.2 g) (fun hh=>Nat.le_trans hT.1 hh)⟩,fun g hg=>(hfl g hg).1,fun id k hb ho g hg hg'=>?_,hno⟩
 ·obtain⟨h1,h2,h3,rfl⟩:=key id _ hb
  obtain⟨cur,e,h⟩:=hX _ h3
  have hρ:phRho b P w X id=some (.blk (id.2 - b) cur.size 0 (P.cellsOf e)):=by
   simp only[phRho]
   rw[if_pos ⟨h1,h2,h3⟩]
   simp only[Zqu,h]
  have hbk:Zhk w (id.2 - b)=⟨false,true,false,e,[]⟩:=by simp only[Zhk,h]
  rw[hρ,hbk]
  exact .mkRow rfl rfl rfl h (Nat.le_refl _) (Nat.zero_le _) (by simp) (by simp) rfl (fun hf=>by cases hf) (fun _=>⟨rfl,fun k x hx=>by simp at hx⟩)
 ·obtain⟨h1,h2,h3,rfl⟩:=key id _ hb
  rw[List.mem_singleton.1 hg]
  exact lt _ h3
 ·obtain⟨h1,h2,h3,rfl⟩:=key id _ hb
  obtain⟨cur,e,h⟩:=hX _ h3
  obtain⟨g1,o1,c1,z1,hi,hc⟩:=hc
  simp only[phRho] at hi
  rw[if_pos ⟨h1,h2,h3⟩] at hi
  simp only[Zqu,h] at hi
  injection hi with hi
  injection hi with _ _ hi _
  omega
 ·obtain⟨h1,h2,h3,_⟩:=key id _ hb
  obtain⟨h1',h2',h3',_⟩:=key id' _ hb'
  have e1:=List.mem_singleton.1 hg
  have e2:=List.mem_singleton.1 hg'
  apply hne
  obtain⟨i1,i2⟩:=id
  obtain⟨j1,j2⟩:=id'
  simp only at*
  rw[h1,h1',show i2=j2 by omega]
 ·simp only[phRho] at hid
  split at hid
  ·rename_i h;simp only[phSt];omega
  ·simp at hid
 ·obtain⟨h1,h2,h3,rfl⟩:=key id _ hb
  rw[List.mem_singleton.1 hg] at hg'
  exact (hfl _ hg').2 h3
structure FuncsOk (P:Program):Prop where
 mixed:P.follows .mixedOrders=true
 dst:∀(f:FuncId) (fn:Func) (c:Code),P.funcs[f]?=some fn→fn.body=some c→X1 fn.ntmps c=true
 name:∀(f:FuncId) (fn:Func),P.funcs[f]?=some fn→(fn.name == "runtime.NumGoroutine")=false
def Zyu:List Value→Value
 | [u]=>u
 | l=>.tuple l.toArray
theorem Z1q {fn:Func} {tmps:Array Value} {w:World} {us:List Value} (h:(fn.results.toList.mapM (resF tmps)).run P w=.ok us w):
  (results fn tmps).run P w=.ok (Zyu us) w:=by
 have e:results fn tmps=(fn.results.mapM (resF tmps)) >>= fun vs=>pure (if h:vs.size=1 then vs[0] else .tuple vs):=by
  unfold results
  congr 1
 rw[e,Array.mapM_eq_mapM_toList]
 simp only[Sem.run_bind,Sem.run_map,h,Result.andThen_ok,Sem.run_pure]
 match us with
 | []=>rfl
 | [u]=>rfl
 | u::v::l=>rfl
theorem Z6u {n m:Nat} (h:n≤m) {l:List Oper} (hl:Zgk n l=true):Zgk m l=true:=by
 unfold Zgk at hl ⊢
 rw[List.all_eq_true] at hl ⊢
 intro o ho
 have:=hl o ho
 cases hd:o.dst with
 | none=>rfl
 | some d=>
  rw[hd] at this
  simp only[decide_eq_true_eq] at this ⊢
  exact Nat.lt_of_lt_of_le this h
theorem Z5d {n m:Nat} (h:n≤m):∀(c:Code),X1 n c=true→X1 m c=true:=by
 intro c
 induction c with
 | region id ops d=>exact Z6u h
 | seq a b iha ihb=>intro hc;simp only[X1,Bool.and_eq_true] at hc ⊢;exact⟨iha hc.1,ihb hc.2⟩
 | cond x a b iha ihb=>intro hc;simp only[X1,Bool.and_eq_true] at hc ⊢;exact⟨iha hc.1,ihb hc.2⟩
 | block i c ih=>intro hc;simp only[X1] at hc ⊢;exact ih hc
 | loop c ih=>intro hc;simp only[X1] at hc ⊢;exact ih hc
 | _=>intro _;rfl
theorem GivOL.okm {w:World} {ok ok' top:Nat→Prop} {v:List Value} {x:List V} {fp:List Nat} (h:GivOL P w ok top v x fp) (ht:∀g,ok g→ok' g):GivOL P w ok' top v x fp:=by
 induction h with
 | nil=>exact .nil
 | cons h _ ih=>exact .cons (h.okm ht) ih
theorem GivO.notTup {w:World} {ok top:Nat→Prop} {u:Value} {x:V} {fp:List Nat} (h:GivO P w ok top u x fp):∀rs,x≠.tup rs:=by
 rintro rs rfl
 cases h
theorem ResR.of {w:World} {ok top:Nat→Prop} {us:List Value} {ys:List V} {fp:List Nat} (h:GivOL P w ok top us ys fp):ResR P w ok top (Zyu us) (Zpq ys) fp:=by
 cases h with
 | nil=>exact⟨#[],rfl,.nil⟩
 | @cons u x us xs f1 f2 h hs=>
  cases hs with
  | nil=>
   rw[List.append_nil]
   have:=h.notTup
   cases x<;>first|exact h|exact absurd rfl (this _)
  | @cons v y us' xs' f3 f4 h2 hs2=>exact⟨(u::v::us').toArray,rfl,.cons h (.cons h2 hs2)⟩
end
def BkC (P:Program) (ρ:Rho) (u:Value) (x y:V):Prop:=∀id len,x=.sl id 0 len→∃g o c e rows,y=.own e rows∧ρ id=some (.blk g o c (P.cellsOf e))∧u=.slice (some ⟨g,o,none⟩) len c∧0 < len
def Bk (P:Program) (ρ:Rho) (m:Mode) (u:Value) (x y:V):Prop:=
 match m with
 | .io=>∀id,x=.ptr id 0 0→∃cs g,y=.agg cs∧ρ id=some (.blk g 0 1 cs.length)∧u=.pointer (some ⟨g,0,none⟩)
 | .iov=>(∃(us:Array Value) (xs ys:List V),thin x=.agg xs∧y=.agg ys∧u=.agg us∧us.size=xs.length∧ys.length=xs.length∧∀(j:Nat) (v:Value) (a b:V),us[j]?=some v→xs[j]?=some a→ys[j]?=some b→BkC P ρ v a b)∨((∀cs,thin x≠.agg cs)∧(∀cs,y≠.agg cs)∧BkC P ρ u (thin x) y)
 | _=>True
inductive BkL (P:Program) (ρ:Rho):List Mode→List Value→List V→List V→Prop
 | nil {ms:List Mode}:BkL P ρ ms [] [] []
 | cons {ms:List Mode} {u:Value} {us:List Value} {x y:V} {xs ys:List V} (h:Bk P ρ (ms.headD .rd) u x y) (hs:BkL P ρ ms.tail us xs ys):BkL P ρ ms (u::us) (x::xs) (y::ys)
def bkC:V→List Id
 | .sl id 0 _=>[id]
 | _=>[]
def bkT:V→List Id
 | .agg cs=>cs.flatMap bkC
 | x=>bkC x
def bkM (m:Mode) (x:V):List Id:=match m with
 | .io=>match x with|.ptr id 0 0=>[id]|_=>[]
 | .iov=>bkT (thin x)
 | _=>[]
def bkMs:List Mode→List V→List Id
 | _,[]=>[]
 | ms,x::r=>bkM (ms.headD .rd) x++bkMs ms.tail r
section
variable {P:Program} {B:Nat} {io:Nat→Prop} {w w':World} {tmps:Array Value} {s s' s1:St} {ρ ρ':Rho} {F F':Id→List Nat} {fl fl':List Nat} {ok ok' top:Nat→Prop}
theorem Z0n {t:Option TypeId} {x y:V} (h:s.giveCell t x=some (y,s')):(bkC x).Nodup∧∀id∈bkC x,s'.heap id=none∧∃b,s.heap id=some b:=by
 unfold bkC
 split
 ·rename_i id len
  refine⟨by simp,fun id' hid=>?_⟩
  rw[List.mem_singleton.1 hid]
  simp only[St.giveCell] at h
  obtain⟨er,hw,he⟩:=Option.map_eq_some_iff.1 h
  simp only[Prod.mk.injEq] at he
  obtain⟨_,rfl⟩:=he
  unfold St.whole at hw
  obtain⟨b,hb,_⟩:=Option.bind_eq_some_iff.1 hw
  exact⟨Y6,b,hb⟩
 ·exact⟨by simp,fun id hid=>by simp at hid⟩
theorem Zes {t:Option TypeId} {x y:V} (h:s.giveCell t x=some (y,s')):Less s s':=by
 unfold St.giveCell at h
 split at h
 ·obtain⟨e,h1,he⟩:=Option.map_eq_some_iff.1 h
  simp only[Prod.mk.injEq] at he
  rw[←he.2];exact .refl _
 ·simp only[Option.some.injEq,Prod.mk.injEq] at h;rw[←h.2];exact .refl _
 ·simp only[Option.some.injEq,Prod.mk.injEq] at h;rw[←h.2];exact .refl _
 ·simp only[Option.some.injEq,Prod.mk.injEq] at h;rw[←h.2];exact .refl _
 ·obtain⟨er,hw,he⟩:=Option.map_eq_some_iff.1 h
  simp only[Prod.mk.injEq] at he
  rw[←he.2];exact .kill _ _
 ·cases h
theorem Zth {a b:List Id} {x z y:St} (ha:a.Nodup∧∀id∈a,z.heap id=none∧∃k,x.heap id=some k) (hb:b.Nodup∧∀id∈b,y.heap id=none∧∃k,z.heap id=some k) (h1:Less x z) (h2:Less z y):(a++b).Nodup∧∀id∈a++b,y.heap id=none∧∃k,x.heap id=some k:=by
 refine⟨List.nodup_append.2 ⟨ha.1,hb.1,fun i hi j hj e=>?_⟩,fun id hid=>?_⟩
 ·subst e
  obtain⟨k,hk⟩:=(hb.2 i hj).2
  rw[(ha.2 i hi).1] at hk;cases hk
 ·rcases List.mem_append.1 hid with h|h
  ·exact⟨h2.none (ha.2 id h).1,(ha.2 id h).2⟩
  ·obtain⟨k,hk⟩:=(hb.2 id h).2
   exact⟨(hb.2 id h).1,k,h1.sub id k hk⟩
theorem Zp5:∀{xs:List V} {s s':St} {ts:List (Option TypeId)} {ys:List V},s.giveCells ts xs=some (ys,s')→((xs.flatMap bkC).Nodup∧∀id∈xs.flatMap bkC,s'.heap id=none∧∃b,s.heap id=some b)∧Less s s':=by
 intro xs
 induction xs with
 | nil=>
  intro s s' ts ys h
  simp only[St.giveCells,Option.some.injEq,Prod.mk.injEq] at h
  rw[←h.2]
  exact⟨⟨by simp,fun id hid=>by simp at hid⟩,.refl _⟩
 | cons x xs ih=>
  intro s s' ts ys h
  simp only[St.giveCells] at h
  obtain⟨⟨y1,s1⟩,h1,h⟩:=Option.bind_eq_some_iff.1 h
  obtain⟨⟨y2,s2⟩,h2,h⟩:=Option.map_eq_some_iff.1 h
  simp only[Prod.mk.injEq] at h
  obtain⟨_,rfl⟩:=h
  obtain⟨i1,l1⟩:=ih h2
  rw[List.flatMap_cons]
  exact⟨Zth (Z0n h1) i1 (Zes h1) l1,(Zes h1).trans l1⟩
theorem Zyz {ts:List (Option TypeId)} {id:Id} {ys:List V} (h:s.giveBox ts id=some (ys,s')):(s'.heap id=none∧∃b,s.heap id=some b)∧Less s s':=by
 unfold St.giveBox at h
 obtain⟨b,hb,h⟩:=Option.bind_eq_some_iff.1 h
 split at h
 ·split at h
  ·have:=(Zp5 h).2
   exact⟨⟨this.none Y6,b,hb⟩,(Less.kill s id).trans this⟩
  ·cases h
 ·cases h
theorem Zqr {ts:List (Option TypeId)} {x y:V} (h:s.giveArg ts x=some (y,s')):((bkT x).Nodup∧∀id∈bkT x,s'.heap id=none∧∃b,s.heap id=some b)∧Less s s':=by
 unfold St.giveArg at h
 split at h
 ·obtain⟨⟨ys,s2⟩,h1,he⟩:=Option.map_eq_some_iff.1 h
  simp only[Prod.mk.injEq] at he
  obtain⟨_,rfl⟩:=he
  exact Zp5 h1
 ·rename_i hne
  refine⟨?_,Zes h⟩
  unfold bkT
  split
  ·rename_i cs;exact absurd rfl (hne cs)
  ·exact Z0n h
theorem Zn8:∀{xs:List V} {s s':St} {ts:List TypeId} {ms:List Mode} {ys:List V},s.gives P ts ms xs=some (ys,s')→((bkMs ms xs).Nodup∧∀id∈bkMs ms xs,s'.heap id=none∧∃b,s.heap id=some b)∧Less s s':=by
 intro xs
 induction xs with
 | nil=>
  intro s s' ts ms ys h
  simp only[St.gives,Option.some.injEq,Prod.mk.injEq] at h
  rw[←h.2]
  exact⟨⟨by simp[bkMs],fun id hid=>by simp[bkMs] at hid⟩,.refl _⟩
 | cons x xs ih=>
  intro s s' ts ms ys h
  simp only[St.gives] at h
  obtain⟨⟨y1,s1⟩,h1,h⟩:=Option.bind_eq_some_iff.1 h
  obtain⟨⟨y2,s2⟩,h2,h⟩:=Option.map_eq_some_iff.1 h
  simp only[Prod.mk.injEq] at h
  obtain⟨_,rfl⟩:=h
  obtain⟨i1,l1⟩:=ih h2
  have one:((bkM (ms.headD .rd) x).Nodup∧∀id∈bkM (ms.headD .rd) x,s1.heap id=none∧∃b,s.heap id=some b)∧Less s s1:=by
   unfold St.give at h1
   unfold bkM
   split at h1
   ·rename_i hm
    rw[hm]
    simp only[Option.some.injEq,Prod.mk.injEq] at h1
    rw[←h1.2]
    exact⟨⟨by simp,fun id hid=>by simp at hid⟩,.refl _⟩
   ·rename_i hm
    rw[hm]
    split at h1
    ·obtain⟨⟨cs,s4⟩,h3,he⟩:=Option.map_eq_some_iff.1 h1
     simp only[Prod.mk.injEq] at he
     obtain⟨_,rfl⟩:=he
     have:=Zyz h3
     exact⟨⟨by simp,fun id hid=>by rw[List.mem_singleton.1 hid];exact this.1⟩,this.2⟩
    ·cases h1
   ·rename_i hm
    rw[hm]
    exact⟨⟨by simp,fun id hid=>by simp at hid⟩,(Zqr h1).2⟩
   ·rename_i hm
    rw[hm]
    exact Zqr h1
  unfold bkMs
  exact⟨Zth one.1 i1 one.2 l1,one.2.trans l1⟩
theorem Z6w (h:Rel P B io w tmps s ρ F fl) (hl:Less s s1) {u:Value} {x y:V} {t:Option TypeId} (hu:En w (okS s ρ w) ρ u x) (hx:∀id,x≠.sl id 0 0) (hg:s1.giveCell t x=some (y,s')):BkC P ρ u x y:=by
 rintro id len rfl
 simp only[St.giveCell] at hg
 obtain⟨⟨e,rows⟩,hw,he⟩:=Option.map_eq_some_iff.1 hg
 simp only[Prod.mk.injEq] at he
 obtain⟨rfl,_⟩:=he
 unfold St.whole at hw
 obtain⟨b,hb,hw⟩:=Option.bind_eq_some_iff.1 hw
 split at hw
 ·rename_i hc
  simp only[Option.some.injEq,Prod.mk.injEq] at hw
  obtain⟨rfl,rfl⟩:=hw
  have hB:=h.heap id b (hl.sub id b hb)
  cases hu with
  | sle=>exact absurd rfl (hx id)
  | @sl _ g o c sz _ _ hρ hcc=>
   have hlen:0 < len:=Nat.pos_of_ne_zero fun e=>by subst e;exact hx id rfl
   rw[hρ] at hB
   unfold BlkR at hB
   rw[hc.1,hc.2.1] at hB
   rcases hB with⟨hi,_⟩|⟨g',o',c',cur,hi,_⟩
   ·cases hi
   ·cases hi
    exact⟨g,o,c,b.el,_,rfl,hρ,by simp,hlen⟩
 ·cases hw
theorem Zy1 (x:V):∀id,thin1 x≠.sl id 0 0:=fun id e=>by
 unfold thin1 at e
 split at e
 ·cases e
 ·rename_i hne;subst e;exact hne id 0 rfl
theorem Zpp:∀{xs:List V} {s s':St} {ts:List (Option TypeId)} {ys:List V},s.giveCells ts xs=some (ys,s')→ys.length=xs.length∧∀(j:Nat) (a b:V),xs[j]?=some a→ys[j]?=some b→∃s1 s2 t,Less s s1∧s1.giveCell t a=some (b,s2):=by
 intro xs
 induction xs with
 | nil=>
  intro s s' ts ys h
  simp only[St.giveCells,Option.some.injEq,Prod.mk.injEq] at h
  rw[←h.1]
  exact⟨rfl,fun j a b ha=>by simp at ha⟩
 | cons x xs ih=>
  intro s s' ts ys h
  simp only[St.giveCells] at h
  obtain⟨⟨y1,s1⟩,h1,h⟩:=Option.bind_eq_some_iff.1 h
  obtain⟨⟨y2,s2⟩,h2,h⟩:=Option.map_eq_some_iff.1 h
  simp only[Prod.mk.injEq] at h
  obtain⟨rfl,rfl⟩:=h
  obtain⟨i1,i2⟩:=ih h2
  refine⟨by simp[i1],fun j a b ha hb=>?_⟩
  cases j with
  | zero=>
   have e1:x=a:=by simpa using ha
   have e2:y1=b:=by simpa using hb
   subst e1;subst e2
   exact⟨s,s1,_,.refl _,h1⟩
  | succ j=>
   obtain⟨s3,s4,t,k1,k2⟩:=i2 j a b (by simpa using ha) (by simpa using hb)
   exact⟨s3,s4,t,(Zes h1).trans k1,k2⟩
theorem Z9m (h:Rel P B io w tmps s ρ F fl):∀{xs:List V} {us:List Value} {s1 s':St} {ts:List TypeId} {ms:List Mode} {ys:List V},Less s s1→us.length=xs.length→(∀(j:Nat) (u:Value) (x:V),us[j]?=some u→xs[j]?=some x→En w (okS s ρ w) ρ u x)→
  s1.gives P ts ms xs=some (ys,s')→BkL P ρ ms us xs ys:=by
 intro xs
 induction xs with
 | nil=>
  intro us s1 s' ts ms ys hl hlen hen hg
  have:us=[]:=List.eq_nil_of_length_eq_zero (by simpa using hlen)
  subst this
  simp only[St.gives,Option.some.injEq,Prod.mk.injEq] at hg
  rw[←hg.1]
  exact .nil
 | cons x xs ih=>
  intro us s1 s' ts ms ys hl hlen hen hg
  match us,hlen with
  | u::us,hlen=>
   have hall:=Zn8 hg
   simp only[St.gives] at hg
   obtain⟨⟨y,s2⟩,h1,hg⟩:=Option.bind_eq_some_iff.1 hg
   obtain⟨⟨zs,s3⟩,h2,hg⟩:=Option.map_eq_some_iff.1 hg
   simp only[Prod.mk.injEq] at hg
   obtain⟨rfl,rfl⟩:=hg
   have hu:=hen 0 u x rfl rfl
   have hl2:Less s1 s2:=by
    have:=(Zn8 (P:=P) (xs:=[x]) (s:=s1) (s':=s2) (ts:=ts) (ms:=ms) (ys:=[y]) (by simp only[St.gives];rw[h1];rfl)).2
    exact this
   refine .cons ?_ (ih (hl.trans hl2) (by simpa using hlen) (fun j v z hv hz=>hen (j+1) v z (by simpa using hv) (by simpa using hz)) h2)
   unfold St.give at h1
   unfold Bk
   split at h1
   ·rename_i hm;rw[hm];exact trivial
   ·rename_i hm
    rw[hm]
    rintro id rfl
    simp only at h1
    obtain⟨⟨cs,s4⟩,h3,he⟩:=Option.map_eq_some_iff.1 h1
    simp only[Prod.mk.injEq] at he
    obtain⟨rfl,rfl⟩:=he
    unfold St.giveBox at h3
    obtain⟨b,hb,h3⟩:=Option.bind_eq_some_iff.1 h3
    split at h3
    ·rename_i hc
     split at h3
     ·rename_i row hr
      have hB:=h.heap id b (hl.sub id b hb)
      unfold BlkR at hB
      rw[hc.1] at hB
      obtain⟨_,g,cur,e,row',hi,hgc,hr',hs,_⟩:=hB
      rw[hr] at hr'
      injection hr' with hr' _
      subst hr'
      generalize hq:V.ptr id 0 0=q at hu
      cases hu<;>cases hq
      rename_i g' o' c' sz hρ
      rw[hi] at hρ
      injection hρ with hρ
      injection hρ with e1 e2 e3 e4
      subst e1;subst e2
      exact⟨cs,g,rfl,by rw[hi,(Zpp h3).1],by simp⟩
     ·cases h3
    ·cases h3
   ·rename_i hm;rw[hm];exact trivial
   ·rename_i hm
    rw[hm]
    have hut:=hu.thin
    have hne:∀cs,thin x=.agg cs→∀c∈cs,∀id,c≠.sl id 0 0:=fun cs hcs c hc id=>by
     unfold thin at hcs
     split at hcs
     ·injection hcs with hcs
      subst hcs
      obtain⟨z,_,rfl⟩:=List.mem_map.1 hc
      exact Zy1 z id
     ·rename_i hna
      unfold thin1 at hcs
      split at hcs
      ·cases hcs
      ·exact absurd hcs (hna cs)
    have hne1:(∀cs,thin x≠.agg cs)→∀id,thin x≠.sl id 0 0:=fun hna id=>by
     unfold thin at hna ⊢
     split
     ·simp
     ·exact Zy1 x id
    generalize thin x=tx at h1 hut hne hne1
    unfold St.giveArg at h1
    split at h1
    ·rename_i cs
     obtain⟨⟨ys,s4⟩,h3,he⟩:=Option.map_eq_some_iff.1 h1
     simp only[Prod.mk.injEq] at he
     obtain⟨rfl,rfl⟩:=he
     cases hut with
     | @agg vs _ hsz hcc hr=>
      obtain⟨g1,g2⟩:=Zpp h3
      refine .inl ⟨vs,cs,ys,rfl,rfl,rfl,hsz,g1,fun j v a b hv ha hb=>?_⟩
      obtain⟨s5,s6,t,k1,k2⟩:=g2 j a b ha hb
      exact Z6w h (hl.trans k1) (hr j v a hv ha) (hne cs rfl a (List.mem_of_getElem? ha)) k2
    ·rename_i hna
     refine .inr ⟨hna,fun cs e=>?_,Z6w h hl hut (hne1 hna) h1⟩
     subst e
     unfold St.giveCell at h1
     split at h1<;>simp at h1
end
section
variable {P:Program} {B:Nat} {io:Nat→Prop} {w w':World} {tmps:Array Value} {s s' s1:St} {ρ ρ':Rho} {F F':Id→List Nat} {fl fl':List Nat} {ok ok' top:Nat→Prop}
theorem Ybe {f1:List Nat} (h:RelG P B io w tmps s ρ F (f1++fl) ok) {id:Id} {len:Nat} {u:Value} {y:V} {e:TypeId} {rows rows':List (List V)} (hb:BkC P ρ u (.sl id 0 len) (.own e rows)) (hO:OwT P w e u rows' f1) (ht:∀g,f1.head?=some g→top g) (htop:∀g,top g→io g∨B≤g) (hn:s.heap id=none):
  ∃F',Took P B io w tmps s ρ fl ok top (fun id'=>id'=id) (s.setB id ⟨false,true,true,e,rows'⟩) ρ F':=by
 obtain⟨g,o,c,e',r,hy,hρ,hu,hlen⟩:=hb id len rfl
 injection hy with hy _
 subst hy
 rcases hO with⟨A,rfl,rfl,rfl⟩|⟨g',o',c',cur,fp',hv,hg,hl,hm,hun,hz,hOw,rfl⟩
 ·injection hu with _ hu _;omega
 ·rw[hu] at hv
  injection hv with hv hl2 hc
  injection hv with hv
  injection hv with e1 e2 _
  subst e1;subst e2;subst hc
  have hep:id.1≤s.ep:=h.dom id (by rw[hρ];rfl)
  refine⟨_,h.add hn hep (fun _ _ h=>h) (fun _ _=>rfl) (by rw[hρ];exact .mkRow rfl rfl rfl hg hl hm hun hz rfl (fun _=>hOw) (fun hf=>by cases hf)) (fun _ g' hg'=>htop g' (ht g' hg')),fun _ _ h=>h,fun _ h=>.inl h,rfl,rfl,fun id' e=>Zv e,fun g' hg'=>?_⟩
  rcases Zke (fun _ _=>rfl) hg' with h1|⟨_,o2,c2,z2,h1⟩
  ·exact .inl h1
  ·rw[hρ] at h1
   injection h1 with h1
   injection h1 with h1
   subst h1
   exact .inr (ht _ rfl)
theorem Zq1:∀(xs:List V) {us:List Value} {ys ns:List V} {s s':St} {F:Id→List Nat} {fo fl:List Nat},RelG P B io w tmps s ρ F (fo++fl) ok→OutL P w top us ys ns fo→us.length=xs.length→ys.length=xs.length→
  (∀(j:Nat) (v:Value) (a b:V),us[j]?=some v→xs[j]?=some a→ys[j]?=some b→BkC P ρ v a b)→(∀g,top g→io g∨B≤g)→(xs.flatMap bkC).Nodup→(∀id∈xs.flatMap bkC,s.heap id=none)→s.backCells xs ns=some s'→
  ∃F',Took P B io w tmps s ρ fl ok top (fun id=>id∈xs.flatMap bkC) s' ρ F':=by
 intro xs
 induction xs with
 | nil=>
  intro us ys ns s s' F fo fl h ho hl hly _ _ _ _ hs
  simp only[St.backCells,Option.some.injEq] at hs
  subst hs
  have:us=[]:=List.eq_nil_of_length_eq_zero (by simpa using hl)
  subst this
  cases ho
  exact⟨F,(Took.refl h).mono (fun _ h=>h.elim)⟩
 | cons x xs ih=>
  intro us ys ns s s' F fo fl h ho hl hly hbk htop hnd hnone hs
  rw[List.flatMap_cons] at hnd hnone
  have hnd2:=List.nodup_append.1 hnd
  have rest:∀{u:Value} {us':List Value} {y:V} {ys':List V} {n:V} {ns':List V} {s2:St} {F2:Id→List Nat} {f2:List Nat},us=u::us'→ys=y::ys'→RelG P B io w tmps s2 ρ F2 (f2++fl) ok→OutL P w top us' ys' ns' f2→(∀id∈xs.flatMap bkC,s2.heap id=none)→s2.backCells xs ns'=some s'→
    ∃F',Took P B io w tmps s2 ρ fl ok top (fun id=>id∈xs.flatMap bkC) s' ρ F':=by
   intro u us' y ys' n ns' s2 F2 f2 e1 e2 h2 ho2 hn2 hs2
   subst e1;subst e2
   exact ih h2 ho2 (by simpa using hl) (by simpa using hly) (fun j v a b hv ha hb=>hbk (j+1) v a b (by simpa using hv) (by simpa using ha) (by simpa using hb)) htop hnd2.2.1 hn2 hs2
  have hnx:∀id∈xs.flatMap bkC,s.heap id=none:=fun id hid=>hnone id (List.mem_append_right _ hid)
  cases ho with
  | nil=>simp at hl
  | @own u e rows rows' us' ys' ns' f1 f2 hO ht hs2=>
   rw[List.append_assoc] at h
   unfold St.backCells at hs
   split at hs
   ·rename_i heq;cases heq
   ·rename_i id len os1 e2 r2 ns2 heq1 heq2
    injection heq1 with a1 a2
    subst a1;subst a2
    injection heq2 with b1 b2
    injection b1 with b1 b3
    subst b1;subst b3;subst b2
    obtain⟨F1,t1⟩:=Ybe (fl:=f2++fl) (y:=.undef) h (hbk 0 u _ _ rfl rfl rfl) hO ht htop (hnone id (List.mem_append_left _ (by simp[bkC])))
    obtain⟨F2,t2⟩:=rest (n:=.undef) rfl rfl t1.rel hs2 (fun id' hid'=>by
     rw[t1.heap id' (fun e=>by
      subst e
      exact hnd2.2.2 _ (by simp[bkC]) _ hid' rfl)]
     exact hnx id' hid') hs
    refine⟨F2,(t1.trans t2).mono (fun id' hid'=>?_)⟩
    rw[List.flatMap_cons]
    rcases hid' with rfl|hid'
    ·exact List.mem_append_left _ (by simp[bkC])
    ·exact List.mem_append_right _ hid'
   ·rename_i heq1 heq2
    injection heq1 with a1 a2
    subst a1;subst a2
    injection heq2 with b1 b2
    subst b2
    obtain⟨F2,t2⟩:=rest (n:=.undef) rfl rfl (h.less (List.sublist_append_right _ _)) hs2 hnx hs
    exact⟨F2,t2.mono (fun id' hid'=>by rw[List.flatMap_cons];exact List.mem_append_right _ hid')⟩
   ·cases hs
  | @skip u y us' ys' ns' f hx hs2=>
   unfold St.backCells at hs
   split at hs
   ·rename_i heq;cases heq
   ·rename_i heq1 heq2
    injection heq2 with b1 b2
    cases b1
   ·rename_i heq1 heq2
    injection heq1 with a1 a2
    subst a1;subst a2
    injection heq2 with b1 b2
    subst b2
    obtain⟨F2,t2⟩:=rest (n:=.undef) rfl rfl h hs2 hnx hs
    exact⟨F2,t2.mono (fun id' hid'=>by rw[List.flatMap_cons];exact List.mem_append_right _ hid')⟩
   ·cases hs
theorem Ya7 {fo:List Nat} (h:RelG P B io w tmps s ρ F (fo++fl) ok) {m:Mode} {e k:Nat} {u:Value} {x y o:V} (hb:Bk P ρ m u x y) (ho:OutR P w ok top m u y o fo) (htop:∀g,top g→io g∨B≤g) (hep:e≤s.ep) (hnew:∀j,64*k≤j→j < 64*k+64→ρ (e,j)=none∧s.heap (e,j)=none)
  (hnd:(bkM m x).Nodup) (hnone:∀id∈bkM m x,s.heap id=none) (hs:s.back m e k x o=some s'):
  ∃ρ' F',Took P B io w tmps s ρ fl ok top (fun id=>(id.1=e∧64*k≤id.2∧id.2 < 64*k+64)∨id∈bkM m x) s' ρ' F':=by
 unfold St.back at hs
 split at hs
 ·simp only[Option.some.injEq] at hs
  subst hs
  have:fo=[]:=ho
  subst this
  exact⟨ρ,F,(Took.refl h).mono (fun _ h=>h.elim)⟩
 ·simp only[Option.some.injEq] at hs
  subst hs
  have:fo=[]:=ho
  subst this
  exact⟨ρ,F,(Took.refl h).mono (fun _ h=>h.elim)⟩
 ·split at hs
  ·rename_i id cs'
   split at hs
   ·rename_i hl62
    obtain⟨⟨zs,s2⟩,h1,rfl⟩:=Option.map_eq_some_iff.1 hs
    obtain⟨cs,g,rfl,hρ,hu⟩:=hb id rfl
    obtain⟨cs0,cs1,e1,e2,hlen,g',cur,et,fp',hu',hgc,hgl,rfl,htg⟩:=ho
    injection e1 with e1
    injection e2 with e2
    subst e1;subst e2
    rw[hu] at hu'
    injection hu' with hu'
    injection hu' with hu'
    injection hu' with hu' _ _
    subst hu'
    have hperm:((fp'++([g]++fl)):List Nat).Perm (g::fp'++fl):=List.perm_middle
    obtain⟨ρ1,F1,t,l,c,en⟩:=Zk5 cs' (fl:=[g]++fl) (h.perm hperm) hgl htop hep (fun j hj hlt=>hnew j hj (by omega)) h1
    have hidn:s.heap id=none:=hnone id (by simp[bkM])
    have hidJ:¬(id.1=e∧64*k≤id.2∧id.2 < 64*k+cs'.length):=fun hh=>by
     have:=(hnew id.2 hh.2.1 (by omega)).1
     rw[←hh.1] at this
     rw[show (id.1,id.2)=id from rfl,hρ] at this
     cases this
    have hr1:ρ1 id=some (.blk g 0 1 zs.length):=by
     rw[t.ext id _ hρ]
     have:zs.length=cs.length:=by rw[←l,←hlen];exact hgl.length
     rw[this]
    have hadd:=t.rel.add (fp:=[g]) (fl:=fl) (id:=id) (ρ':=ρ1) (b:=⟨true,true,true,0,[zs]⟩) (by rw[t.heap _ hidJ];exact hidn) (by rw[t.ep];exact h.dom id (by rw[hρ];rfl)) (fun _ _ h=>h) (fun _ _=>rfl) (by
     rw[hr1]
     exact .mkBox rfl rfl rfl hgc rfl (by simpa using l) (fun j v z hv hz=>en j v z (by simpa using hv) hz) c rfl) (fun _ g' hg'=>by
     have:g=g':=by simpa using hg'
     subst this;exact htop g htg)
    refine⟨ρ1,_,⟨hadd,t.ext,fun id' hi=>?_,t.env,t.ep,fun id' hid'=>?_,fun g' hg'=>?_⟩⟩
    ·rcases t.dom id' hi with hh|hh
     ·exact .inl hh
     ·exact .inr (.inl ⟨hh.1,hh.2.1,by omega⟩)
    ·rw[Zv (fun e=>hid' (.inr (by rw[e];simp[bkM])))]
     exact t.heap id' (fun hh=>hid' (.inl ⟨hh.1,hh.2.1,by omega⟩))
    ·rcases Zke (fun _ _=>rfl) hg' with h3|⟨_,o2,c2,z2,h3⟩
     ·exact t.tops g' h3
     ·rw[hr1] at h3
      injection h3 with h3
      injection h3 with h3
      subst h3;exact .inr htg
   ·cases hs
  ·cases hs
 ·unfold Bk at hb
  unfold OutR at ho
  unfold bkM at hnd hnone ⊢
  simp only at hb ho hnd hnone ⊢
  rcases hb with⟨us,xs,ys,ht,rfl,rfl,hsz,hyl,hbk⟩|⟨hnt,hny,hbk⟩
  ·rw[ht] at hs hnd hnone ⊢
   simp only[bkT] at hnd hnone ⊢
   rcases ho with⟨us',cs,ns,e1,e2,rfl,hO⟩|⟨hne,_⟩
   ·injection e1 with e1
    injection e2 with e2
    subst e1;subst e2
    simp only at hs
    obtain⟨F',t⟩:=Zq1 xs h hO (by simpa using hsz) hyl (fun j v a b hv ha hb=>hbk j v a b (by simpa using hv) ha hb) htop hnd hnone hs
    exact⟨ρ,F',t.mono (fun id hid=>.inr hid)⟩
   ·exact absurd rfl (hne ys)
  ·rcases ho with⟨us',cs,ns,e1,_⟩|⟨_,hO⟩
   ·exact absurd e1 (hny cs)
   ·generalize thin x=tx at hs hnd hnone hnt hbk
    have hs':s.backCells [tx] [o]=some s':=by
     split at hs
     ·rename_i cs ns;exact absurd rfl (hnt cs)
     ·exact hs
    have hnd':([tx].flatMap bkC)=bkC tx:=by simp
    have hm:bkT tx=bkC tx:=by
     cases tx<;>first|rfl|exact absurd rfl (hnt _)
    rw[hm] at hnd hnone
    obtain⟨F',t⟩:=Zq1 [tx] h hO rfl rfl (fun j v a b hv ha hb=>by
     cases j with
     | zero=>
      have e1:u=v:=by simpa using hv
      have e2:tx=a:=by simpa using ha
      have e3:y=b:=by simpa using hb
      subst e1;subst e2;subst e3;exact hbk
     | succ j=>simp at hv) htop (by rw[hnd'];exact hnd) (by rw[hnd'];exact hnone) hs'
    exact⟨ρ,F',t.mono (fun id hid=>.inr (by rw[hm];rw[hnd'] at hid;exact hid))⟩
theorem Z3k {m:Mode} {u:Value} {x y:V} (hb:Bk P ρ m u x y) {w:World} (hu:En w ok ρ u x):∀id∈bkM m x,(ρ id).isSome=true:=by
 intro id hid
 unfold bkM at hid
 split at hid
 ·split at hid
  ·rename_i id'
   rw[List.mem_singleton.1 hid]
   obtain⟨cs,g,_,hρ,_⟩:=hb id' rfl
   rw[hρ];rfl
  ·simp at hid
 ·have hut:=hu.thin
  have one:∀{v:Value} {c:V},En w ok ρ v c→id∈bkC c→(ρ id).isSome=true:=fun {v c} hv hc=>by
   unfold bkC at hc
   split at hc
   ·rw[List.mem_singleton.1 hc]
    cases hv with
    | sl h=>rw[h];rfl
    | sle h=>exact h
   ·simp at hc
  unfold bkT at hid
  split at hid
  ·rename_i cs hcs
   rw[hcs] at hut
   obtain⟨c,hc,hid⟩:=List.mem_flatMap.1 hid
   cases hut with
   | @agg vs _ hl _ hr=>
    obtain⟨j,hj⟩:=List.getElem?_of_mem hc
    have hlt:=(List.getElem?_eq_some_iff.1 hj).1
    exact one (hr j _ c (Array.getElem?_eq_getElem (by omega)) hj) hid
  ·exact one hut hid
 ·simp at hid
theorem Yac {e:Nat}:∀(xs:List V) {us:List Value} {ys os:List V} {ms:List Mode} {k:Nat} {s s':St} {ρ:Rho} {F:Id→List Nat} {fo fl:List Nat},RelG P B io w tmps s ρ F (fo++fl) ok→BkL P ρ ms us xs ys→OutsR P w ok top ms us ys os fo→
  (∀(j:Nat) (u:Value) (x:V),us[j]?=some u→xs[j]?=some x→∃w ok,En w ok ρ u x)→(∀g,top g→io g∨B≤g)→e≤s.ep→(∀j,64*k≤j→j < 64*(k+xs.length)→ρ (e,j)=none∧s.heap (e,j)=none)→
  (bkMs ms xs).Nodup→(∀id∈bkMs ms xs,s.heap id=none)→s.backs e ms k xs os=some s'→
  ∃ρ' F',Took P B io w tmps s ρ fl ok top (fun id=>(id.1=e∧64*k≤id.2∧id.2 < 64*(k+xs.length))∨id∈bkMs ms xs) s' ρ' F':=by
 intro xs
 induction xs with
 | nil=>
  intro us ys os ms k s s' ρ F fo fl h hb ho hen htop hep hnew hnd hnone hs
  cases hb
  cases ho
  simp only[St.backs,Option.some.injEq] at hs
  subst hs
  exact⟨ρ,F,(Took.refl h).mono (fun _ h=>h.elim)⟩
 | cons x xs ih=>
  intro us ys os ms k s s' ρ F fo fl h hb ho hen htop hep hnew hnd hnone hs
  simp only[List.length_cons] at hnew
  cases hb with
  | @cons _ u us _ y _ ys hb hbs=>
   cases ho with
   | @cons _ _ _ _ o _ os f1 f2 ho hos=>
    simp only[St.backs] at hs
    obtain⟨s1,h1,hs⟩:=Option.bind_eq_some_iff.1 hs
    unfold bkMs at hnd hnone
    have hnd2:=List.nodup_append.1 hnd
    rw[List.append_assoc] at h
    obtain⟨ρ1,F1,t1⟩:=Ya7 h hb ho htop hep (fun j hj hlt=>hnew j hj (by omega)) hnd2.1 (fun id hid=>hnone id (List.mem_append_left _ hid)) h1
    have hsome:∀id∈bkMs ms.tail xs,(ρ id).isSome=true:=by
     have key:∀{xs:List V} {ms:List Mode} {us:List Value} {ys:List V},BkL P ρ ms us xs ys→(∀(j:Nat) (u:Value) (x:V),us[j]?=some u→xs[j]?=some x→∃w ok,En w ok ρ u x)→∀id∈bkMs ms xs,(ρ id).isSome=true:=by
      intro xs ms us ys hb
      induction hb with
      | nil=>intro _ id hid;simp[bkMs] at hid
      | cons h _ ih=>
       intro hen id hid
       unfold bkMs at hid
       rcases List.mem_append.1 hid with hid|hid
       ·obtain⟨w',ok'',hu⟩:=hen 0 _ _ rfl rfl
        exact Z3k h hu id hid
       ·exact ih (fun j u x hu hx=>hen (j+1) u x (by simpa using hu) (by simpa using hx)) id hid
     exact key hbs (fun j u x hu hx=>hen (j+1) u x (by simpa using hu) (by simpa using hx))
    have hsome1:∀id∈bkM (ms.headD .rd) x,(ρ id).isSome=true:=fun id hid=>by
     obtain⟨w',ok'',hu⟩:=hen 0 _ _ rfl rfl
     exact Z3k hb hu id hid
    have hnew2:∀j,64*(k+1)≤j→j < 64*(k+1+xs.length)→ρ1 (e,j)=none∧s1.heap (e,j)=none:=fun j hj hlt=>by
     obtain⟨a1,a2⟩:=hnew j (by omega) (by omega)
     have hnJ:¬((((e,j):Id).1=e∧64*k≤((e,j):Id).2∧((e,j):Id).2 < 64*k+64)∨(e,j)∈bkM (ms.headD .rd) x):=fun hh=>by
      rcases hh with hh|hh
      ·have:=hh.2.2;simp only at this;omega
      ·have:=hsome1 _ hh;rw[a1] at this;cases this
     refine⟨?_,by rw[t1.heap _ hnJ];exact a2⟩
     cases hr:ρ1 (e,j) with
     | none=>rfl
     | some i=>
      rcases t1.dom (e,j) (by rw[hr];rfl) with hh|hh
      ·rw[a1] at hh;cases hh
      ·exact absurd hh hnJ
    have bkext:BkL P ρ1 ms.tail us xs ys:=by
     have ce:∀{v:Value} {a b:V},BkC P ρ v a b→BkC P ρ1 v a b:=fun hb id len hx=>by
      obtain⟨g,o,c,e,rows,h1,h2,h3⟩:=hb id len hx
      exact⟨g,o,c,e,rows,h1,t1.ext _ _ h2,h3⟩
     have one:∀{m:Mode} {u:Value} {x y:V},Bk P ρ m u x y→Bk P ρ1 m u x y:=fun {m u x y} hb=>by
      cases m
      ·exact trivial
      ·intro id hx
       obtain⟨cs,g,h1,h2,h3⟩:=hb id hx
       exact⟨cs,g,h1,t1.ext _ _ h2,h3⟩
      ·exact trivial
      ·rcases hb with⟨us,xs,ys,h1,h2,h3,h4,h5,h6⟩|⟨h1,h2,h3⟩
       ·exact .inl ⟨us,xs,ys,h1,h2,h3,h4,h5,fun j v a b hv ha hb=>ce (h6 j v a b hv ha hb)⟩
       ·exact .inr ⟨h1,h2,ce h3⟩
     have key:∀{xs:List V} {ms:List Mode} {us:List Value} {ys:List V},BkL P ρ ms us xs ys→BkL P ρ1 ms us xs ys:=by
      intro xs ms us ys hb
      induction hb with
      | nil=>exact .nil
      | cons h _ ih=>exact .cons (one h) ih
     exact key hbs
    obtain⟨ρ2,F2,t2⟩:=ih t1.rel bkext hos (fun j u x hu hx=>by
     obtain⟨w',ok'',hu'⟩:=hen (j+1) u x (by simpa using hu) (by simpa using hx)
     exact⟨w',ok'',hu'.ext (fun _ h=>h) t1.ext⟩) htop (by rw[t1.ep];exact hep) hnew2 hnd2.2.1 (fun id hid=>by
     rw[t1.heap id (fun hh=>by
      rcases hh with hh|hh
      ·have:=(hnew id.2 hh.2.1 (by omega)).1
       rw[←hh.1,show (id.1,id.2)=id from rfl] at this
       have h2:=hsome id hid
       rw[this] at h2;cases h2
      ·exact hnd2.2.2 id hh id hid rfl)]
     exact hnone id (List.mem_append_right _ hid)) hs
    refine⟨ρ2,F2,(t1.trans t2).mono (fun id hid=>?_)⟩
    rcases hid with (hid|hid)|(hid|hid)
    ·exact .inl ⟨hid.1,hid.2.1,by simp only[List.length_cons];omega⟩
    ·exact .inr (by unfold bkMs;exact List.mem_append_left _ hid)
    ·exact .inl ⟨hid.1,by omega,by simp only[List.length_cons];omega⟩
    ·exact .inr (by unfold bkMs;exact List.mem_append_right _ hid)
theorem Z6h {e:Nat}:∀(xs:List V) {us:List Value} {k:Nat} {fp fl:List Nat} {s s':St} {ρ:Rho} {F:Id→List Nat} {ys:List V},RelG P B io w tmps s ρ F (fp++fl) ok→GivOL P w ok top us xs fp→(∀g,top g→io g∨B≤g)→e≤s.ep→
  (∀j,64*k≤j→j < 64*(k+xs.length)→ρ (e,j)=none∧s.heap (e,j)=none)→s.takeAll e k xs=some (ys,s')→
  ∃ρ' F',Took P B io w tmps s ρ fl ok top (fun id=>id.1=e∧64*k≤id.2∧id.2 < 64*(k+xs.length)) s' ρ' F'∧us.length=ys.length∧(∀(j:Nat) (u:Value) (y:V),us[j]?=some u→ys[j]?=some y→En w ok ρ' u y):=by
 intro xs
 induction xs with
 | nil=>
  intro us k fp fl s s' ρ F ys h hg htop hep hnew ht
  cases hg
  simp only[St.takeAll,Option.some.injEq,Prod.mk.injEq] at ht
  obtain⟨rfl,rfl⟩:=ht
  exact⟨ρ,F,(Took.refl h).mono (fun _ h=>h.elim),rfl,fun j u y hu=>by simp at hu⟩
 | cons x xs ih=>
  intro us k fp fl s s' ρ F ys h hg htop hep hnew ht
  simp only[List.length_cons] at hnew
  cases hg with
  | @cons u _ us _ f1 f2 hg hgs=>
   simp only[St.takeAll] at ht
   obtain⟨⟨y,s1⟩,h1,ht⟩:=Option.bind_eq_some_iff.1 ht
   obtain⟨⟨zs,s2⟩,h2,ht⟩:=Option.map_eq_some_iff.1 ht
   simp only[Prod.mk.injEq] at ht
   obtain⟨rfl,rfl⟩:=ht
   simp only at h2
   obtain⟨ρ1,F1,t1,e1⟩:=Zn6 (fl:=f2++fl) (by rw[←List.append_assoc];exact h) hg htop hep (fun j hj hlt=>hnew j hj (by omega)) h1
   obtain⟨ρ2,F2,t2,l2,e2⟩:=ih t1.rel hgs htop (by rw[t1.ep];exact hep) (fun j hj hlt=>by
    obtain⟨a1,a2⟩:=hnew j (by omega) (by omega)
    have hne:¬(((e,j):Id).1=e∧64*k≤((e,j):Id).2∧((e,j):Id).2 < 64*k+64):=fun hh=>by have:=hh.2.2;simp only at this;omega
    refine⟨?_,by rw[t1.heap _ hne];exact a2⟩
    cases hr:ρ1 (e,j) with
    | none=>rfl
    | some i=>
     rcases t1.dom (e,j) (by rw[hr];rfl) with hh|hh
     ·rw[a1] at hh;cases hh
     ·exact absurd hh hne) h2
   refine⟨ρ2,F2,(t1.trans t2).mono (fun id hid=>?_),by simp[l2],fun j u' z hu hz=>?_⟩
   ·rcases hid with⟨a,b,c⟩|⟨a,b,c⟩
    ·exact⟨a,b,by simp only[List.length_cons];omega⟩
    ·exact⟨a,by omega,by simp only[List.length_cons];omega⟩
   ·cases j with
    | zero=>
     have a1:u=u':=by simpa using hu
     have a2:y=z:=by simpa using hz
     subst a1;subst a2
     exact e1.ext (fun _ h=>h) t2.ext
    | succ j=>exact e2 j u' z (by simpa using hu) (by simpa using hz)
theorem Z4u {fp:List Nat} (h:RelG P B io w tmps s ρ F (fp++fl) ok) {u:Value} {x y:V} (hg:ResR P w ok top u x fp) (htop:∀g,top g→io g∨B≤g) {e k:Nat} (hep:e≤s.ep) (hnew:∀j,64*k≤j→j < 64*(k+8)→ρ (e,j)=none∧s.heap (e,j)=none) (ht:s.takeRes e k x=some (y,s')):
  ∃ρ' F',Took P B io w tmps s ρ fl ok top (fun id=>id.1=e∧64*k≤id.2∧id.2 < 64*(k+8)) s' ρ' F'∧En w ok ρ' u y:=by
 unfold St.takeRes at ht
 split at ht
 ·rename_i vs
  split at ht
  ·rename_i hl
   obtain⟨⟨ys,s1⟩,h1,he⟩:=Option.map_eq_some_iff.1 ht
   simp only[Prod.mk.injEq] at he
   obtain⟨rfl,rfl⟩:=he
   obtain⟨us,rfl,hgl⟩:=hg
   obtain⟨ρ',F',t,l,en⟩:=Z6h vs h hgl htop hep (fun j hj hlt=>hnew j hj (by omega)) h1
   exact⟨ρ',F',t.mono (fun id hid=>⟨hid.1,hid.2.1,by omega⟩),.tup (by simpa using l) (fun j v z hv hz=>en j v z (by simpa using hv) hz)⟩
  ·cases ht
 ·rename_i hne
  have hg':GivO P w ok top u x fp:=by
   cases x<;>first|exact hg|exact absurd rfl (hne _)
  obtain⟨ρ',F',t,en⟩:=Zn6 h hg' htop hep (fun j hj hlt=>hnew j hj (by omega)) ht
  exact⟨ρ',F',t.mono (fun id hid=>⟨hid.1,hid.2.1,by omega⟩),en⟩
end
section
variable {P:Program} {M:Hints} {C:Yw}
theorem Z2x:∀{xs:List V} {s s':St} {ts:List TypeId} {ms:List Mode} {ys:List V},s.gives P ts ms xs=some (ys,s')→Zcv ms xs=true→Zcv ms ys=true:=by
 intro xs
 induction xs with
 | nil=>
  intro s s' ts ms ys h _
  simp only[St.gives,Option.some.injEq,Prod.mk.injEq] at h
  rw[←h.1];rfl
 | cons x xs ih=>
  intro s s' ts ms ys h hp
  simp only[St.gives] at h
  obtain⟨⟨y1,s1⟩,h1,h⟩:=Option.bind_eq_some_iff.1 h
  obtain⟨⟨y2,s2⟩,h2,h⟩:=Option.map_eq_some_iff.1 h
  simp only[Prod.mk.injEq] at h
  obtain⟨rfl,rfl⟩:=h
  simp only[Zcv,Bool.and_eq_true] at hp ⊢
  refine⟨?_,ih h2 hp.2⟩
  unfold St.give at h1
  unfold Zyk at hp ⊢
  split at h1
  ·rename_i hm
   rw[hm] at hp ⊢
   simp only[Option.some.injEq,Prod.mk.injEq] at h1
   rw[←h1.1];exact hp.1
  all_goals (rename_i hm;rw[hm])
theorem Zz3 {w:World} {ok ok' top:Nat→Prop} {v:Value} {x:V} {fp:List Nat} (h:Giv P w ok top v x fp) (ht:isTr x=false):Giv P w ok' top v x fp:=by
 cases h with
 | lit h=>exact .lit h
 | tr h=>simp[isTr] at ht
 | own h k=>exact .own h k
theorem Zwh {w:World} {ok ok' top:Nat→Prop} {v:List Value} {x:List V} {fp:List Nat} (h:GivL P w ok top v x fp) (ht:x.any isTr=false):GivL P w ok' top v x fp:=by
 induction h with
 | nil=>exact .nil
 | cons h _ ih=>
  simp only[List.any_cons,Bool.or_eq_false_iff] at ht
  exact .cons (Zz3 h ht.1) (ih ht.2)
theorem Zob {w:World} {ok ok' top:Nat→Prop} {v:Value} {x:V} {fp:List Nat} (h:GivO P w ok top v x fp) (ht:Za6 x=false):GivO P w ok' top v x fp:=by
 cases x
 case agg cs=>obtain⟨us,h1,h2⟩:=h;exact⟨us,h1,Zwh h2 ht⟩
 case obx cs=>obtain⟨g,cur,e,fp',h1,h2,h3,h4,h5⟩:=h;exact⟨g,cur,e,fp',h1,h2,Zwh h3 ht,h4,h5⟩
 all_goals exact Zz3 h ht
theorem Z6a {w:World} {ok ok' top:Nat→Prop} {v:List Value} {x:List V} {fp:List Nat} (h:GivOL P w ok top v x fp) (ht:x.any Za6=false):GivOL P w ok' top v x fp:=by
 induction h with
 | nil=>exact .nil
 | cons h _ ih=>
  simp only[List.any_cons,Bool.or_eq_false_iff] at ht
  exact .cons (Zob h ht.1) (ih ht.2)
theorem Z76 {w:World} {ok ok' top:Nat→Prop} {v:Value} {x:V} {fp:List Nat} (h:ResR P w ok top v x fp) (ht:Zn9 x=false):ResR P w ok' top v x fp:=by
 cases x
 case tup rs=>obtain⟨us,h1,h2⟩:=h;exact⟨us,h1,Z6a h2 ht⟩
 all_goals (simp only[ResR] at h ⊢;exact Zob h ht)
theorem Z8q {w:World} {ok ok' top:Nat→Prop} {m:Mode} {u:Value} {x o:V} {fp:List Nat} (h:OutR P w ok top m u x o fp) (ht:(∀g,ok g→ok' g)∨Za6 o=false):OutR P w ok' top m u x o fp:=by
 cases m
 ·exact h
 ·obtain⟨cs,cs',h1,rfl,h3,h4⟩:=h
  refine⟨cs,cs',h1,rfl,h3,?_⟩
  rcases ht with ht|ht
  ·exact h4.okm ht
  ·exact Zob h4 ht
 ·exact h
 ·exact h
theorem Z6r {w:World} {ok ok' top:Nat→Prop} {ms:List Mode} {us:List Value} {xs os:List V} {fp:List Nat} (h:OutsR P w ok top ms us xs os fp) (ht:(∀g,ok g→ok' g)∨os.any Za6=false):OutsR P w ok' top ms us xs os fp:=by
 induction h with
 | nil=>exact .nil
 | cons h _ ih=>
  refine .cons (Z8q h (ht.imp (fun h=>h) (fun h=>by simp only[List.any_cons,Bool.or_eq_false_iff] at h;exact h.1))) (ih (ht.imp (fun h=>h) (fun h=>by simp only[List.any_cons,Bool.or_eq_false_iff] at h;exact h.2)))
theorem Z9z {w:World} {ok ok' top:Nat→Prop} {v:Value} {x:V} {fp:List Nat} (h:ResR P w ok top v x fp) (ht:∀g,ok g→ok' g):ResR P w ok' top v x fp:=by
 cases x
 case tup rs=>obtain⟨us,h1,h2⟩:=h;exact⟨us,h1,h2.okm ht⟩
 all_goals (simp only[ResR] at h ⊢;exact GivO.okm h ht)
theorem Z9a {w:World} {ok top:Nat→Prop}:∀{ys:List V} {ms:List Mode} {us:List Value} {xs os:List V} {fp:List Nat} {s:St},s.rdAll ms ys=some xs→OutsR P w ok top ms us xs os fp→OutsR P w ok top ms us ys os fp:=by
 intro ys
 induction ys with
 | nil=>
  intro ms us xs os fp s hr h
  simp only[St.rdAll,Option.some.injEq] at hr
  subst hr
  exact h
 | cons y ys ih=>
  intro ms us xs os fp s hr h
  simp only[St.rdAll] at hr
  obtain⟨z,h1,hr⟩:=Option.bind_eq_some_iff.1 hr
  obtain⟨zs,h2,rfl⟩:=Option.map_eq_some_iff.1 hr
  cases h with
  | cons h hs=>
   refine .cons ?_ (ih h2 hs)
   unfold St.rdArgM at h1
   cases hm:ms.headD .rd with
   | rd=>rw[hm] at h;exact h
   | io=>rw[hm] at h h1;simp only[Option.some.injEq] at h1;subst h1;exact h
   | mv=>rw[hm] at h;exact h
   | iov=>rw[hm] at h h1;simp only[Option.some.injEq] at h1;subst h1;exact h
theorem Zyp (hP:FuncsOk P) (hcon:∀(f:FuncId) (xs:List V) (r:V) (os:List V),C f xs=some (r,os)→(∃fn,P.funcs[f]?=some fn∧fn.body.isSome=true)∧Zko P (M.modes f) f xs r os):Kr P M C:=by
 intro B io w tmps s ρ F fl k v s' h hnew g args us hsz hen he
 unfold Zeq at he
 split at he
 case isFalse=>cases he
 rename_i hl8
 obtain⟨⟨ys,s1⟩,hgive,he⟩:=Option.bind_eq_some_iff.1 he
 obtain⟨xs,hrd,he⟩:=Option.bind_eq_some_iff.1 he
 obtain⟨⟨r,os⟩,hc,he⟩:=Option.bind_eq_some_iff.1 he
 simp only at hrd he
 split at he
 case isTrue=>cases he
 rename_i hplain
 obtain⟨s2,hback,hres⟩:=Option.bind_eq_some_iff.1 he
 obtain⟨⟨fn,hfn,hbody⟩,hcontract⟩:=hcon g xs r os hc
 have hen':∀(j:Nat) (u:Value) (x:V),us.toList[j]?=some u→args[j]?=some x→En w (okS s ρ w) ρ u x:=fun j u x hu hx=>hen j u x (by simpa using hu) hx
 obtain⟨G,hR1,hargsP,hless⟩:=Z8w h args (us:=us.toList) h (.refl _) (by simpa using hsz) hen' hgive
 have hbk:=Z9m h (.refl _) (by simpa using hsz) hen' hgive
 have hkill:=Zn8 hgive
 refine⟨fn,hfn,hbody,hP.name g fn hfn,?_⟩
 have hGn:=(List.nodup_append.1 hR1.flOnce).1
 have hGlt:∀x∈G,x < w.heap.size:=fun x hx=>hR1.flMine x (List.mem_append_left _ hx)
 let T:Nat→Prop:=Wd s s1 ρ F
 have hTA:Anch w T:=⟨h.base0.anch.1,h.base0.anch.2.1,fun x ⟨id,b,h1,h2,h3,h4,h5⟩=>h.base0.anch.2.2 x (h.top id b h1 h2 h5 x h4)⟩
 have hTtop:∀x,T x→tops s ρ x:=fun x ⟨id,b,h1,h2,h3,h4,_⟩=>h.head_tops h1 h2 h4
 have htops1:∀x,tops s1 ρ x→tops s ρ x:=fun x ⟨id,b,o,c,sz,h1,h2,h3⟩=>⟨id,b,o,c,sz,hless.sub id b h1,h2,h3⟩
 have halive:∀id b,s1.heap id=some b→b.own=true→∀x∈F id,¬T x:=fun id b hb ho x hx ⟨id2,b2,h1,h2,h3,h4,_⟩=>by
  have hne:id≠id2:=fun e=>by subst e;rw[hb] at h3;cases h3
  have hx2:x∈F id2:=by
   cases hf:F id2 with
   | nil=>rw[hf] at h4;simp at h4
   | cons y l=>
          rw[hf] at h4;have:y=x:=by simpa using h4
          subst this;exact List.mem_cons_self
  exact h.apart id id2 b b2 (hless.sub id b hb) ho h1 h2 hne x hx hx2
 have halive1:∀x,tops s1 ρ x→¬T x∧x ∉ G:=fun x ⟨id,b,o,c,sz,h1,h2,h3⟩=>by
  have hx:x∈F id:=by
   have:=hR1.heap id b h1
   rw[h3] at this
   exact this.top h2
  exact⟨halive id b h1 h2 x hx,fun hg=>hR1.flApart id b h1 h2 x hx (List.mem_append_left _ hg)⟩
 have behind:∀(X:Nat→Prop) (ok0:Nat→Prop),(∀x,okS s ρ w x→ok0 x)→(∀x,ok0 x→x < w.heap.size∧¬T x)→(Zn9 r=false∧os.any Za6=false∨(∀x,tops s1 ρ x→X x))→∀(val:Value) (w':World),Done P (M.modes g) w us xs G T X r os val w'→Stp P B io w tmps s ρ fl k v s' val w':=by
  intro X ok0 _ _ htrX val w' hd
  obtain⟨hleft,ok',top',fr,fo,hresR,houts,hnd,hsrc,htop',hok'⟩:=hd
  have hkeep:∀x,okS s ρ w x→w'.heap[x]?=w.heap[x]?:=fun x hx=>hleft.block x hx.2 (fun ht=>hx.1 (hTtop x ht))
  have hkeepF:∀id b,s1.heap id=some b→∀x∈F id,w'.heap[x]?=w.heap[x]?:=fun id b hb x hx=>by
   refine hleft.block x (hR1.F_lt hb x hx) ?_
   cases ho:b.own with
   | true=>exact halive id b hb ho x hx
   | false=>
    have hB:=h.heap id b (hless.sub id b hb)
    unfold BlkR at hB
    rw[ho] at hB
    split at hB
    ·cases hB.1
    ·rename_i h2;cases h2
    ·rw[hB.1] at hx;cases hx
  have hflk:∀x∈fl,x < w.heap.size:=fun x hx=>h.flMine x hx
  let okc:Nat→Prop:=fun x=>okS s ρ w x∨(ok' x∧¬tops s1 ρ x)
  have hRG:RelG P B io w' tmps s1 ρ F (fo++(fr++fl)) (fun x=>okS s ρ w x∨(ok' x∧¬tops s1 ρ x)):=by
   refine⟨fun t u hu=>?_,fun t ht=>by rw[hless.env];exact h.out t ht,fun id b hb=>?_,fun id b hb ho x hx=>Nat.lt_of_lt_of_le (hR1.mine id b hb ho x hx) hleft.size,fun id b hb ho hcap x hx=>hR1.top id b hb ho hcap x hx,hR1.apart,hR1.once,fun id hid=>hR1.dom id hid,h.base0.step hleft.size (fun k hk hio=>hleft.block k (Nat.lt_of_lt_of_le hk h.base) (fun⟨id,b,h1,h2,h3,h4,h5⟩=>by
    rcases h.top id b h1 h2 h5 k h4 with h6|h6
    ·exact hio h6
    ·omega)),fun x hx=>?_,fun id b hb ho x hx hx2=>?_,?_⟩
   ·rw[hless.env]
    exact ((h.env t u hu).world hkeep).ext (fun x hx=>.inl hx) (fun _ _ h=>h)
   ·exact ((h.heap id b (hless.sub id b hb)).world hkeep (hkeepF id b hb)).ext (fun x hx=>.inl hx) (fun _ _ h=>h)
   ·rcases List.mem_append.1 hx with hx|hx
    ·exact (hsrc x (List.mem_append_right _ hx)).1
    ·rcases List.mem_append.1 hx with hx|hx
     ·exact (hsrc x (List.mem_append_left _ hx)).1
     ·exact Nat.lt_of_lt_of_le (hflk x hx) hleft.size
   ·have hlt:=hR1.mine id b hb ho x hx
    have nf:x ∉ fr++fo:=fun hm=>by
     rcases (hsrc x hm).2 with hG|hge
     ·exact hR1.flApart id b hb ho x hx (List.mem_append_left _ hG)
     ·omega
    rcases List.mem_append.1 hx2 with hx2|hx2
    ·exact nf (List.mem_append_right _ hx2)
    ·rcases List.mem_append.1 hx2 with hx2|hx2
     ·exact nf (List.mem_append_left _ hx2)
     ·exact hR1.flApart id b hb ho x hx (List.mem_append_right _ hx2)
   ·have n1:((fr++fo)++fl).Nodup:=List.nodup_append.2 ⟨hnd,h.flOnce,fun x hx y hy e=>by
     subst e
     rcases (hsrc x hx).2 with hG|hge
     ·exact (List.nodup_append.1 hR1.flOnce).2.2 x hG x hy rfl
     ·have:=hflk x hy;omega⟩
    have p1:(fo++(fr++fl)).Perm ((fr++fo)++fl):=by
     rw[←List.append_assoc]
     exact List.Perm.append_right _ List.perm_append_comm
    exact p1.nodup_iff.2 n1
  have htopio:∀x,top' x→io x∨B≤x:=fun x hx=>by
   rcases htop' x hx with⟨id,b,h1,h2,h3,h4,h5⟩|hge
   ·exact h.top id b h1 h2 h5 x h4
   ·have:=h.base;exact .inr (by omega)
  have htrok:Zn9 r=false∧os.any Za6=false∨∀x,ok' x→(okS s ρ w x∨(ok' x∧¬tops s1 ρ x)):=by
   rcases htrX with h1|h1
   ·exact .inl h1
   ·exact .inr fun x hx=>.inr ⟨hx,fun ht=>(hok' x hx).2.2 (h1 x ht)⟩
  have houts2:OutsR P w' (fun x=>okS s ρ w x∨(ok' x∧¬tops s1 ρ x)) top' (M.modes g) us.toList ys os fo:=
   Z6r (Z9a hrd houts) (htrok.symm.imp (fun h=>h) (fun h=>h.2))
  have hresR2:ResR P w' (fun x=>okS s ρ w x∨(ok' x∧¬tops s1 ρ x)) top' val r fr:=by
   rcases htrok with h1|h1
   ·exact Z76 hresR h1.1
   ·exact Z9z hresR h1
  have hfree:∀id:Id,id.1=s.ep→id.2 / 1024=k→ρ id=none∧s1.heap id=none:=fun id h1 h2=>by
   have hn:=hnew id h1 h2
   refine⟨hn,?_⟩
   cases hb:s1.heap id with
   | none=>rfl
   | some b=>
    exfalso
    have hB:=hR1.heap id b hb
    rw[hn] at hB
    unfold BlkR at hB
    split at hB
    ·obtain⟨_,_,_,_,_,hi,_⟩:=hB;cases hi
    ·rcases hB with⟨hi,_⟩|⟨_,_,_,_,hi,_⟩<;>cases hi
    ·obtain⟨_,hB⟩:=hB
     rcases hB with⟨hi,_⟩|⟨_,_,_,_,hi,_⟩<;>cases hi
  obtain⟨ρ2,F2,t2⟩:=Yac (e:=s.ep) (k:=16*k+8) args hRG hbk houts2 (fun j u x hu hx=>⟨w,okS s ρ w,hen' j u x hu hx⟩) htopio (by rw[hless.ep];exact Nat.le_refl _) (fun j hj hlt=>hfree _ rfl (by simp only;omega)) hkill.1.1 (fun id hid=>(hkill.1.2 id hid).1) hback
  have hbkρ:∀id∈bkMs (M.modes g) args,∀j,64*(16*k)≤j→j < 64*(16*k+8)→id≠(s.ep,j):=fun id hid j hj hlt e=>by
   subst e
   obtain⟨b,hb⟩:=(hkill.1.2 _ hid).2
   have hB:=h.heap _ b hb
   rw[hnew (s.ep,j) rfl (by simp only;omega)] at hB
   unfold BlkR at hB
   split at hB
   ·obtain⟨_,_,_,_,_,hi,_⟩:=hB;cases hi
   ·rcases hB with⟨hi,_⟩|⟨_,_,_,_,hi,_⟩<;>cases hi
   ·obtain⟨_,hB⟩:=hB
    rcases hB with⟨hi,_⟩|⟨_,_,_,_,hi,_⟩<;>cases hi
  obtain⟨ρ3,F3,t3,en3⟩:=Z4u (e:=s.ep) (k:=16*k) t2.rel hresR2 htopio (by rw[t2.ep,hless.ep];exact Nat.le_refl _) (fun j hj hlt=>by
   obtain⟨a1,a2⟩:=hfree (s.ep,j) rfl (by simp only;omega)
   have hnJ:¬((((s.ep,j):Id).1=s.ep∧64*(16*k+8)≤((s.ep,j):Id).2∧((s.ep,j):Id).2 < 64*(16*k+8+args.length))∨(s.ep,j)∈bkMs (M.modes g) args):=fun hh=>by
    rcases hh with hh|hh
    ·have:=hh.2.1;simp only at this;omega
    ·exact hbkρ _ hh j hj hlt rfl
   refine⟨?_,by rw[t2.heap _ hnJ];exact a2⟩
   cases hr:ρ2 (s.ep,j) with
   | none=>rfl
   | some i=>
    rcases t2.dom _ (by rw[hr];rfl) with hh|hh
    ·rw[a1] at hh;cases hh
    ·exact absurd hh hnJ) hres
  have hfin:∀x,(okS s ρ w x∨(ok' x∧¬tops s1 ρ x))→okS s' ρ3 w' x:=fun x hx=>by
   have htopx:tops s' ρ3 x→tops s1 ρ x∨top' x:=fun ht=>by
    rcases t3.tops x ht with h1|h1
    ·exact t2.tops x h1
    ·exact .inr h1
   rcases hx with hx|hx
   ·refine⟨fun ht=>?_,Nat.lt_of_lt_of_le hx.2 hleft.size⟩
    rcases htopx ht with h1|h1
    ·exact hx.1 (htops1 x h1)
    ·rcases htop' x h1 with h2|h2
     ·exact hx.1 (hTtop x h2)
     ·have:=hx.2;omega
   ·refine⟨fun ht=>?_,(hok' x hx.1).1⟩
    rcases htopx ht with h1|h1
    ·exact hx.2 h1
    ·exact (hok' x hx.1).2.1 h1
  refine⟨by rw[t3.env,t2.env,hless.env],by rw[t3.ep,t2.ep,hless.ep],⟨hleft.os,hleft.tape,hleft.output,hleft.size,fun x hx hio=>hleft.block x (by have:=h.base;omega) (fun⟨id,b,h1,h2,h3,h4,h5⟩=>?_)⟩,ρ3,F3,t3.rel.toRel hfin,en3.ext hfin (fun _ _ h=>h),fun id i hi=>t3.ext id i (t2.ext id i hi),fun id hid=>?_⟩
  ·rcases h.top id b h1 h2 h5 x h4 with h6|h6
   ·exact hio h6
   ·omega
  ·rcases t3.dom id hid with h1|h1
   ·rcases t2.dom id h1 with h2|h2
    ·exact .inl h2
    ·rcases h2 with h2|h2
     ·exact .inr ⟨h2.1,by omega⟩
     ·left
      obtain⟨b,hb⟩:=(hkill.1.2 id h2).2
      have hB:=h.heap id b hb
      cases hr:ρ id with
      | some i=>rfl
      | none=>
       exfalso
       rw[hr] at hB
       unfold BlkR at hB
       split at hB
       ·obtain⟨_,_,_,_,_,hi,_⟩:=hB;cases hi
       ·rcases hB with⟨hi,_⟩|⟨_,_,_,_,hi,_⟩<;>cases hi
       ·obtain⟨_,hB⟩:=hB
        rcases hB with⟨hi,_⟩|⟨_,_,_,_,hi,_⟩<;>cases hi
   ·exact .inr ⟨h1.1,by omega⟩
 by_cases htr:Zn9 r=false∧os.any Za6=false
 ·have hok0:∀x,okS s ρ w x→x < w.heap.size∧¬T x∧¬False:=fun x hx=>⟨hx.2,fun ht=>hx.1 (hTtop x ht),fun h=>h⟩
  refine (hcontract w us G T (fun _=>False) (fun x=>x < w.heap.size∧¬T x) hTA ?_ hGn (fun x hx=>⟨hGlt x hx,fun h=>h⟩) (fun x hx=>⟨hx.1,hx.2,fun h=>h⟩) (fun x hx=>hx.elim)).mono (fun e w' ⟨val,he,hd⟩=>⟨val,he,behind _ (fun x=>x < w.heap.size∧¬T x) (fun x hx=>⟨(hok0 x hx).1,(hok0 x hx).2.1⟩) (fun x hx=>hx) (.inl htr) val w' hd⟩)
  refine Zyr h hless (fun x hx=>⟨(hok0 x hx).1,(hok0 x hx).2.1⟩) hargsP (.inr fun id b x o c sz hb ho hρ=>?_) hrd
  have hx:x∈F id:=by
   have:=hR1.heap id b hb
   rw[hρ] at this
   exact this.top ho
  exact⟨hR1.mine id b hb ho x hx,halive id b hb ho x hx⟩
 ·have hpl:Zcv (M.modes g) args=true:=by
   cases hp:Zcv (M.modes g) args with
   | true=>rfl
   | false=>
    exfalso
    apply hplain
    rw[hp]
    cases h1:Zn9 r<;>cases h2:os.any Za6<;>simp
    exact htr ⟨h1,h2⟩
  refine (hcontract w us G T (tops s1 ρ) (okS s ρ w) hTA ?_ hGn (fun x hx=>⟨hGlt x hx,fun ht=>(halive1 x ht).2 hx⟩) (fun x hx=>⟨hx.2,fun ht=>hx.1 (hTtop x ht),fun ht=>hx.1 (htops1 x ht)⟩) (fun x hx=>?_)).mono (fun e w' ⟨val,he,hd⟩=>⟨val,he,behind _ (okS s ρ w) (fun x hx=>hx) (fun x hx=>⟨hx.2,fun ht=>hx.1 (hTtop x ht)⟩) (.inr fun x hx=>hx) val w' hd⟩)
  ·exact Zyr h hless (fun x hx=>hx) hargsP (.inl (Z2x hgive hpl)) hrd
  ·obtain⟨id,b,o,c,sz,h1,h2,h3⟩:=hx
   have hB:=hR1.heap id b h1
   rw[h3] at hB
   unfold BlkR at hB
   split at hB
   ·obtain⟨_,g',cur,e,row,hi,hg,_⟩:=hB
    cases hi
    exact⟨cur,e,hg⟩
   ·rcases hB with⟨hi,_⟩|⟨g',o',c',cur,hi,hg,_⟩
    ·cases hi
    ·cases hi;exact⟨cur,_,hg⟩
   ·rename_i hh;rw[h2] at hh;cases hh
end
end Go.Proofs.YtlcfolgfmlgncaaGreatDoor.Ev
namespace Go.Proofs.YtlcfolgfmlgncaaGreatDoor.Ev
open Go
set_option linter.unusedVariables false
set_option linter.unusedSimpArgs false
set_option linter.unusedSectionVars false
variable [Anchor]
def binI (op:BinOp) (k k':IntKind) (a b:Int):Option V:=
 match op with
 | .shl=>if b < 0 then none else some (.lit (.int k (k.wrap (a*2^min b.toNat k.bits))))
 | .shr=>if b < 0 then none else some (.lit (.int k (a.fdiv (2^min b.toNat k.bits))))
 | op=>if k=k' then match op with
  | .add=>some (.lit (.int k (k.wrap (a+b))))
  | .sub=>some (.lit (.int k (k.wrap (a - b))))
  | .mul=>some (.lit (.int k (k.wrap (a*b))))
  | .quo=>if b=0 then none else some (.lit (.int k (k.wrap (a.tdiv b))))
  | .rem=>if b=0 then none else some (.lit (.int k (a.tmod b)))
  | .and=>some (.lit (.int k (k.wrap ((BitVec.ofInt k.bits a &&& BitVec.ofInt k.bits b).toNat))))
  | .or=>some (.lit (.int k (k.wrap ((BitVec.ofInt k.bits a ||| BitVec.ofInt k.bits b).toNat))))
  | .xor=>some (.lit (.int k (k.wrap ((BitVec.ofInt k.bits a ^^^ BitVec.ofInt k.bits b).toNat))))
  | .andNot=>some (.lit (.int k (k.wrap ((BitVec.ofInt k.bits a &&& ~~~BitVec.ofInt k.bits b).toNat))))
  | .eql=>some (.lit (.bool (decide (a=b))))
  | .neq=>some (.lit (.bool (decide (a≠b))))
  | .lss=>some (.lit (.bool (decide (a < b))))
  | .leq=>some (.lit (.bool (decide (a≤b))))
  | .gtr=>some (.lit (.bool (decide (a > b))))
  | .geq=>some (.lit (.bool (decide (a≥b))))
  | _=>none
  else none
def binS (op:BinOp) (a b:ByteArray):Option V:=
 match op with
 | .add=>if ((a.size+b.size:Nat):Int) > IntKind.i64.max then none else some (.lit (.string (a++b)))
 | .eql=>some (.lit (.bool (a.toList == b.toList)))
 | .neq=>some (.lit (.bool (!(a.toList == b.toList))))
 | .lss=>some (.lit (.bool (Go.Op.bytesLess a.toList b.toList)))
 | .leq=>some (.lit (.bool (Go.Op.bytesLess a.toList b.toList||a.toList == b.toList)))
 | .gtr=>some (.lit (.bool (!(Go.Op.bytesLess a.toList b.toList||a.toList == b.toList))))
 | .geq=>some (.lit (.bool (!(Go.Op.bytesLess a.toList b.toList))))
 | _=>none
section
variable {P:Program} {v:Operand→V}
theorem Zs {α β:Type} (x:Sem α) (f:α→Sem β):eval? P (x >>= f)=(eval? P x).bind fun a=>eval? P (f a):=by
 induction x with
 | pure a=>rfl
 | program k ih=>exact ih P
 | _=>rfl
theorem Zlq {α β:Type} (x:Sem α) (f:α→β):eval? P (f <$> x)=(eval? P x).map f:=by
 induction x with
 | pure a=>rfl
 | program k ih=>exact ih P
 | _=>rfl
def binX (P:Program) (op:BinOp) (t:TypeId) (x y:Operand) (X Y:V):Option V:=
 if (Yg X).isSome&&(Yg Y).isSome then (eval? P (do eqGuard op t x y ((Yg X).getD undef) ((Yg Y).getD undef);binOp op t ((Yg X).getD undef) ((Yg Y).getD undef))).bind Zb7 else none
theorem Zz0 {x:Sem Value}:(match eval? P (Next.value <$> x) with|some (.value v)=>Zb7 v|_=>none)=(eval? P x).bind Zb7:=by
 rw[Zlq]
 cases eval? P x<;>rfl
theorem Z6s {d:Option Tmp} {op:BinOp} {t yt ty:TypeId} {x y:Operand} {p:String} {af:Array Edge} {g:Option (Nat×Bool)}:Ye P v ⟨d,.binOp op t x y yt,ty,p,af,g⟩=binX P op t x y (v x) (v y):=by
 unfold Ye binX
 rw[←Zz0]
 simp only[Zfk,Op.operands,Bool.true_and,List.all_cons,List.all_nil,Bool.and_true]
 rfl
theorem Z3d {op:BinOp} {t:TypeId} {x y:Operand} {k k':IntKind} {a b:Int}:eqGuard op t x y (.int k a) (.int k' b)=pure ():=by
 unfold eqGuard
 cases op<;>rfl
theorem Z2y {op:BinOp} {t:TypeId} {x y:Operand} {a b:ByteArray}:eqGuard op t x y (.string a) (.string b)=pure ():=by
 unfold eqGuard
 cases op<;>rfl
theorem Zqg {op:BinOp} {t:TypeId} {x y:Operand} {a b:Bool}:eqGuard op t x y (.bool a) (.bool b)=pure ():=by
 unfold eqGuard
 cases op<;>rfl
theorem Z9g {op:BinOp} {t:TypeId} {x y:Operand} {k k':IntKind} {a b:Int}:binX P op t x y (.lit (.int k a)) (.lit (.int k' b))=binI op k k' a b:=by
 have e:binX P op t x y (.lit (.int k a)) (.lit (.int k' b))=(eval? P (binOp op t (.int k a) (.int k' b))).bind Zb7:=by
  simp only[binX,Yg,Option.isSome_some,Bool.and_self,if_true,Option.getD_some,Z3d]
  rfl
 rw[e]
 unfold binOp
 by_cases hk:k=k'
 ·subst hk
  cases op<;>simp only[ne_eq,not_true,if_false,if_true,binI]<;>first|rfl|skip
  ·unfold Go.Op.intDiv;by_cases hb:b=0<;>simp only[hb,if_true,if_false]<;>rfl
  ·unfold Go.Op.intDiv;by_cases hb:b=0<;>simp only[hb,if_true,if_false]<;>rfl
  ·unfold Go.Op.shift;by_cases hb:b < 0<;>simp only[hb,if_true,if_false]<;>rfl
  ·unfold Go.Op.shift;by_cases hb:b < 0<;>simp only[hb,if_true,if_false]<;>rfl
  ·simp only[Go.Op.intCmp,bne];exact congrArg (fun c=>some (V.lit (.bool c))) (by by_cases h:a=b<;>simp[h])
 ·cases op<;>simp only[ne_eq,hk,not_false_eq_true,if_true,if_false,binI]<;>first|rfl|skip
  ·unfold Go.Op.shift;by_cases hb:b < 0<;>simp only[hb,if_true,if_false]<;>rfl
  ·unfold Go.Op.shift;by_cases hb:b < 0<;>simp only[hb,if_true,if_false]<;>rfl
theorem Z95 {op:BinOp} {t:TypeId} {x y:Operand} {a b:ByteArray}:binX P op t x y (.lit (.string a)) (.lit (.string b))=binS op a b:=by
 have e:binX P op t x y (.lit (.string a)) (.lit (.string b))=(eval? P (binOp op t (.string a) (.string b))).bind Zb7:=by
  simp only[binX,Yg,Option.isSome_some,Bool.and_self,if_true,Option.getD_some,Z2y]
  rfl
 rw[e]
 unfold binOp
 cases op<;>simp only[binS]<;>first|rfl|skip
 unfold Go.Op.stringOp
 simp only[]
 by_cases hb:((a.size+b.size:Nat):Int) > IntKind.i64.max<;>simp only[hb,if_true,if_false]<;>rfl
theorem Ztf {t:TypeId} {a b:Bool} (ht:P.underlying t=some .bool):eval? P (Go.Op.equal t (.bool a) (.bool b))=some (a == b):=by
 have hu:eval? P (underlying t)=some .bool:=by
  unfold underlying
  rw[Zs]
  show eval? P (match P.underlying t with|some d=>pure d|none=>stuck "no such type" : Sem TypeDesc)=some .bool
  rw[ht];rfl
 show eval? P (Go.Op.equalIn (9999+1) t (.bool a) (.bool b))=_
 unfold Go.Op.equalIn
 rw[Zs,hu]
 rfl
theorem Z9k {t:TypeId} {x y:Operand} {a b:Bool} (ht:P.underlying t=some .bool):binX P .eql t x y (.lit (.bool a)) (.lit (.bool b))=some (.lit (.bool (a == b))):=by
 simp only[binX,Yg,Option.isSome_some,Bool.and_self,if_true,Option.getD_some,Zqg]
 have e:(pure () >>= fun _=>binOp .eql t (.bool a) (.bool b):Sem Value)=((fun b=>Value.bool b) <$> Go.Op.equal t (.bool a) (.bool b)):=rfl
 rw[e,Zlq,Ztf ht]
 rfl
theorem Z99 {t:TypeId} {x y:Operand} {a b:Bool} (ht:P.underlying t=some .bool):binX P .neq t x y (.lit (.bool a)) (.lit (.bool b))=some (.lit (.bool (a != b))):=by
 simp only[binX,Yg,Option.isSome_some,Bool.and_self,if_true,Option.getD_some,Zqg]
 have e:(pure () >>= fun _=>binOp .neq t (.bool a) (.bool b):Sem Value)=((fun b=>Value.bool (!b)) <$> Go.Op.equal t (.bool a) (.bool b)):=rfl
 rw[e,Zlq,Ztf ht]
 rfl
end
def sidx (b:ByteArray) (i:V):Option Int:=(Yf i).bind fun n=>(b[n]?).map fun c=>(c.toNat:Int)
def ssl (b:ByteArray) (lo hi:Option V):Option ByteArray:=
 (match hi with|some v=>Yf v|none=>some b.size).bind fun h=>(match lo with|some v=>Yf v|none=>some 0).bind fun l=>if l≤h∧h≤b.size then some (b.extract l h) else none
def strV (rows:List (List V)):Option ByteArray:=(Zh5 rows).map fun bs=>⟨bs.toArray⟩
section
variable {P:Program} {v:Operand→V} {d:Option Tmp} {t ty:TypeId} {x ix:Operand} {p:String} {af:Array Edge} {g:Option (Nat×Bool)} {b:ByteArray}
theorem Zs2 {t:TypeId} {d:TypeDesc} (ht:P.underlying t=some d):eval? P (underlying t)=some d:=by
 unfold underlying
 rw[Zs]
 show eval? P (match P.underlying t with|some d=>pure d|none=>stuck "no such type" : Sem TypeDesc)=some d
 rw[ht];rfl
theorem Zif {x:V} {n:Nat} (h:Yf x=some n):∃k i,x=.lit (.int k i)∧0≤i∧n=i.toNat:=by
 unfold Yf at h
 split at h
 ·rename_i k i
  split at h
  ·rename_i h0;injection h with h;exact⟨k,i,rfl,h0,h.symm⟩
  ·cases h
 ·cases h
theorem Z87 {m:Int} (ht:P.underlying t=some .string) (hx:v x=.lit (.string b)) (h:sidx b (v ix)=some m):Ye P v ⟨d,.index t x ix,ty,p,af,g⟩=some (.lit (.int .u8 m)):=by
 unfold sidx at h
 obtain⟨n,hn,h⟩:=Option.bind_eq_some_iff.1 h
 obtain⟨c,hc,rfl⟩:=Option.map_eq_some_iff.1 h
 obtain⟨k,i,hi,h0,rfl⟩:=Zif hn
 have key:Ye P v ⟨d,.index t x ix,ty,p,af,g⟩=if (Yg (v x)).isSome&&(Yg (v ix)).isSome then (eval? P (Instr.index t ((Yg (v x)).getD undef) ((Yg (v ix)).getD undef))).bind Zb7 else none:=by
  unfold Ye
  rw[←Zz0]
  simp only[Zfk,Op.operands,Bool.true_and,List.all_cons,List.all_nil,Bool.and_true]
  rfl
 rw[key,hx,hi]
 show (eval? P (Instr.index t (.string b) (.int k i))).bind Zb7=_
 have e:eval? P (Instr.index t (.string b) (.int k i))=some (.int .u8 c.toNat):=by
  unfold Instr.index
  rw[Zs]
  show eval? P (underlying t >>= _)=_
  rw[Zs,Zs2 ht,Option.bind_some]
  show eval? P (match (if 0≤i then b[i.toNat]? else none:Option UInt8) with|some b=>(pure (Value.int .u8 b.toNat):Sem Value)|none=>boundsPanic k i b.size .index)=_
  rw[if_pos h0,hc]
  rfl
 rw[e]
 rfl
theorem Zo0 {k:IntKind} {i:Int} {y:Nat} {code:BoundsCode} (h0:0≤i) (h:i.toNat≤y):eval? P (Instr.sliceBound (.int k i) y code)=some i.toNat:=by
 unfold Instr.sliceBound
 rw[Zs]
 show eval? P (if 0≤i∧i≤y then pure i.toNat else boundsPanic k i y code)=_
 rw[if_pos ⟨h0,by omega⟩]
 rfl
theorem Z04 {n l h:Nat} {lo hi:Option V} (hh:(match hi with|some v=>Yf v|none=>some n)=some h) (hl:(match lo with|some v=>Yf v|none=>some 0)=some l) (h1:l≤h) (h2:h≤n):
  eval? P (Instr.sliceBounds false n n (lo.map fun v=>(Yg v).getD undef) (hi.map fun v=>(Yg v).getD undef) none)=some (l,h,n):=by
 have pu:∀{α:Type} (a:α),eval? P (pure a:Sem α)=some a:=fun _=>rfl
 unfold Instr.sliceBounds
 cases hi with
 | none=>
  simp only[Option.some.injEq] at hh
  subst hh
  cases lo with
  | none=>
   simp only[Option.some.injEq] at hl
   subst hl
   simp only[Option.map_none,Zs,pu,Option.bind_some]
  | some u=>
   obtain⟨k,i,rfl,h0,rfl⟩:=Zif hl
   have e2:=fun c=>Zo0 (P:=P) (k:=k) (code:=c) h0 h1
   simp only[Option.map_none,Option.map_some,Yg,Option.getD_some,Zs,pu,Option.bind_some,e2]
 | some z=>
  obtain⟨k',i',rfl,h0',rfl⟩:=Zif hh
  have e1:=fun c=>Zo0 (P:=P) (k:=k') (code:=c) h0' h2
  cases lo with
  | none=>
   simp only[Option.some.injEq] at hl
   subst hl
   simp only[Option.map_none,Option.map_some,Yg,Option.getD_some,Zs,pu,Option.bind_some,e1]
  | some u=>
   obtain⟨k,i,rfl,h0,rfl⟩:=Zif hl
   have e2:=fun c=>Zo0 (P:=P) (k:=k) (code:=c) h0 h1
   simp only[Option.map_none,Option.map_some,Yg,Option.getD_some,Zs,pu,Option.bind_some,e1,e2]
theorem Z62 {lo hi:Option Operand} {c:ByteArray} (ht:P.underlying t=some .string) (hx:v x=.lit (.string b)) (h:ssl b (lo.map v) (hi.map v)=some c):Ye P v ⟨d,.slice t x lo hi none,ty,p,af,g⟩=some (.lit (.string c)):=by
 unfold ssl at h
 obtain⟨h',hh,h⟩:=Option.bind_eq_some_iff.1 h
 obtain⟨l,hl,h⟩:=Option.bind_eq_some_iff.1 h
 split at h
 case isFalse=>cases h
 rename_i h1
 injection h with h
 subst h
 have okL:∀{z:Operand} {m:Nat},Yf (v z)=some m→(Yg (v z)).isSome=true:=fun {z m} ho=>by
  obtain⟨k,i,e,_⟩:=Zif ho
  rw[e];rfl
 have key:Ye P v ⟨d,.slice t x lo hi none,ty,p,af,g⟩=(eval? P (Instr.sliceAt t ((Yg (v x)).getD undef) (lo.map fun y=>(Yg (v y)).getD undef) (hi.map fun y=>(Yg (v y)).getD undef) none)).bind Zb7:=by
  unfold Ye
  rw[←Zz0]
  rw[if_pos (by
   simp only[Zfk,Bool.true_and,List.all_eq_true]
   intro y hy
   cases lo with
   | none=>cases hi with
    | none=>
     have:y=x:=by simpa [Op.operands] using hy
     subst this;rw[hx];rfl
    | some z=>
     have:y=x∨y=z:=by simpa [Op.operands] using hy
     rcases this with e|e
     ·subst e;rw[hx];rfl
     ·subst e;exact okL (m:=h') hh
   | some u=>cases hi with
    | none=>
     have:y=x∨y=u:=by simpa [Op.operands] using hy
     rcases this with e|e
     ·subst e;rw[hx];rfl
     ·subst e;exact okL (m:=l) hl
    | some z=>
     have:y=x∨y=u∨y=z:=by simpa [Op.operands] using hy
     rcases this with e|e|e
     ·subst e;rw[hx];rfl
     ·subst e;exact okL (m:=l) hl
     ·subst e;exact okL (m:=h') hh)]
  rfl
 rw[key,hx]
 have em:∀o:Option Operand,(o.map fun y=>(Yg (v y)).getD undef)=(o.map v).map fun z=>(Yg z).getD undef:=fun o=>by cases o<;>rfl
 rw[em,em]
 have e:eval? P (Instr.sliceAt t (.string b) ((lo.map v).map fun z=>(Yg z).getD undef) ((hi.map v).map fun z=>(Yg z).getD undef) none)=some (.string (b.extract l h')):=by
  unfold Instr.sliceAt
  rw[Zs,Zs2 ht]
  show eval? P (Instr.slice t (.string b) _ _ none)=_
  unfold Instr.slice
  rw[Zs,Zs2 ht]
  show eval? P (Instr.sliceBounds false b.size b.size _ _ none >>= _)=_
  rw[Zs,Z04 hh hl h1.1 h1.2]
  rfl
 show (eval? P (Instr.sliceAt t (.string b) _ _ none)).bind Zb7=_
 rw[e]
 rfl
end
end Go.Proofs.YtlcfolgfmlgncaaGreatDoor.Ev
namespace Go.Proofs.YtlcfolgfmlgncaaGreatDoor.Ev
open Go Go.RowKit Go.ChangeShapes Go.WideShapes
set_option linter.unusedVariables false
set_option linter.unusedSimpArgs false
section
variable {H:Type} {enc:TypeId×Value→H} {P:Program} {w:World}
def okW (w:World) (g:Nat):Prop:=g < w.heap.size
def RdC (w:World) (cs:List Value) (xs:List V):Prop:=cs.length=xs.length∧∀(k:Nat) (v:Value) (x:V),cs[k]?=some v→xs[k]?=some x→Rd w (okW w) v x
theorem RdC.one {v:Value} {x:V} (h:Rd w (okW w) v x):RdC w [v] [x]:=by
 refine⟨rfl,fun k u y h1 h2=>?_⟩
 cases k with
 | zero=>simp at h1 h2;subst h1;subst h2;exact h
 | succ k=>simp at h1
theorem RdC.append {cs ds:List Value} {xs ys:List V} (h:RdC w cs xs) (k:RdC w ds ys):RdC w (cs++ds) (xs++ys):=by
 refine⟨by rw[List.length_append,List.length_append,h.1,k.1],fun i v x h1 h2=>?_⟩
 rcases Nat.lt_or_ge i cs.length with hi|hi
 ·rw[List.getElem?_append_left hi] at h1
  rw[List.getElem?_append_left (by rw[←h.1];exact hi)] at h2
  exact h.2 i v x h1 h2
 ·rw[List.getElem?_append_right hi] at h1
  rw[List.getElem?_append_right (by rw[←h.1];exact hi),←h.1] at h2
  exact k.2 _ v x h1 h2
def OpV {α:Type} (enc:TypeId×Value→H) (P:Program) (w:World) (t:TypeId) (e:α→List V) (Q:α→Prop):Prop:=
 ∀(fuel:Nat) (cs:List Value) (x:DataW H×List MemPlace),DataW.trod enc P w 0 (fun _=>true) true fuel t cs=some x→∃a,RdC w cs (e a)∧Q a
theorem Ya9 {t:TypeId} {k:IntKind} (ht:P.underlying t=some (.int k)):OpV enc P w t (fun n:Int=>[.lit (.int k n)]) (fun n=>(Lit.int k n).wf=true):=by
 intro fuel cs x h
 obtain⟨n,rfl,_,hw⟩:=DataW.trod_int ht h
 exact⟨n,.one (.lit rfl),hw⟩
theorem opv_bool {t:TypeId} (ht:P.underlying t=some .bool):OpV enc P w t (fun b:Bool=>[.lit (.bool b)]) (fun _=>True):=by
 intro fuel cs x h
 obtain⟨n,rfl,_⟩:=DataW.trod_bool ht h
 exact⟨n,.one (.lit rfl),trivial⟩
theorem opv_imp {α β:Type} {t:TypeId} {e:α→List V} {e':β→List V} {Q:α→Prop} {Q':β→Prop} (h:OpV enc P w t e Q) (f:α→β) (he:∀a,Q a→e' (f a)=e a) (hq:∀a,Q a→Q' (f a)):OpV enc P w t e' Q':=by
 intro fuel cs x hx
 obtain⟨a,h1,h2⟩:=h fuel cs x hx
 exact⟨f a,by rw[he a h2];exact h1,hq a h2⟩
theorem Z78 {α:Type} {t el:TypeId} {e:α→List V} {Q:α→Prop} (ht:P.underlying t=some (.slice el)) (hs:∀a,(e a).length=P.cellsOf el) (hz:P.cellsOf el≠0) (he:OpV enc P w el e Q):
  OpV enc P w t (fun xs:List α=>[.tr (xs.map e)]) (fun xs=>xs.length≤maxLen∧∀x∈xs,Q x):=by
 intro fuel cs x h
 rcases DataW.trod_slice ht h with⟨rfl,_⟩|⟨a,len,cap,elems,rest,n,_,rfl,rfl,hb,hl,hm,hlen,hel,_,_⟩
 ·exact⟨[],.one .emp,by simp,by simp⟩
 ·have each:∀i:Fin len,∃p,∃c:List Value,RdC w c (e p)∧Q p∧c.length=P.cellsOf el∧∀(j:Nat) (u:Value),c[j]?=some u→w.cell? (a.add (i.1*P.cellsOf el+j))=some u:=by
   intro i
   have h1:=hel i.1 i.2
   have h2:elems[i.1]?=some elems[i.1]:=List.getElem?_eq_getElem (by omega)
   rw[h2] at h1
   obtain⟨c,hc,hy⟩:=Option.bind_eq_some_iff.1 h1
   obtain⟨p,hK,hQ⟩:=he _ _ _ hy
   obtain⟨_,hcl,hcc⟩:=World.cells?_some hc
   refine⟨p,c,hK,hQ,hcl,fun j u hj=>?_⟩
   have hjl:j < P.cellsOf el:=by
    have:=(List.getElem?_eq_some_iff.1 hj).1
    omega
   have h3:=hcc j hjl
   rw[hj] at h3
   rw[←h3]
   congr 1
   simp only[Addr.add]
   split<;>split<;>split<;>simp_all<;>omega
  refine⟨List.ofFn fun i=>Classical.choose (each i),.one ?_,by simp;omega,?_⟩
  ·rcases Nat.eq_zero_or_pos len with rfl|hpos
   ·exact .emp
   ·have hget:∀(k:Nat) (x:V),((List.ofFn fun i=>Classical.choose (each i)).map e).flatten[k]?=some x→∃v,w.cell? (a.add k)=some v∧Rd w (okW w) v x:=by
     intro k x hk
     haveI:Anchor:=⟨w⟩
     obtain⟨i,j,row,h1,h2,rfl⟩:=Zmv (sz:=P.cellsOf el) (fun r hr=>by
      obtain⟨p,_,rfl⟩:=List.mem_map.1 hr
      exact hs p) hk
     rw[List.getElem?_map] at h1
     obtain⟨p,h3,rfl⟩:=Option.map_eq_some_iff.1 h1
     obtain⟨hi,rfl⟩:=List.getElem?_eq_some_iff.1 h3
     rw[List.length_ofFn] at hi
     obtain⟨c,hK,hQ,hcl,hcc⟩:=Classical.choose_spec (each ⟨i,hi⟩)
     rw[List.getElem_ofFn] at h2
     have hjl:j < c.length:=by
      have:=(List.getElem?_eq_some_iff.1 h2).1
      rw[hK.1];exact this
     exact⟨c[j],hcc j _ (List.getElem?_eq_getElem hjl),hK.2 j _ _ (List.getElem?_eq_getElem hjl) h2⟩
    have hspot:a.spot=none:=by
     obtain⟨c,hK,hQ,hcl,hcc⟩:=Classical.choose_spec (each ⟨0,hpos⟩)
     have h0:=hcc 0 c[0] (List.getElem?_eq_getElem (by omega))
     simp only[Nat.zero_mul,Nat.add_zero,Addr.add,if_true] at h0
     exact World.cell?_spot h0
    obtain⟨g,o,sp⟩:=a
    simp only at hspot
    subst hspot
    have hadd:∀k,(Addr.mk g o none).add k=⟨g,o+k,none⟩:=fun k=>by
     unfold Addr.add
     split
     ·rename_i h;rw[h];rfl
     ·rfl
    refine .tr (u:=fun k=>(w.cell? ⟨g,o+k,none⟩).getD undef) (by simp) hl hm (sz:=P.cellsOf el) (fun r hr=>by
      obtain⟨p,_,rfl⟩:=List.mem_map.1 hr
      exact hs p) ?_ (fun k x hk=>?_) (fun k x hk=>?_)
    ·obtain⟨c,hK,hQ,hcl,hcc⟩:=Classical.choose_spec (each ⟨0,hpos⟩)
     have h0:=hcc 0 c[0] (List.getElem?_eq_getElem (by omega))
     rw[hadd] at h0
     exact Zvr h0
    ·obtain⟨v,hv,_⟩:=hget k x hk
     rw[hadd] at hv
     rw[hv];rfl
    ·obtain⟨v,hv,hr⟩:=hget k x hk
     rw[hadd] at hv
     rw[hv];exact hr
  ·intro p hp
   obtain⟨i,rfl⟩:=List.mem_ofFn.1 hp
   obtain⟨c,hK,hQ,_⟩:=Classical.choose_spec (each i)
   exact hQ
def OpVF {α:Type} (enc:TypeId×Value→H) (P:Program) (w:World) (fs:List Field) (off sz:Nat) (e:α→List V) (Q:α→Prop):Prop:=
 ∀(n:Nat) (cs:List Value) (xs:List (DataW H×List MemPlace)),cs.length=off+sz→xs.length=fs.length→
  (∀(i:Nat) (f:Field),fs[i]?=some f→DataW.trod enc P w 0 (fun _=>true) true n f.type ((cs.drop f.offset).take (P.cellsOf f.type))=xs[i]?)→∃a,RdC w (cs.drop off) (e a)∧Q a
theorem opvf_one {α:Type} {f:Field} {off sz:Nat} {e:α→List V} {Q:α→Prop} (ho:f.offset=off) (hs:P.cellsOf f.type=sz) (h:OpV enc P w f.type e Q):OpVF enc P w [f] off sz e Q:=by
 intro n cs xs hl hx hf
 have h0:=hf 0 f rfl
 match xs,hx with
 | [y],_=>
  obtain⟨a,hK,hQ⟩:=h _ _ _ h0
  refine⟨a,?_,hQ⟩
  rw[ho,hs,List.take_of_length_le (by rw[List.length_drop];omega)] at hK
  exact hK
theorem opvf_cons {α β:Type} {f:Field} {fs:List Field} {off sa sb:Nat} {a:α→List V} {b:β→List V} {Qa:α→Prop} {Qb:β→Prop} (ho:f.offset=off) (hs:P.cellsOf f.type=sa) (ha:OpV enc P w f.type a Qa)
  (hb:OpVF enc P w fs (off+sa) sb b Qb):OpVF enc P w (f::fs) off (sa+sb) (fun x:α×β=>a x.1++b x.2) (fun x=>Qa x.1∧Qb x.2):=by
 intro n cs xs hl hx hf
 match xs,hx with
 | y::ys,hx=>
  have h0:=hf 0 f rfl
  obtain⟨x0,hK,hQ⟩:=ha _ _ _ h0
  obtain⟨x1,hK1,hQ1⟩:=hb n cs ys (by omega) (by simpa using hx) (fun i g hg=>by simpa using hf (i+1) g (by simpa using hg))
  refine⟨(x0,x1),?_,hQ,hQ1⟩
  rw[ho,hs] at hK
  have e:cs.drop off=(cs.drop off).take sa++cs.drop (off+sa):=by rw[←List.drop_drop,List.take_append_drop]
  rw[e]
  exact hK.append hK1
theorem Yb7 {α:Type} {t:TypeId} {fs:Array Field} {e:α→List V} {Q:α→Prop} {sz:Nat} (ht:P.underlying t=some (.struct fs)) (hs:P.cellsOf t=sz) (h:OpVF enc P w fs.toList 0 sz e Q):OpV enc P w t e Q:=by
 intro fuel cs x hx
 obtain⟨xs,n,_,rfl,hl,hxl,hf⟩:=DataW.trod_struct ht hx
 obtain⟨a,hK,hQ⟩:=h n cs xs (by omega) (by simpa using hxl) (fun i f hif=>hf i f (by simpa using hif))
 exact⟨a,by simpa using hK,hQ⟩
theorem Rd.cellish0 {ok:Nat→Prop} {v:Value} {x:V} (h:Rd w ok v x):Ev.cellish x=true:=by
 cases h<;>rfl
theorem Z58 {α:Type} {t el:TypeId} {e:α→V} {Q:α→Prop} {r:Reach} {b0:Nat} {v:Value} {x:DataW H} {p:List MemPlace} (ht:P.underlying t=some (.slice el)) (ho:OpV enc P w t (fun a=>[e a]) Q)
  (hv:Value.okWide P w r b0 t v) (h:DataW.Trod enc P w 0 (fun _=>true) true t v x p):∃a:α,Q a∧∀ρ,En w (okW w) ρ v (e a):=by
 obtain⟨A0,len,cap,rfl⟩:=okWide_slice ht hv
 obtain⟨n,hn⟩:=h
 obtain⟨a,hK,hQ⟩:=ho _ _ _ hn
 haveI:Anchor:=⟨w⟩
 exact⟨a,hQ,fun ρ=>(hK.2 0 _ _ rfl rfl).en⟩
theorem Yb6 {α:Type} {t:TypeId} {fs:Array Field} {e:α→List V} {Q:α→Prop} {r:Reach} {b0:Nat} {v:Value} {x:DataW H} {p:List MemPlace} (ht:P.underlying t=some (.struct fs)) (ho:OpV enc P w t e Q)
  (hv:Value.okWide P w r b0 t v) (h:DataW.Trod enc P w 0 (fun _=>true) true t v x p):∃a:α,Q a∧∀ρ,En w (okW w) ρ v (.agg (e a)):=by
 obtain⟨cs,rfl,_⟩:=okWide_struct ht hv
 obtain⟨n,hn⟩:=h
 obtain⟨a,hK,hQ⟩:=ho _ _ _ hn
 simp only[Value.cells] at hK
 haveI:Anchor:=⟨w⟩
 refine⟨a,hQ,fun ρ=>.agg (by rw[←Array.length_toList];exact hK.1) (fun y hy=>?_) (fun k u y h1 h2=>(hK.2 k u y (by simpa using h1) h2).en)⟩
 obtain⟨k,hk,rfl⟩:=List.getElem_of_mem hy
 exact (hK.2 k _ _ (List.getElem?_eq_getElem (by rw[hK.1];exact hk)) (List.getElem?_eq_getElem hk)).cellish0
inductive Ens (w:World):List Value→List V→Prop
 | nil:Ens w [] []
 | cons {u:Value} {x:V} {us:List Value} {xs:List V} (h:∀ρ,En w (okW w) ρ u x) (hs:Ens w us xs):Ens w (u::us) (x::xs)
theorem Ya0:Ens w [] []:=.nil
theorem Z94 {u:Value} {x:V} {us:List Value} {xs:List V} (h:∀ρ,En w (okW w) ρ u x) (hs:Ens w us xs):Ens w (u::us) (x::xs):=.cons h hs
theorem Ybt {us:List Value} {xs:List V} (h:Ens w us xs):∀(j:Nat) (u:Value) (x:V),us[j]?=some u→xs[j]?=some x→∀ρ,En w (okW w) ρ u x:=by
 induction h with
 | nil=>intro j u x h1;simp at h1
 | cons h hs ih=>
  intro j u x h1 h2
  cases j with
  | zero=>simp at h1 h2;subst h1;subst h2;exact h
  | succ j=>exact ih j u x (by simpa using h1) (by simpa using h2)
theorem Z93 [Anchor] {M:Hints} {f:FuncId} {us:List Value} {xs os:List V} (hA0:Anchor.w=w) (hm:M.modes f=[]) (hc:Zko P (M.modes f) f xs (.lit (.bool true)) os) (ha:us.length=xs.length) (he:∀(j:Nat) (u:Value) (x:V),us[j]?=some u→xs[j]?=some x→∀ρ,En w (okW w) ρ u x):
  Calls P f us.toArray w (fun e w'=>e=.returned (.bool true)∧Below w.heap.size w w'):=by
 have hA:∀(us:List Value) (xs:List V),us.length=xs.length→(∀(j:Nat) (u:Value) (x:V),us[j]?=some u→xs[j]?=some x→∀ρ,En w (okW w) ρ u x)→ArgsR P w (okW w) (fun _=>False) [] us xs []:=by
  intro us
  induction us with
  | nil=>intro xs hl _;cases xs with
   | nil=>exact .nil
   | cons x xs=>simp at hl
  | cons u us ih=>intro xs hl he;cases xs with
   | nil=>simp at hl
   | cons x xs=>exact .cons (f1:=[]) (f2:=[]) ⟨he 0 u x rfl rfl,rfl⟩ (ih xs (by simpa using hl) (fun j v y h1 h2=>he (j+1) v y (by simpa using h1) (by simpa using h2)))
 refine (hc w us.toArray [] (fun _=>False) (fun _=>False) (okW w) ⟨by rw[hA0];exact Nat.le_refl _,fun k _=>by rw[hA0],fun g hg=>hg.elim⟩ (by rw[hm];exact hA us xs ha he) List.nodup_nil (fun g hg=>by simp at hg) (fun g hg=>⟨hg,fun h=>h,fun h=>h⟩) (fun g hg=>hg.elim)).mono (fun e w' ⟨v,hv,hd⟩=>?_)
 obtain⟨hleft,ok',top',fr,fo,hres,_⟩:=hd
 have:v=.bool true:=by
  simp only[ResR] at hres
  cases hres with
  | lit h=>rfl
 subst this
 exact⟨hv,hleft.below⟩
end
end Go.Proofs.YtlcfolgfmlgncaaGreatDoor.Ev
namespace Go.Proofs.YtlcfolgfmlgncaaGreatDoor.Ev
open Go Go.RowKit
set_option linter.unusedVariables false
set_option linter.unusedSimpArgs false
set_option linter.unusedSectionVars false
variable [Anchor]
def Lw (P:Program) (c:Code) (Q:Exit→Act→World→Prop) (a:Act) (w:World):Prop:=
 ∀(b:Frame) (k:List Item) (cs:List Frame),∃e a' w',Q e a' w'∧Arrives P (lone (b.at a (.code c::.inLoop c::k)) cs w) b k cs e a' w'
def wpL (P:Program) (c:Code) (Q:Exit→Act→World→Prop) (a:Act) (w:World):Prop:=
 match c with
 | .loop c=>Lw P c Q a w
 | c=>c.wp P Q a w
section
variable {P:Program} {c:Code} {Q:Exit→Act→World→Prop} {a:Act} {w:World}
theorem Znp (h:wpL P c Q a w):c.wp P Q a w:=by
 cases c with
 | loop c=>
  intro b k cs
  obtain⟨e,a',w',hq,harr⟩:=h b k cs
  exact⟨e,a',w',hq,.of_steps (.one step_loop) harr⟩
 | _=>exact h
theorem Z9u (h:c.wp P (Exit.then (fun a' w'=>Lw P c Q a' w') Q) a w):Lw P c Q a w:=by
 intro b k cs
 obtain⟨e,a₁,w₁,hq,harr⟩:=h b (.inLoop c::k) cs
 cases e with
 | normal=>
  obtain⟨e₂,a₂,w₂,hq₂,harr₂⟩:=hq b k cs
  exact⟨e₂,a₂,w₂,hq₂,.of_steps (Steps.trans harr (.one step_inLoop)) harr₂⟩
 | exit id=>exact⟨_,a₁,w₁,hq,.pass (x:=.inLoop c) rfl (fun _ _=>.inl (by simp)) harr⟩
 | goto l=>exact⟨_,a₁,w₁,hq,.pass (x:=.inLoop c) rfl (fun _ _=>.inl (by simp)) harr⟩
 | ret=>exact⟨_,a₁,w₁,hq,.pass (x:=.inLoop c) rfl (fun _ _=>.inl (by simp)) harr⟩
 | panic ch=>exact⟨_,a₁,w₁,hq,.pass (x:=.inLoop c) rfl (fun _ _=>.inl (by simp)) harr⟩
 | outgrown=>exact⟨_,a₁,w₁,hq,.pass (x:=.inLoop c) rfl (fun _ _=>.inl (by simp)) harr⟩
end
def D0:Id→Prop:=phId 64000
theorem D0.zero {id:Id} (h:D0 id):id.1=0:=h.1
def Zqm (P:Program) (B:Nat) (io:Nat→Prop) (fl:List Nat) (w:World) (a:Act) (ρ:Rho) (t':St) (a':Act) (w':World):Prop:=
 ∃ρ' F',Rel P B io w' a'.tmps t' ρ' F' fl∧Left B io w w'∧(∀id i,id.1=0→ρ id=some i→ρ' id=some i)∧a'.tmps.size=a.tmps.size∧a'.defers=a.defers
def Cx (P:Program) (c:Code) (S:St) (R:Ex→St→Prop):Prop:=
 ∀(t:St) (B:Nat) (io:Nat→Prop) (w:World) (a:Act) (ρ:Rho) (F:Id→List Nat) (fl:List Nat) (Q:Exit→Act→World→Prop),ExtE D0 S t→Rel P B io w a.tmps t ρ F fl→X1 a.tmps.size c=true→
  (∀ex S' t' a' w',R ex S'→Ext3 D0 t S' t'→Zqm P B io fl w a ρ t' a' w'→Q ex.to a' w')→wpL P c Q a w
section
variable {P:Program} {M:Hints} {C:Yw} {S:St} {R:Ex→St→Prop} {B:Nat} {io:Nat→Prop} {w w1:World} {a a1 a':Act} {w':World} {ρ ρ1:Rho} {F F1:Id→List Nat} {fl:List Nat} {t t':St}
theorem Zcf.x (h:Zcf P B io fl w a ρ t' a' w'):Zqm P B io fl w a ρ t' a' w':=by
 obtain⟨ρ',F',h1,h2,h3,h4,h5⟩:=h
 exact⟨ρ',F',h1,h2,fun id i _ h=>h3 id i h,h4,h5⟩
theorem Zqm.trans (hl:Left B io w w1) (hρ:∀id i,id.1=0→ρ id=some i→ρ1 id=some i) (ht:a1.tmps.size=a.tmps.size) (hd:a1.defers=a.defers) (h:Zqm P B io fl w1 a1 ρ1 t' a' w'):Zqm P B io fl w a ρ t' a' w':=by
 obtain⟨ρ',F',h1,h2,h3,h4,h5⟩:=h
 exact⟨ρ',F',h1,hl.trans h2,fun id i h0 h=>h3 id i h0 (hρ id i h0 h),h4.trans ht,h5.trans hd⟩
theorem Ya1 (h:R .normal S):Cx P .skip S R:=fun t B io w a ρ F fl Q hE hR hd hQ=>wp_skip (hQ _ _ _ _ _ h hE.three (Zcf.refl hR).x)
theorem Cx_ret (h:R .ret S):Cx P .ret S R:=fun t B io w a ρ F fl Q hE hR hd hQ=>wp_ret (hQ _ _ _ _ _ h hE.three (Zcf.refl hR).x)
theorem Ybh {i:Nat} (h:R (.exit i) S):Cx P (.exit i) S R:=fun t B io w a ρ F fl Q hE hR hd hQ=>wp_exit (hQ _ _ _ _ _ h hE.three (Zcf.refl hR).x)
def thenX (K:St→Prop) (R:Ex→St→Prop):Ex→St→Prop
 | .normal,s=>K s
 | e,s=>R e s
theorem Cx_seq {x y:Code} (h:Cx P x S (thenX (fun s=>Cx P y s R) R)):Cx P (.seq x y) S R:=by
 intro t B io w a ρ F fl Q hE hR hd hQ
 simp only[X1,Bool.and_eq_true] at hd
 refine wp_seq (Znp (h t B io w a ρ F fl _ hE hR hd.1 (fun ex S' t' a' w' hr hx hA=>?_)))
 cases ex with
 | normal=>
  obtain⟨ρ',F',r1,r2,r3,r4,r5⟩:=hA
  show y.wp P Q a' w'
  exact Znp (hr t' B io w' a' ρ' F' fl Q hx.1 r1 (by rw[r4];exact hd.2) (fun ex2 S2 t2 a2 w2 hr2 hx2 hA2=>hQ _ _ _ _ _ hr2 (hx.trans hx2) (.trans r2 r3 r4 r5 hA2)))
 | ret=>exact hQ _ _ _ _ _ hr hx hA
 | exit i=>exact hQ _ _ _ _ _ hr hx hA
theorem Z39 {c:Operand} {x y:Code} {b:Bool} (hc:S.opV c=.lit (.bool b)) (h:Cx P (if b then x else y) S R):Cx P (.cond c x y) S R:=by
 intro t B io w a ρ F fl Q hE hR hd hQ
 simp only[X1,Bool.and_eq_true] at hd
 have hv:=hR.opV c
 rw[hE.opV,hc] at hv
 generalize hq:a.eval c=q at hv
 cases hv
 refine wp_cond hq (Znp ?_)
 refine h t B io w a ρ F fl Q hE hR ?_ hQ
 cases b
 ·exact hd.2
 ·exact hd.1
def inX (i:Nat) (R:Ex→St→Prop):Ex→St→Prop
 | .exit j,s=>if j=i then R .normal s else R (.exit j) s
 | e,s=>R e s
theorem Z8p {i:Nat} {c:Code} (h:Cx P c S (inX i R)):Cx P (.block i c) S R:=by
 intro t B io w a ρ F fl Q hE hR hd hQ
 simp only[X1] at hd
 refine wp_block (Znp (h t B io w a ρ F fl _ hE hR hd (fun ex S' t' a' w' hr hx hA=>?_)))
 cases ex with
 | exit j=>
  show Exit.inBlock i Q (.exit j) a' w'
  simp only[inX] at hr
  by_cases hj:j=i
  ·subst hj
   rw[if_pos rfl] at hr
   simp only[Exit.inBlock,if_true]
   exact hQ _ _ _ _ _ hr hx hA
  ·rw[if_neg hj] at hr
   simp only[Exit.inBlock,if_neg hj]
   exact hQ _ _ _ _ _ hr hx hA
 | normal=>exact hQ _ _ _ _ _ hr hx hA
 | ret=>exact hQ _ _ _ _ _ hr hx hA
theorem Ya6 {c:Code} (h:Cx P c S (thenX (fun s=>Cx P (.loop c) s R) R)):Cx P (.loop c) S R:=by
 intro t B io w a ρ F fl Q hE hR hd hQ
 refine Z9u (Znp (h t B io w a ρ F fl _ hE hR hd (fun ex S' t' a' w' hr hx hA=>?_)))
 cases ex with
 | normal=>
  obtain⟨ρ',F',r1,r2,r3,r4,r5⟩:=hA
  show Lw P c Q a' w'
  exact hr t' B io w' a' ρ' F' fl Q hx.1 r1 (by rw[r4];exact hd) (fun ex2 S2 t2 a2 w2 hr2 hx2 hA2=>hQ _ _ _ _ _ hr2 (hx.trans hx2) (.trans r2 r3 r4 r5 hA2))
 | ret=>exact hQ _ _ _ _ _ hr hx hA
 | exit i=>exact hQ _ _ _ _ _ hr hx hA
theorem Zvu {c:Code} {R':Ex→St→Prop} (h:Cx P c S R) (hR:∀e s,R e s→R' e s):Cx P c S R':=fun t B io w a ρ F fl Q hE hRel hd hQ=>h t B io w a ρ F fl Q hE hRel hd (fun ex S' t' a' w' hr=>hQ ex S' t' a' w' (hR _ _ hr))
abbrev Ans:=FuncId×List V×V×List V
open Classical in
noncomputable def one (q:Ans):Yw:=fun f xs=>if f=q.1∧xs=q.2.1 then some q.2.2 else none
def Zu:Yw:=fun _ _=>none
def Fine (P:Program) (M:Hints) (q:Ans):Prop:=(∃fn,P.funcs[q.1]?=some fn∧fn.body.isSome=true)∧Zko P (M.modes q.1) q.1 q.2.1 q.2.2.1 q.2.2.2
theorem one_ok (hP:FuncsOk P) {q:Ans} (h:Fine P M q):Kr P M (one q):=Zyp hP fun f xs r os hc=>by
 obtain⟨q1,q2,q3,q4⟩:=q
 unfold one at hc
 split at hc
 ·rename_i hh
  obtain⟨rfl,rfl⟩:=hh
  injection hc with hc
  injection hc with h1 h2
  subst h1;subst h2
  exact h
 ·cases hc
theorem Z1 (hP:FuncsOk P):Kr P M Zu:=Zyp hP fun f xs r os hc=>by cases hc
theorem Cx_ops (hP:FuncsOk P) (C:Nat→Yw) (hC:∀k,Kr P M (C k)) {i:Nat} {ops:Array Oper} {S':St} (he:Ju P M C ops ⟨S.env,S.heap,S.ep+1⟩ 0 ops.toList=some S') (h:R .normal S'):Cx P (.region i ops false) S R:=by
 intro t B io w a ρ F fl Q hE hR hd hQ
 have ht:=hE.tick
 obtain⟨t',g,x,_⟩:=ExtE.evops (D:=D0) (fun id h=>h.zero) ops.toList ht.1 (by simp) he
 have hnew:∀id:Id,id.1=t.ep+1→ρ id=none:=fun id hid=>by
  cases hr:ρ id with
  | none=>rfl
  | some x=>have:=hR.dom id (by rw[hr];rfl);omega
 refine wp_region ?_
 rw[List.range_eq_range',←Array.length_toList]
 exact Z89 hC ops.toList hR.tick (by simp) hd (fun id h2 _=>hnew id h2) g (fun a' w' hA=>hQ _ _ _ _ _ h (ht.trans x) hA.x)
theorem Yb5 (hP:FuncsOk P) (C:Nat→Yw) (hC:∀k,Kr P M (C k)) {i:Nat} {ops:Array Oper} (hs:Region.noSelect ops=true) {S':St} (he:Qo P M C ops ⟨S.env,S.heap,S.ep+1⟩ [] 0 ops.toList=some S') (h:R .normal S'):Cx P (.region i ops true) S R:=by
 intro t B io w a ρ F fl Q hE hR hd hQ
 have ht:=hE.tick
 obtain⟨t',g,x⟩:=ExtE.draw (D:=D0) (fun id h=>h.zero) ops.toList ht.1 (by simp) he
 have hnew:∀id:Id,id.1=t.ep+1→ρ id=none:=fun id hid=>by
  cases hr:ρ id with
  | none=>rfl
  | some x=>have:=hR.dom id (by rw[hr];rfl);omega
 refine wp_region_any hP.mixed (Z8f hC (hR.tick.drawn _) g hnew hd (fun a' w' hA=>hQ _ _ _ _ _ h (ht.trans x) ?_))
 obtain⟨ρ',F',r1,r2,r3,r4,r5⟩:=hA
 exact⟨ρ',F',r1,⟨r2.os,r2.tape,r2.output,r2.size,r2.block⟩,fun id i _ h=>r3 id i h,r4,r5⟩
end
section
variable {P:Program} {M:Hints} {B:Nat} {io:Nat→Prop} {w:World} {a:Act} {s:St} {ρ:Rho} {F:Id→List Nat} {fl:List Nat} {k:Nat} {o:Oper}
theorem Z4p (h:Rel P B io w a.tmps s ρ F fl) {t yt e:TypeId} {x y:Operand} (ho:o.op=.binOp .eql t x y yt) (hte:Yk P t=some e) (hx:s.opV x=.tr []) (hy:s.opV y=.lit (.slice none 0 0)):
  ∃b,OpR P o a w (Stp P B io w a.tmps s ρ fl k (.lit (.bool b)) s):=by
 have ht:=Q3 hte
 have hxv:∃ad n c,a.eval x=.slice ad n c:=by
  have hR:=h.rowsOf (ok':=fun g=>g < w.heap.size) (h.opV x) (by rw[hx];rfl) (fun g hg=>hg.2) (fun _ _ _ _ _ _ _ _ _ _ _ _ hg _=>hg)
  generalize a.eval x=q at hR
  cases hR with
  | emp=>exact⟨_,_,_,rfl⟩
  | tr=>exact⟨_,_,_,rfl⟩
 obtain⟨ad,n,c,hxv⟩:=hxv
 have hnil:a.eval y=.slice none 0 0:=by
  have:=h.opV y
  rw[hy] at this
  generalize a.eval y=q at this
  cases this;rfl
 refine⟨ad.isNone,.value (v:=.bool ad.isNone) (w':=w) ?_ (.same h (.lit rfl))⟩
 have g3:(eqGuard .eql t x y (.slice ad n c) (.slice none 0 0)).run P w=.ok () w:=by simp[eqGuard]
 have g4:(binOp .eql t (.slice ad n c) (.slice none 0 0)).run P w=.ok (.bool ad.isNone) w:=by
  have h1:∀d,(Op.equalIn (d+1) t (.slice ad n c) (.slice none 0 0)).run P w=.ok ad.isNone w:=by
   intro d
   cases ad<;>simp[Op.equalIn,run_underlying ht]
  have h2:(Op.equal t (.slice ad n c) (.slice none 0 0)).run P w=.ok ad.isNone w:=h1 9999
  simp[binOp,h2]
 simp only[execOp,ho,Sem.run_bind,Sem.run_pure,Result.andThen_ok,hxv,hnil,g3,g4]
theorem Yb4 (M:Hints) (hP:FuncsOk P) {S:St} {R:Ex→St→Prop} {i:Nat} {d0 d1:Tmp} {x0 y:Operand} {t yt e ty0 ty1:TypeId} {p0 p1:String} {af0 af1:Array Edge} (hte:Yk P t=some e) (hx:S.opV x0=.tr []) (hy:(({S with ep:=S.ep+1}:St).put (some d0) (.tr [])).opV y=.lit (.slice none 0 0))
  (h:∀b,R .normal ((({S with ep:=S.ep+1}:St).put (some d0) (.tr [])).put (some d1) (.lit (.bool b)))):
  Cx P (.region i #[⟨some d0,.move x0,ty0,p0,af0,none⟩,⟨some d1,.binOp .eql t (.tmp d0) y yt,ty1,p1,af1,none⟩] false) S R:=by
 intro t1 B io w a ρ F fl Q hE hR hd hQ
 have ht:=hE.tick
 have hopv:∀{s s':St} (x:Operand),s'.env=s.env→s'.opV x=s.opV x:=fun {s s'} x he=>by cases x<;>simp[St.opV,he]
 have hnew:∀id:Id,id.1=t1.ep+1→ρ id=none:=fun id hid=>by
  cases hr:ρ id with
  | none=>rfl
  | some x=>have:=hR.dom id (by rw[hr];rfl);omega
 refine wp_region ?_
 show wpOps P _ Q (List.range 2) a w
 rw[show List.range 2=[0,1] from rfl,wpOps_cons]
 have hdd:Zgk a.tmps.size [⟨some d0,.move x0,ty0,p0,af0,none⟩,⟨some d1,.binOp .eql t (.tmp d0) y yt,ty1,p1,af1,none⟩]=true:=hd
 have hx':({t1 with ep:=t1.ep+1}:St).opV x0=.tr []:=(hopv (s:=S) (s':={t1 with ep:=t1.ep+1}) x0 hE.env).trans hx
 refine Zqf (M:=M) (C:=Zu) (v:=.tr []) (s1:={t1 with ep:=t1.ep+1}) (g:=true) hR.tick rfl (Zj2 (i:=0) hdd rfl) rfl (fun _ id h1 _=>hnew id h1) (fun _=>by simp[evOp,Zq,hx']) (fun _=>Z1 hP _ _ _ _ _ _ F _ _ _ _ hR.tick (fun id h1 _=>hnew id h1)) (fun a' w' ρ' F' hR1 hep1 hL1 hρ1 hdom1 hts1 hdf1=>?_)
 simp only[if_true] at hR1 hep1
 rw[wpOps_cons]
 have henv2:(({t1 with ep:=t1.ep+1}:St).put (some d0) (.tr [])).env=(({S with ep:=S.ep+1}:St).put (some d0) (.tr [])).env:=by
  simp[St.put,hE.env]
 have hy':=(hopv (s:=({S with ep:=S.ep+1}:St).put (some d0) (.tr [])) (s':=({t1 with ep:=t1.ep+1}:St).put (some d0) (.tr [])) y henv2).trans hy
 have hxx:(({t1 with ep:=t1.ep+1}:St).put (some d0) (.tr [])).opV (.tmp d0)=.tr []:=by simp[St.opV,St.put,upd]
 obtain⟨b,hb⟩:=Z4p (k:=1) (o:=⟨some d1,.binOp .eql t (.tmp d0) y yt,ty1,p1,af1,none⟩) hR1 rfl hte hxx hy'
 unfold wpOp
 rw[show (#[(⟨some d0,.move x0,ty0,p0,af0,none⟩:Oper),⟨some d1,.binOp .eql t (.tmp d0) y yt,ty1,p1,af1,none⟩])[1]?=some ⟨some d1,.binOp .eql t (.tmp d0) y yt,ty1,p1,af1,none⟩ from rfl]
 simp only
 rw[Zwl hR1 (o:=⟨some d1,.binOp .eql t (.tmp d0) y yt,ty1,p1,af1,none⟩) (g:=true) rfl]
 simp only[if_true]
 refine .inl (hb.toW _ _ (fun val w2 hp=>?_))
 obtain⟨henv,hep,hl,ρ2,F2,hR2,hen,hρ2,hdom2⟩:=hp
 have hR3:=hR2.putv (dst:=some d1) (fun d hd=>by rw[hts1];exact Zj2 (i:=1) hdd rfl d hd) hen
 refine hQ _ _ _ _ _ (h b) ((ht.trans (ht.1.put (some d0) (.tr []))).trans ((ht.1.put (some d0) (.tr [])).1.put (some d1) (.lit (.bool b)))) ⟨ρ2,F2,hR3,hL1.trans hl,fun id i h0 hi=>hρ2 _ _ (hρ1 _ _ hi),(Zsl _ _ _).trans hts1,(Zoo _ _ _).trans hdf1⟩
end
theorem En.ptr0 {w:World} {ok:Nat→Prop} {ρ ρ':Rho} {v:Value} {id:Id} {i off:Nat} (hρ:∀i,ρ id=some i→ρ' id=some i) (h:En w ok ρ v (.ptr id i off)):En w ok ρ' v (.ptr id i off):=by
 generalize hq:V.ptr id i off=q at h
 cases h<;>cases hq
 rename_i h
 exact .ptr (hρ _ h)
theorem En.sl0 {w:World} {ok:Nat→Prop} {ρ ρ':Rho} {v:Value} {id:Id} {off len:Nat} (hρ:∀i,ρ id=some i→ρ' id=some i) (h:En w ok ρ v (.sl id off len)):En w ok ρ' v (.sl id off len):=by
 cases h with
 | sl h hc=>exact .sl (hρ _ h) hc
 | sle h=>
  obtain⟨i,hi⟩:=Option.isSome_iff_exists.1 h
  exact .sle (by rw[hρ _ hi];rfl)
theorem Pl.ext0 {ρ ρ':Rho} (hρ:∀id i,id.1=0→ρ id=some i→ρ' id=some i) {p:Nat} {m:Mode} {u:Value} {x:V} (h:Pl ρ p m u x):Pl ρ' p m u x:=by
 cases m
 ·exact trivial
 ·exact fun w ok=>(h w ok).ptr0 (fun i=>hρ _ i rfl)
 ·exact trivial
 ·unfold Pl at h ⊢
  simp only at h ⊢
  split
  ·obtain⟨us,h1,h2,h3⟩:=h
   exact⟨us,h1,h2,fun j v e rows hv hc w ok=>(h3 j v e rows hv hc w ok).sl0 (fun i=>hρ _ i rfl)⟩
  ·rename_i hne
   split at h
   ·rename_i cs;exact absurd rfl (hne cs)
   ·exact fun e rows he w ok=>(h e rows he w ok).sl0 (fun i=>hρ _ i rfl)
theorem PlL.ext0 {ρ ρ':Rho} (hρ:∀id i,id.1=0→ρ id=some i→ρ' id=some i) {p:Nat} {ms:List Mode} {us:List Value} {xs:List V} (h:PlL ρ p ms us xs):PlL ρ' p ms us xs:=by
 induction h with
 | nil=>exact .nil
 | cons h _ ih=>exact .cons (h.ext0 hρ) ih
def RetC (P:Program) (M:Hints) (f:FuncId) (fn:Func) (xs:List V) (y:V×List V) (e:Ex) (s:St):Prop:=
 (match e with|.exit _=>False|_=>True)∧((resV P s fn.results.toList).bind fun vs=>(s.liftAll P fn.resultTypes.toList vs).bind fun z=>(z.2.outs P 0 fn.params.toList (M.modes f) xs).map fun os=>(Zpq z.1,os))=some y
section
variable {P:Program} {M:Hints}
theorem Ybo (hP:FuncsOk P) {f:FuncId} {fn:Func} {c:Code} {xs:List V} {r:V} {os:List V} {s1:St} (hfn:P.funcs[f]?=some fn) (hc:fn.body=some c) (hent:St.enters ⟨fun _=>.undef,fun _=>none,0⟩ 0 (M.modes f) xs=some s1)
  (hcx:Cx P c s1 (RetC P M f fn xs (r,os))):Zko P (M.modes f) f xs r os:=by
 intro w us G T X ok hT hargs hGn hG hok hX
 obtain⟨b,hb⟩:∃b,b=64000:=⟨_,rfl⟩
 have hD1:∀id:Id,phId b id→64000≤id.2:=fun id hid=>by rw[←hb];exact hid.2
 have hD0:∀id:Id,phId b id→id.1=0:=fun id hid=>hid.1
 obtain⟨t1,hent',e1⟩:=ExtE.enters hD1 (ph_ext b w X) hent
 let tmps:=us++Array.replicate (fn.ntmps - us.size) undef
 open Classical in
 let fl0:List Nat:=(List.range w.heap.size).filter fun g=>decide (g ∉ G∧¬X g)
 have hfl0:∀g,g∈fl0↔g < w.heap.size∧g ∉ G∧¬X g:=fun g=>by
  simp only[fl0,List.mem_filter,List.mem_range,decide_eq_true_eq]
 have hnod:(G++fl0).Nodup:=List.nodup_append.2 ⟨hGn,List.nodup_range.sublist List.filter_sublist,fun x hx y hy e=>by subst e;exact ((hfl0 x).1 hy).2.1 hx⟩
 have hbase:RelG P w.heap.size T w tmps (phSt b w X) (phRho b P w X) (fun id=>[id.2 - b]) (G++fl0) ok:=
  ph_rel hT hX (fun g hg=>by
   rcases List.mem_append.1 hg with h|h
   ·exact hG g h
   ·exact⟨((hfl0 g).1 h).1,((hfl0 g).1 h).2.2⟩) hnod
 obtain⟨ρ1,F1,c1,p1⟩:=Z6k (io:=T) (fl:=fl0) xs hbase hargs (fun j u hu=>by
  have hlt:=(List.getElem?_eq_some_iff.1 hu).1
  rw[Nat.zero_add]
  simp only[tmps]
  rw[Array.getElem?_append_left (by simpa using hlt)]
  simpa using hu) rfl (fun j h1 h2=>by
  simp only[phSt,phRho]
  constructor
  ·rw[if_neg (fun h=>by have:=h.2.1;omega)]
  ·rw[if_neg (fun h=>by have:=h.2.1;omega)]) hent'
 have hR1g:RelG P w.heap.size T w tmps t1 ρ1 F1 fl0 ok:=c1.rel
 have hR1:Rel P w.heap.size T w tmps t1 ρ1 F1 fl0:=hR1g.toRel fun g hg=>⟨fun ht=>by
  obtain⟨h1,h2,h3⟩:=hok g hg
  rcases c1.tops g ht with h4|h4
  ·obtain⟨id,bk,o,cc,sz,q1,q2,q3⟩:=h4
   simp only[phSt] at q1
   split at q1
   ·rename_i hh
    obtain⟨cur,e,hcell⟩:=hX _ hh.2.2
    simp only[phRho] at q3
    rw[if_pos hh] at q3
    simp only[Zqu,hcell] at q3
    injection q3 with q3
    injection q3 with q3
    exact h3 (q3▸hh.2.2)
   ·cases q1
  ·exact h2 h4,(hok g hg).1⟩
 have hDb:D0=phId b:=by rw[hb];rfl
 have e1':ExtE D0 s1 t1:=by rw[hDb];exact e1.1
 refine calls_of_wp hfn hc (Znp (hcx t1 w.heap.size T w {tmps:=tmps,defers:=[]} ρ1 F1 fl0 _ e1' hR1 ?_ (fun ex s2 t2 a' w' hret hx hA=>?_)))
 ·refine Z5d ?_ c (hP.dst f fn c hfn hc)
  simp only[tmps,Array.size_append,Array.size_replicate]
  omega
 have e2:Ext3 (phId b) t1 s2 t2:=by rw[←hDb];exact hx
 obtain⟨hexn,hret⟩:=hret
 obtain⟨vs,hres,hret⟩:=Option.bind_eq_some_iff.1 hret
 obtain⟨⟨ys,s3⟩,hlift,hret⟩:=Option.bind_eq_some_iff.1 hret
 obtain⟨os',houts,hret⟩:=Option.map_eq_some_iff.1 hret
 simp only[Prod.mk.injEq] at hret
 obtain⟨rfl,rfl⟩:=hret
 have hexs:ex=.normal∨ex=.ret:=by
  cases ex with
  | normal=>exact .inl rfl
  | ret=>exact .inr rfl
  | exit i=>exact hexn.elim
 have hres':=e2.1.res hres
 obtain⟨t3,hlift',e3⟩:=Ext.liftAll e2.1.ext hlift
 have houts':=Ext.outs e3.1 houts
 have hphh:∀g,X g→t2.heap (0,b+g)=some (Zhk w g):=fun g hg=>by
  have hd:phId b (0,b+g):=⟨rfl,by simp⟩
  rw[e2.2 _ hd,e1.2 _ hd]
  simp only[phSt]
  rw[if_pos ⟨by trivial,by omega,by rw[Nat.add_sub_cancel_left];exact hg⟩,Nat.add_sub_cancel_left]
 obtain⟨ρ2,F2,hR2,hL2,hρ2,hts,hdf⟩:=hA
 obtain⟨rus,hrl,hrrun,hren⟩:=Ybj hR2 fn.results.toList hres'
 obtain⟨fr,hR3,hgo,hl3⟩:=Z6g hR2 vs (fl1:=fl0) hR2 (.refl _) hrl hren hlift'
 obtain⟨t4,fo,hd4,hR4,hos,hl4⟩:=Yb3 (D:=phId b) hR2 xs hR3 hl3 (p1.ext0 hρ2) e3.1 houts houts'
 have hphb:∀g,X g→∃e,Zhk w g=⟨false,true,false,e,[]⟩:=fun g hg=>by
  obtain⟨cur,e,hcell⟩:=hX g hg
  exact⟨e,by simp only[Zhk,hcell]⟩
 have hphr:∀g,X g→∃o c sz,ρ2 (0,b+g)=some (.blk g o c sz):=fun g hg=>by
  obtain⟨cur,e,hcell⟩:=hX g hg
  have h1:phRho b P w X (0,b+g)=some (.blk g cur.size 0 (P.cellsOf e)):=by
   simp only[phRho]
   rw[if_pos ⟨by trivial,by omega,by rw[Nat.add_sub_cancel_left];exact hg⟩,Nat.add_sub_cancel_left]
   simp only[Zqu,hcell]
  exact⟨_,_,_,hρ2 _ _ rfl (c1.ext _ _ h1)⟩
 have hXtop:∀g,X g→tops t2 ρ2 g:=fun g hg=>by
  obtain⟨e,he⟩:=hphb g hg
  obtain⟨o,c,sz,hr⟩:=hphr g hg
  exact⟨(0,b+g),_,o,c,sz,hphh g hg,by rw[he],hr⟩
 have hkt:∀g,Wd t2 t4 ρ2 F2 g→tops t2 ρ2 g:=fun g ⟨id,bk,h1,h2,h3,h4,_⟩=>hR2.head_tops h1 h2 h4
 have hXF:∀g,X g→∀x∈fo++(fr++fl0),x≠g:=fun g hg x hx e=>by
  subst e
  obtain⟨e,he⟩:=hphb x hg
  obtain⟨o,c,sz,hr⟩:=hphr x hg
  have hal:t4.heap (0,b+x)=some (Zhk w x):=by
   have hd:phId b (0,b+x):=⟨rfl,by simp⟩
   rw[hd4 _ hd,e3.2.1 _ hd];exact hphh x hg
  have hown:(Zhk w x).own=true:=by rw[he]
  have hB:=hR4.heap _ _ hal
  rw[hr] at hB
  exact hR4.flApart _ _ hal hown x (hB.top hown) hx
 have hpost:bodyPost P fn (fun e w'=>∃v,e=.returned v∧Done P (M.modes f) w us xs G T X (Zpq ys) os' v w') .normal a' w':=by
  refine⟨hdf,_,Z1q hrrun,_,rfl,hL2,okS t2 ρ2 w',fun g=>Wd t2 t4 ρ2 F2 g,fr,fo,?_,?_,?_,?_,?_,?_⟩
  ·exact ResR.of (hgo.top fun g hg=>hg.left hl4)
  ·exact hos.top fun g hg=>hg.right hl3
  ·have h1:=hR4.flOnce
   rw[←List.append_assoc] at h1
   exact (List.perm_append_comm.nodup_iff).1 (List.nodup_append.1 h1).1
  ·intro g hg
   have hm:g∈fo++(fr++fl0):=by
    rcases List.mem_append.1 hg with h|h
    ·exact List.mem_append_right _ (List.mem_append_left _ h)
    ·exact List.mem_append_left _ h
   refine⟨hR4.flMine g hm,?_⟩
   rcases Nat.lt_or_ge g w.heap.size with hlt|hge
   ·left
    rcases Classical.em (g∈G) with h|h
    ·exact h
    ·exfalso
     rcases Classical.em (X g) with hx|hx
     ·exact hXF g hx g hm rfl
     ·have hf:g∈fl0:=(hfl0 g).2 ⟨hlt,h,hx⟩
      have h1:=hR4.flOnce
      rw[←List.append_assoc] at h1
      refine (List.nodup_append.1 h1).2.2 g ?_ g hf rfl
      rcases List.mem_append.1 hg with h|h
      ·exact List.mem_append_right _ h
      ·exact List.mem_append_left _ h
   ·exact .inr hge
  ·rintro g ⟨id,bk,h1,h2,h3,h4,h5⟩
   exact hR2.top id bk h1 h2 h5 g h4
  ·exact fun g hg=>⟨hg.2,fun h=>hg.1 (hkt g h),fun h=>hg.1 (hXtop g h)⟩
 rcases hexs with rfl|rfl
 ·exact hpost
 ·exact hpost
theorem Ybv (hP:FuncsOk P) {f:FuncId} {fn:Func} {c:Code} {xs:List V} {r:V} {os:List V} {s1:St} (hfn:P.funcs[f]?=some fn) (hc:fn.body=some c) (hent:St.enters ⟨fun _=>.undef,fun _=>none,0⟩ 0 (M.modes f) xs=some s1)
  (hcx:Cx P c s1 (RetC P M f fn xs (r,os))):Fine P M (f,xs,r,os):=⟨⟨fn,hfn,by rw[hc];rfl⟩,Ybo hP hfn hc hent hcx⟩
end
def mkE (l:List (Nat×V)):Nat→V:=fun t=>(l.lookup t).getD .undef
def mkH (l:List (Id×Blk)):Id→Option Blk:=fun id=>l.lookup id
def mkS (l:List (Nat×V)) (h:List (Id×Blk)) (ep:Nat):St:=⟨mkE l,mkH h,ep⟩
def renI (f:List (Id×Id)) (id:Id):Option Id:=if id.1=0 then some id else f.lookup id
def VR1 (f:List (Id×Id)):V→V→Prop
 | .undef,_=>True
 | .lit v,y=>y=.lit v
 | .tr rows,y=>y=.tr rows
 | .vw rows,y=>y=.vw rows
 | .rp sh row off,y=>y=.rp sh row off
 | .ptr id i off,.ptr id' i' off'=>renI f id=some id'∧i=i'∧off=off'
 | .sl id off len,.sl id' off' len'=>renI f id=some id'∧off=off'∧len=len'
 | .sl id off len,.lit (.slice none 0 0)=>renI f id=none∧off=0∧len=0
 | _,_=>False
def VRs (f:List (Id×Id)):List V→List V→Prop
 | [],[]=>True
 | x::xs,y::ys=>VR1 f x y∧VRs f xs ys
 | _,_=>False
def VR (f:List (Id×Id)):V→V→Prop
 | .agg xs,.agg ys=>VRs f xs ys
 | .tup xs,.tup ys=>VRs f xs ys
 | .fn g xs,.fn g' ys=>g=g'∧VRs f xs ys
 | x,y=>VR1 f x y
def BR (f:List (Id×Id)) (S:St) (id:Id) (b:Blk):Prop:=
 match renI f id with
 | none=>b.box=false∧b.own=true∧b.rows=[]
 | some id'=>∃c,S.heap id'=some c∧c.box=b.box∧c.own=b.own∧c.cl=b.cl∧(if b.box then (∃xs ys,b.rows=[xs]∧c.rows=[ys]∧VRs f xs ys) else (c.el=b.el∧c.rows=b.rows))
def Zj1 (h:List (Id×Blk)) (id:Id):Bool:=id.1 == 0||(h.lookup id).isSome
def has1 (h:List (Id×Blk)):V→Bool
 | .ptr id _ _|.sl id _ _=>Zj1 h id
 | .undef=>false
 | _=>true
def hasV (h:List (Id×Blk)):V→Bool
 | .agg xs|.tup xs|.fn _ xs=>xs.all (has1 h)
 | x=>has1 h x
def hasB (h:List (Id×Blk)) (b:Blk):Bool:=if b.box then b.rows.all (fun r=>r.all (has1 h)) else true
def wkB (f:List (Id×Id)) (l:List (Nat×V)) (h:List (Id×Blk)) (ep:Nat):Bool:=
 decide ((h.filterMap fun p=>renI f p.1).Nodup)&&decide ((h.map (·.1)).Nodup)&&h.all (fun p=>decide (p.1.1≤ep)&&decide (p.1.2 < 64000))&&l.all (fun p=>hasV h p.2)&&h.all fun p=>hasB h p.2
structure Weak (f:List (Id×Id)) (S:St) (l:List (Nat×V)) (h:List (Id×Blk)) (ep:Nat):Prop where
 env:∀p∈l,VR f p.2 (S.env p.1)
 heap:∀p∈h,BR f S p.1 p.2
 ok:wkB f l h ep=true
theorem Zgi {α β:Type} [BEq α] [LawfulBEq α] {l:List (α×β)} {a:α} {b:β} (h:l.lookup a=some b):(a,b)∈l:=by
 induction l with
 | nil=>simp at h
 | cons p l ih=>
  obtain⟨x,y⟩:=p
  simp only[List.lookup] at h
  split at h
  ·rename_i he
   injection h with h
   subst h
   rw[eq_of_beq he];exact List.mem_cons_self
  ·exact List.mem_cons_of_mem _ (ih h)
section
variable {P:Program} {B:Nat} {io:Nat→Prop} {w:World} {tmps:Array Value} {S t:St} {ρ:Rho} {F:Id→List Nat} {fl:List Nat} {f:List (Id×Id)} {l:List (Nat×V)} {h:List (Id×Blk)} {ep:Nat}
open Classical in
noncomputable def wkSt (t:St) (l:List (Nat×V)) (h:List (Id×Blk)) (ep:Nat):St:=⟨mkE l,fun id=>if D0 id then t.heap id else mkH h id,ep⟩
noncomputable def wkRho (ρ:Rho) (f:List (Id×Id)) (h:List (Id×Blk)):Rho:=fun id=>if id.1=0 then ρ id else if (h.lookup id).isSome then (match f.lookup id with|some id'=>ρ id'|none=>some .emp) else none
def wkF (F:Id→List Nat) (f:List (Id×Id)):Id→List Nat:=fun id=>if id.1=0 then F id else match f.lookup id with|some id'=>F id'|none=>[]
theorem Jc {id id':Id} (hh:Zj1 h id=true) (hr:renI f id=some id'):wkRho ρ f h id=ρ id':=by
 unfold wkRho renI at*
 by_cases h0:id.1=0
 ·rw[if_pos h0] at hr ⊢;injection hr with hr;rw[hr]
 ·rw[if_neg h0] at hr ⊢
  simp only[Zj1,Bool.or_eq_true,beq_iff_eq,h0,false_or] at hh
  rw[if_pos hh,hr]
theorem Zq4 {id id':Id} (hr:renI f id=some id'):wkF F f id=F id':=by
 unfold wkF renI at*
 by_cases h0:id.1=0
 ·rw[if_pos h0] at hr ⊢;injection hr with hr;rw[hr]
 ·rw[if_neg h0] at hr ⊢;rw[hr]
theorem Zqn {id:Id} (hh:Zj1 h id=true) (hr:renI f id=none):wkRho ρ f h id=some .emp:=by
 unfold wkRho renI at*
 by_cases h0:id.1=0
 ·rw[if_pos h0] at hr;cases hr
 ·rw[if_neg h0] at hr ⊢
  simp only[Zj1,Bool.or_eq_true,beq_iff_eq,h0,false_or] at hh
  rw[if_pos hh,hr]
theorem Z30 {id:Id} (hr:renI f id=none):wkF F f id=[]:=by
 unfold wkF renI at*
 by_cases h0:id.1=0
 ·rw[if_pos h0] at hr;cases hr
 ·rw[if_neg h0] at hr ⊢;rw[hr]
theorem VR1.en {ok ok':Nat→Prop} (hok:∀g,ok g→ok' g) {v:Value} {x y:V} (hh:has1 h x=true) (hr:VR1 f x y) (hv:En w ok ρ v y):En w ok' (wkRho ρ f h) v x:=by
 cases x with
 | undef=>exact .undef
 | lit u=>simp only[VR1] at hr;subst hr;cases hv with|lit h=>exact .lit h
 | tr rows=>simp only[VR1] at hr;subst hr;cases hv with|tr h=>exact .tr (h.okm hok)
 | vw rows=>simp only[VR1] at hr;subst hr;cases hv with|vw h=>exact .vw (h.okm hok)
 | rp sh row off=>simp only[VR1] at hr;subst hr;cases hv with|rp h=>exact .rp (h.okm hok)
 | ptr id i off=>
  cases y<;>simp only[VR1] at hr
  obtain⟨h1,rfl,rfl⟩:=hr
  simp only[has1] at hh
  generalize hq:V.ptr _ i off=q at hv
  cases hv<;>cases hq
  rename_i h2
  exact .ptr (by rw[Jc hh h1];exact h2)
 | sl id off len=>
  simp only[has1] at hh
  cases y with
  | sl id' off' len'=>
   simp only[VR1] at hr
   obtain⟨h1,rfl,rfl⟩:=hr
   cases hv with
   | sl h2 hc=>exact .sl (by rw[Jc hh h1];exact h2) hc
   | sle h2=>exact .sle (by rw[Jc hh h1];exact h2)
  | lit u=>
   unfold VR1 at hr
   split at hr<;>rename_i h1 h2<;>first|cases h1|skip
   all_goals first|exact hr.elim|skip
   all_goals try (cases h2)
   obtain⟨h3,rfl,rfl⟩:=hr
   cases hv
   exact .sle (by rw[Zqn hh h3];rfl)
  | _=>simp[VR1] at hr
 | agg _=>simp[VR1] at hr
 | tup _=>simp[VR1] at hr
 | fn _ _=>simp[VR1] at hr
 | own _ _=>simp[VR1] at hr
 | obx _=>simp[VR1] at hr
theorem VRs.get:∀{xs ys:List V},VRs f xs ys→xs.length=ys.length∧∀(k:Nat) (x:V),xs[k]?=some x→∃y,ys[k]?=some y∧VR1 f x y:=by
 intro xs
 induction xs with
 | nil=>intro ys hr;cases ys with
  | nil=>exact⟨rfl,fun k x hk=>by simp at hk⟩
  | cons y ys=>exact hr.elim
 | cons x xs ih=>intro ys hr;cases ys with
  | nil=>exact hr.elim
  | cons y ys=>
   obtain⟨h1,h2⟩:=hr
   obtain⟨h3,h4⟩:=ih h2
   refine⟨by simp[h3],fun k z hk=>?_⟩
   cases k with
   | zero=>simp at hk;subst hk;exact⟨y,rfl,h1⟩
   | succ k=>simpa using h4 k z (by simpa using hk)
theorem VR1.cellish {x y:V} (hr:VR1 f x y) (hx:x≠.undef):Ev.cellish x=true:=by
 cases x with
 | undef=>exact absurd rfl hx
 | agg _=>simp[VR1] at hr
 | tup _=>simp[VR1] at hr
 | own _ _=>simp[VR1] at hr
 | obx _=>simp[VR1] at hr
 | fn _ _=>simp[VR1] at hr
 | _=>rfl
theorem VRs.all {ok ok':Nat→Prop} (hok:∀g,ok g→ok' g) {xs ys:List V} (hr:VRs f xs ys) (hh:xs.all (has1 h)=true) {vs:List Value} (hv:∀(k:Nat) (v:Value) (y:V),vs[k]?=some v→ys[k]?=some y→En w ok ρ v y):
  ∀(k:Nat) (v:Value) (x:V),vs[k]?=some v→xs[k]?=some x→En w ok' (wkRho ρ f h) v x:=fun k v x h1 h2=>by
 obtain⟨y,h3,h4⟩:=hr.get.2 k x h2
 exact h4.en hok (List.all_eq_true.1 hh x (List.mem_of_getElem? h2)) (hv k v y h1 h3)
theorem Z3n {x:V} (hh:has1 h x=true):x≠.undef:=by rintro rfl;simp[has1] at hh
theorem VR.en {ok ok':Nat→Prop} (hok:∀g,ok g→ok' g) {v:Value} {x y:V} (hh:hasV h x=true) (hr:VR f x y) (hv:En w ok ρ v y):En w ok' (wkRho ρ f h) v x:=by
 unfold VR at hr
 split at hr
 ·rename_i xs ys
  simp only[hasV] at hh
  cases hv with
  | @agg us _ hl hc he=>
   refine .agg (by rw[hl,hr.get.1]) (fun x hx=>?_) (fun k v x h1 h2=>hr.all hok hh (vs:=us.toList) (fun k v y h1 h2=>he k v y (by simpa using h1) h2) k v x (by simpa using h1) h2)
   obtain⟨k,hk,rfl⟩:=List.getElem_of_mem hx
   obtain⟨y,_,h4⟩:=hr.get.2 k _ (List.getElem?_eq_getElem hk)
   exact h4.cellish (Z3n (List.all_eq_true.1 hh _ (List.getElem_mem hk)))
 ·rename_i xs ys
  simp only[hasV] at hh
  cases hv with
  | @tup us _ hl he=>exact .tup (by rw[hl,hr.get.1]) (fun k v x h1 h2=>hr.all hok hh (vs:=us.toList) (fun k v y h1 h2=>he k v y (by simpa using h1) h2) k v x (by simpa using h1) h2)
 ·rename_i g xs g' ys
  obtain⟨rfl,hr⟩:=hr
  simp only[hasV] at hh
  cases hv with
  | @fn _ us _ hl he=>exact .fn (by rw[hl,hr.get.1]) (fun k v x h1 h2=>hr.all hok hh (vs:=us.toList) (fun k v y h1 h2=>he k v y (by simpa using h1) h2) k v x (by simpa using h1) h2)
 ·have h2:has1 h x=true:=by
   cases x<;>first|exact hh|(simp[VR1] at hr)
  exact hr.en hok h2 hv
theorem Weak.ext (hw:Weak f S l h ep) (hE:ExtE D0 S t):ExtE D0 (mkS l h ep) (wkSt t l h ep):=by
 have hz:=hw.ok
 simp only[wkB,Bool.and_eq_true,decide_eq_true_eq,List.all_eq_true] at hz
 refine⟨⟨rfl,fun id hid=>?_,fun id hid=>?_⟩,rfl,fun id b hd hb=>?_⟩
 ·simp only[wkSt,mkS];rw[if_neg hid]
 ·simp only[mkS]
  cases hb:mkH h id with
  | none=>rfl
  | some b=>
   have:=(hz.1.1.2 _ (Zgi hb)).2
   have:=hid.2
   simp only at *;omega
 ·simp only[wkSt] at hb
  rw[if_pos hd] at hb
  exact hE.ph id b hd hb
theorem Weak.blk (hw:Weak f S l h ep) (hE:ExtE D0 S t) {id:Id} {b:Blk} (hb:(wkSt t l h ep).heap id=some b):
  (D0 id∧t.heap id=some b)∨(¬D0 id∧(id,b)∈h∧Zj1 h id=true∧((renI f id=none∧b.box=false∧b.own=true∧b.rows=[])∨
   ∃id' c,renI f id=some id'∧t.heap id'=some c∧¬D0 id'∧c.box=b.box∧c.own=b.own∧c.cl=b.cl∧(if b.box then (∃xs ys,b.rows=[xs]∧c.rows=[ys]∧VRs f xs ys) else (c.el=b.el∧c.rows=b.rows)))):=by
 simp only[wkSt] at hb
 split at hb
 ·rename_i hd;exact .inl ⟨hd,hb⟩
 ·rename_i hd
  have hm:=Zgi hb
  refine .inr ⟨hd,hm,?_,?_⟩
  ·simp only[Zj1,Bool.or_eq_true];right;rw[show h.lookup id=some b from hb];rfl
  ·have:=hw.heap _ hm
   unfold BR at this
   simp only at this
   split at this
   ·rename_i hr;exact .inl ⟨hr,this⟩
   ·rename_i id' hr
    obtain⟨c,h1,h2⟩:=this
    exact .inr ⟨id',c,hr,hE.ext.get h1,hE.ext.notD h1,h2⟩
theorem D0.ren {id:Id} (hd:D0 id):renI f id=some id:=by unfold renI;rw[if_pos hd.zero]
theorem D0.has {id:Id} (hd:D0 id):Zj1 h id=true:=by simp[Zj1,hd.zero]
theorem Weak.tops (hw:Weak f S l h ep) (hE:ExtE D0 S t) {g:Nat} (ht:Ev.tops (wkSt t l h ep) (wkRho ρ f h) g):Ev.tops t ρ g:=by
 obtain⟨id,b,o,c,sz,h1,h2,h3⟩:=ht
 rcases hw.blk hE h1 with⟨hd,hb⟩|⟨hd,hm,hi,⟨hr,_⟩|⟨id',k,hr,hk,_,_,ho,_⟩⟩
 ·rw[Jc hd.has hd.ren] at h3
  exact⟨id,b,o,c,sz,hb,h2,h3⟩
 ·rw[Zqn hi hr] at h3;cases h3
 ·rw[Jc hi hr] at h3
  exact⟨id',k,o,c,sz,hk,ho.trans h2,h3⟩
theorem Ybp:∀{h:List (Id×Blk)} {id id2 id':Id} {b b2:Blk},(h.filterMap fun p=>renI f p.1).Nodup→(id,b)∈h→(id2,b2)∈h→renI f id=some id'→renI f id2=some id'→id=id2:=by
 intro h
 induction h with
 | nil=>intro id id2 id' b b2 _ h1;simp at h1
 | cons p h ih=>
  intro id id2 id' b b2 hn h1 h2 hr hr2
  have mem:∀{i:Id} {c:Blk},(i,c)∈h→renI f i=some id'→id'∈h.filterMap fun p=>renI f p.1:=fun hm hi=>List.mem_filterMap.2 ⟨_,hm,hi⟩
  rw[List.filterMap_cons] at hn
  rcases List.mem_cons.1 h1 with e1|e1
  ·rcases List.mem_cons.1 h2 with e2|e2
   ·rw[←e1] at e2;injection e2 with e2;exact e2.symm
   ·rw[←e1] at hn
    simp only[hr] at hn
    exact absurd (mem e2 hr2) (List.nodup_cons.1 hn).1
  ·rcases List.mem_cons.1 h2 with e2|e2
   ·rw[←e2] at hn
    simp only[hr2] at hn
    exact absurd (mem e1 hr) (List.nodup_cons.1 hn).1
   ·refine ih ?_ e1 e2 hr hr2
    split at hn
    ·exact hn
    ·exact (List.nodup_cons.1 hn).2
theorem Weak.rel (hw:Weak f S l h ep) (hE:ExtE D0 S t) (hR:Rel P B io w tmps t ρ F fl):Rel P B io w tmps (wkSt t l h ep) (wkRho ρ f h) (wkF F f) fl:=by
 have hz:=hw.ok
 simp only[wkB,Bool.and_eq_true,decide_eq_true_eq,List.all_eq_true] at hz
 have hok:∀g,okS t ρ w g→okS (wkSt t l h ep) (wkRho ρ f h) w g:=fun g hg=>⟨fun ht=>hg.1 (hw.tops hE ht),hg.2⟩
 have key:∀{id:Id} {b:Blk},(wkSt t l h ep).heap id=some b→b.own=true→wkF F f id=[]∨∃id' c,t.heap id'=some c∧c.own=true∧wkF F f id=F id'∧wkRho ρ f h id=ρ id'∧renI f id=some id'∧(D0 id∨(id,b)∈h∧¬D0 id'):=fun {id b} hb ho=>by
  rcases hw.blk hE hb with⟨hd,hb⟩|⟨hd,hm,hi,⟨hr,_⟩|⟨id',k,hr,hk,hnd,_,ho2,_⟩⟩
  ·exact .inr ⟨id,b,hb,ho,Zq4 hd.ren,Jc hd.has hd.ren,hd.ren,.inl hd⟩
  ·exact .inl (Z30 hr)
  ·exact .inr ⟨id',k,hk,ho2.trans ho,Zq4 hr,Jc hi hr,hr,.inr ⟨hm,hnd⟩⟩
 refine⟨fun t' v hv=>?_,fun t' ht'=>?_,fun id b hb=>?_,fun id b hb ho g hg=>?_,fun id b hb ho hc g hg=>?_,fun id id2 b b2 hb ho hb2 ho2 hne g hg hg2=>?_,fun id b hb ho=>?_,fun id hid=>?_,hR.base0,hR.flMine,fun id b hb ho g hg=>?_,hR.flOnce⟩
 ·show En w _ _ v (mkE l t')
  unfold mkE
  cases hl:l.lookup t' with
  | none=>exact .undef
  | some x=>
   have hm:=Zgi hl
   have h1:=hw.env _ hm
   simp only at h1
   rw[←hE.env] at h1
   exact h1.en hok (hz.1.2 _ hm) (hR.env t' v hv)
 ·show mkE l t'=.undef
  unfold mkE
  cases hl:l.lookup t' with
  | none=>rfl
  | some x=>
   have hm:=Zgi hl
   have h1:=hw.env _ hm
   simp only at h1
   rw[←hE.env,hR.out t' ht'] at h1
   simp only[Option.getD_some]
   cases x<;>simp[VR,VR1] at h1 ⊢
 ·rcases hw.blk hE hb with⟨hd,hb⟩|⟨hd,hm,hi,⟨hr,h1,h2,h3⟩|⟨id',k,hr,hk,_,hbx,ho,hcl,hrows⟩⟩
  ·rw[Jc hd.has hd.ren,Zq4 hd.ren]
   have hB:=hR.heap id b hb
   have hph:=hE.ph id b hd hb
   unfold BlkR at hB ⊢
   split at hB
   ·obtain⟨_,g,cur,e,row,hi,hg,hr,_⟩:=hB;rw[hph] at hr;cases hr
   ·rcases hB with hB|⟨g,o,c,cur,hi,hg,hl,hm,hu,hz,fp,hF,q1,q2⟩
    ·exact .inl hB
    ·exact .inr ⟨g,o,c,cur,hi,hg,hl,hm,hu,hz,fp,hF,q1,fun hc=>⟨(q2 hc).1,fun k x hx=>by rw[hph] at hx;simp at hx⟩⟩
   ·obtain⟨h0,hB⟩:=hB
    refine⟨h0,?_⟩
    rcases hB with hB|⟨g,o,c,sz,hi,hu,hr⟩
    ·exact .inl hB
    ·exact .inr ⟨g,o,c,sz,hi,hu,hr.okm hok⟩
  ·rw[Zqn hi hr,Z30 hr]
   exact .mkEmp h1 h2 rfl h3 rfl
  ·rw[Jc hi hr,Zq4 hr]
   have hB:=hR.heap id' k hk
   unfold BlkR at hB ⊢
   rw[hbx,ho] at hB
   cases hb1:b.box with
   | true=>
    rw[hb1] at hB
    simp only[hb1,if_true] at hrows hB ⊢
    obtain⟨q0,g,cur,e,row,hi',hg,hr',hs,he,hc,hF⟩:=hB
    obtain⟨xs,ys,e1,e2,hv⟩:=hrows
    rw[e2] at hr'
    injection hr' with hr' _
    subst hr'
    have hxl:=hv.get.1
    have hall:xs.all (has1 h)=true:=by
     have h7:=hz.2 _ hm
     unfold hasB at h7
     simp only[hb1,if_true,e1,List.all_cons,List.all_nil,Bool.and_true] at h7
     exact h7
    refine⟨q0,g,cur,e,xs,by rw[hi',hxl],hg,e1,by rw[hs,hxl],fun j v x h1 h2=>?_,fun x hx=>?_,hF⟩
    ·exact hv.all hok hall (vs:=cur.toList) (fun k v y h1 h2=>he k v y (by simpa using h1) h2) j v x (by simpa using h1) h2
    ·obtain⟨j,hj,rfl⟩:=List.getElem_of_mem hx
     obtain⟨y,_,h4⟩:=hv.get.2 j _ (List.getElem?_eq_getElem hj)
     exact h4.cellish (Z3n (List.all_eq_true.1 hall _ (List.getElem_mem hj)))
   | false=>
    rw[hb1] at hB
    simp only[hb1,Bool.false_eq_true,if_false] at hrows hB ⊢
    obtain⟨e1,e2⟩:=hrows
    cases ho1:b.own with
    | true=>
     rw[ho1] at hB
     simp only at hB ⊢
     rcases hB with⟨q1,q2,q3⟩|⟨g,o,c,cur,hi',hg,hl,hm',hu,hz',fp,hF,q1,q2⟩
     ·exact .inl ⟨q1,by rw[←e2];exact q2,q3⟩
     ·refine .inr ⟨g,o,c,cur,by rw[←e1];exact hi',by rw[←e1];exact hg,by rw[←e2];exact hl,hm',by rw[←e1,←e2];exact hu,by rw[←e1];exact hz',fp,hF,fun hc=>?_,fun hc=>?_⟩
      ·rw[←e1,←e2];exact q1 (by rw[hcl];exact hc)
      ·obtain⟨q3,q4⟩:=q2 (by rw[hcl];exact hc)
       refine⟨q3,fun j x hx=>?_⟩
       obtain⟨v,hv,hrd⟩:=q4 j x (by rw[e2];exact hx)
       exact⟨v,hv,hrd.okm hok⟩
    | false=>
     rw[ho1] at hB
     simp only at hB ⊢
     obtain⟨h0,hB⟩:=hB
     refine⟨h0,?_⟩
     rcases hB with⟨q1,q2⟩|⟨g,o,c,sz,hi',hu,hr'⟩
     ·exact .inl ⟨q1,by rw[←e2];exact q2⟩
     ·exact .inr ⟨g,o,c,sz,hi',by rw[←e2];exact hu,by rw[←e2];exact hr'.okm hok⟩
 ·rcases key hb ho with h0|⟨id',c,h1,h2,h3,_⟩
  ·rw[h0] at hg;simp at hg
  ·rw[h3] at hg;exact hR.mine id' c h1 h2 g hg
 ·rcases key hb ho with h0|⟨id',c,h1,h2,h3,h4,_⟩
  ·rw[h0] at hg;simp at hg
  ·rw[h3] at hg;exact hR.top id' c h1 h2 (by rw[←h4];exact hc) g hg
 ·rcases key hb ho with h0|⟨i1,c,h1,h2,h3,h4,h5,h6⟩
  ·rw[h0] at hg;simp at hg
  ·rcases key hb2 ho2 with k0|⟨i2,c2,k1,k2,k3,k4,k5,k6⟩
   ·rw[k0] at hg2;simp at hg2
   ·rw[h3] at hg
    rw[k3] at hg2
    refine hR.apart i1 i2 c c2 h1 h2 k1 k2 (fun e=>?_) g hg hg2
    subst e
    rcases h6 with h6|⟨h6,h7⟩
    ·rw[h6.ren] at h5;injection h5 with h5;subst h5
     rcases k6 with k6|⟨k6,k7⟩
     ·rw[k6.ren] at k5;injection k5 with k5;exact hne k5.symm
     ·exact k7 h6
    ·rcases k6 with k6|⟨k6,k7⟩
     ·rw[k6.ren] at k5;injection k5 with k5;subst k5;exact h7 k6
     ·exact hne (Ybp hz.1.1.1.1 h6 k6 h5 k5)
 ·rcases key hb ho with h0|⟨id',c,h1,h2,h3,_⟩
  ·rw[h0];exact List.nodup_nil
  ·rw[h3];exact hR.once id' c h1 h2
 ·show id.1≤ep
  by_cases h0:id.1=0
  ·omega
  ·unfold wkRho at hid
   rw[if_neg h0] at hid
   split at hid
   ·rename_i hs
    obtain⟨b,hb⟩:=Option.isSome_iff_exists.1 hs
    exact (hz.1.1.2 _ (Zgi hb)).1
   ·simp at hid
 ·rcases key hb ho with h0|⟨id',c,h1,h2,h3,_⟩
  ·rw[h0] at hg;simp at hg
  ·rw[h3] at hg;exact hR.flApart id' c h1 h2 g hg
theorem Ybf {c:Code} {R:Ex→St→Prop} (f:List (Id×Id)) (hw:Weak f S l h ep) (hc:Cx P c (mkS l h ep) R):Cx P c S R:=by
 intro t B io w a ρ F fl Q hE hR hd hQ
 refine hc (wkSt t l h ep) B io w a (wkRho ρ f h) (wkF F f) fl Q (hw.ext hE) (hw.rel hE hR) hd (fun ex S' t' a' w' hr hx hA=>hQ ex S' t' a' w' hr ⟨hx.1,fun id hid=>?_⟩ ?_)
 ·rw[hx.2 id hid];simp only[wkSt];rw[if_pos hid]
 ·obtain⟨ρ',F',h1,h2,h3,h4,h5⟩:=hA
  exact⟨ρ',F',h1,h2,fun id i h0 hi=>h3 id i h0 (by unfold wkRho;rw[if_pos h0];exact hi),h4,h5⟩
end
end Go.Proofs.YtlcfolgfmlgncaaGreatDoor.Ev
namespace Go.Proofs.YtlcfolgfmlgncaaGreatDoor.Ev
open Go
set_option linter.unusedVariables false
set_option linter.unusedSimpArgs false
set_option linter.unusedSectionVars false
variable [Anchor]
section
variable {P:Program}
def Q0:List V→List V→Option Bool
 | [],[]=>some true
 | .lit (.int k a)::xs,.lit (.int k' b)::ys=>if k=k' then (Q0 xs ys).map fun r=>decide (a=b)&&r else none
 | .lit (.bool a)::xs,.lit (.bool b)::ys=>(Q0 xs ys).map fun r=>(a == b)&&r
 | _,_=>none
def Zgf (P:Program):Nat→List Field→List V→Bool
 | _,[],[]=>true
 | i,f::fs,.lit (.int _ _)::xs=>(f.name != "_")&&(f.offset == i)&&!(aggT P f.type)&&(match P.underlying f.type with|some (.int _)=>true|_=>false)&&Zgf P (i+1) fs xs
 | i,f::fs,.lit (.bool _)::xs=>(f.name != "_")&&(f.offset == i)&&!(aggT P f.type)&&(match P.underlying f.type with|some .bool=>true|_=>false)&&Zgf P (i+1) fs xs
 | _,_,_=>false
theorem Zb1 {t:TypeId} {d:TypeDesc} (ht:P.underlying t=some d):eval? P (underlying t)=some d:=by
 unfold underlying
 rw[Zs]
 show eval? P (match P.underlying t with|some d=>pure d|none=>stuck "no such type" : Sem TypeDesc)=some d
 rw[ht];rfl
theorem Z6n {n:Nat} {t:TypeId} {k0 k:IntKind} {a b:Int} (ht:P.underlying t=some (.int k0)):eval? P (Go.Op.equalIn (n+1) t (.int k a) (.int k b))=some (decide (a=b)):=by
 unfold Go.Op.equalIn
 rw[Zs,Zb1 ht]
 simp only[Option.bind_some,if_true]
 show some (a == b)=some (decide (a=b))
 by_cases h:a=b<;>simp[h]
theorem Z2u {n:Nat} {t:TypeId} {a b:Bool} (ht:P.underlying t=some .bool):eval? P (Go.Op.equalIn (n+1) t (.bool a) (.bool b))=some (a == b):=by
 unfold Go.Op.equalIn
 rw[Zs,Zb1 ht]
 rfl
theorem Z4o {t:TypeId} (h:(P.underlying t).isSome=true) (ha:aggT P t=false):eval? P (isAgg t)=some false:=by
 obtain⟨d,hd⟩:=Option.isSome_iff_exists.1 h
 unfold isAgg
 rw[Zs,Zb1 hd]
 unfold aggT at ha
 rw[hd] at ha
 cases d<;>first|rfl|cases ha
theorem Zw2 {t:TypeId} {cs:Array Value} {off:Nat} {v:Value} (h:(P.underlying t).isSome=true) (ha:aggT P t=false) (hv:cs[off]?=some v):eval? P (part t cs off)=some v:=by
 unfold part
 rw[Zs,Z4o h ha]
 simp only[Option.bind_some,Bool.false_eq_true,if_false,hv]
 rfl
theorem Zug:∀{xs:List V} {l:List Value},W2 xs=some l→xs=l.map V.lit:=by
 intro xs
 induction xs with
 | nil=>intro l h;simp only[W2,Option.some.injEq] at h;subst h;rfl
 | cons x xs ih=>
  intro l h
  cases x<;>simp only[W2] at h<;>try cases h
  obtain⟨l',h1,rfl⟩:=Option.map_eq_some_iff.1 h
  rw[ih h1];rfl
def Zqx (n:Nat) (X Y:Array Value) (f:Field) (s:Option Bool×Unit):Sem (ForInStep (Option Bool×Unit)):=
 if f.name ≠ "_" then do
  let a ←part f.type X f.offset
  let b ←part f.type Y f.offset
  let c ←Go.Op.equalIn (n+1) f.type a b
  if (!c)=true then pure (ForInStep.done (some false,())) else pure (ForInStep.yield (none,()))
 else pure (ForInStep.yield (none,()))
theorem Z6y {n:Nat} {X Y:Array Value} {f:Field} {s:Option Bool×Unit} {u v:Value} {c:Bool} (hn:(f.name != "_")=true) (hu:(P.underlying f.type).isSome=true) (ha:aggT P f.type=false) (hx:X[f.offset]?=some u) (hy:Y[f.offset]?=some v) (hc:eval? P (Go.Op.equalIn (n+1) f.type u v)=some c):
  eval? P (Zqx n X Y f s)=some (if c then .yield (none,()) else .done (some false,())):=by
 unfold Zqx
 rw[if_pos (by simpa using hn),Zs,Zw2 hu ha hx,Option.bind_some,Zs,Zw2 hu ha hy,Option.bind_some,Zs,hc,Option.bind_some]
 cases c<;>rfl
theorem eqLoop {n:Nat} {X Y:List Value}:∀(l:List Field) (i:Nat) (b:Bool),Zgf P i l ((X.drop i).map V.lit)=true→Q0 ((X.drop i).map V.lit) ((Y.drop i).map V.lit)=some b→
  eval? P (forIn l (none,()) (Zqx n X.toArray Y.toArray))=some (if b then (none,()) else (some false,())):=by
 intro l
 induction l with
 | nil=>
  intro i b hf he
  cases hX:X.drop i with
  | cons v l=>rw[hX] at hf;simp[Zgf] at hf
  | nil=>
   rw[hX] at he
   cases hY:Y.drop i with
   | cons v l=>rw[hY] at he;simp[Q0] at he
   | nil=>
    rw[hY] at he
    simp only[List.map_nil,Q0,Option.some.injEq] at he
    subst he
    rfl
 | cons f l ih=>
  intro i b hf he
  have drop1:∀{Z:List Value} {v:Value} {zs:List Value},Z.drop i=v::zs→Z.drop (i+1)=zs∧Z.toArray[i]?=some v:=fun {Z v zs} hz=>by
   constructor
   ·rw[←List.drop_drop,hz];rfl
   ·have:=congrArg List.head? hz
    rw[List.head?_drop] at this
    simpa using this
  have step:∀(u v:Value) (xs ys:List Value) (c b':Bool),X.drop i=u::xs→Y.drop i=v::ys→(f.name != "_")=true→f.offset=i→aggT P f.type=false→(P.underlying f.type).isSome=true→eval? P (Go.Op.equalIn (n+1) f.type u v)=some c→
    Zgf P (i+1) l (xs.map V.lit)=true→Q0 (xs.map V.lit) (ys.map V.lit)=some b'→b=(c&&b')→eval? P (forIn (f::l) (none,()) (Zqx n X.toArray Y.toArray))=some (if b then (none,()) else (some false,())):=by
   intro u v xs ys c b' hX hY hn ho ha hu hc hfl hel hb
   obtain⟨dx,ax⟩:=drop1 hX
   obtain⟨dy,ay⟩:=drop1 hY
   rw[List.forIn_cons,Zs,Z6y hn hu ha (by rw[ho];exact ax) (by rw[ho];exact ay) hc]
   cases c with
   | true=>
    simp only[if_true,Option.bind_some]
    rw[ih (i+1) b' (by rw[dx];exact hfl) (by rw[dx,dy];exact hel),hb]
    rfl
   | false=>
    simp only[Bool.false_eq_true,if_false,Option.bind_some]
    rw[hb]
    rfl
  cases hX:X.drop i with
  | nil=>rw[hX] at hf;simp[Zgf] at hf
  | cons u xs=>
   rw[hX] at hf he
   cases hY:Y.drop i with
   | nil=>rw[hY] at he;cases u<;>simp[Q0] at he
   | cons v ys=>
    rw[hY] at he
    simp only[List.map_cons] at hf he
    cases u with
    | int k a=>
     simp only[Zgf,Bool.and_eq_true,Bool.not_eq_true',beq_iff_eq] at hf
     obtain⟨⟨⟨⟨h1,h2⟩,h3⟩,h4⟩,h5⟩:=hf
     cases v with
     | int k' b2=>
      simp only[Q0] at he
      split at he
      ·rename_i hk
       subst hk
       obtain⟨b',h6,h7⟩:=Option.map_eq_some_iff.1 he
       split at h4
       ·rename_i k0 hk0
        exact step _ _ _ _ _ _ hX hY h1 h2 h3 (by rw[hk0];rfl) (Z6n hk0) h5 h6 h7.symm
       ·cases h4
      ·cases he
     | _=>simp[Q0] at he
    | bool a=>
     simp only[Zgf,Bool.and_eq_true,Bool.not_eq_true',beq_iff_eq] at hf
     obtain⟨⟨⟨⟨h1,h2⟩,h3⟩,h4⟩,h5⟩:=hf
     cases v with
     | bool b2=>
      simp only[Q0] at he
      obtain⟨b',h6,h7⟩:=Option.map_eq_some_iff.1 he
      split at h4
      ·rename_i hk0
       exact step _ _ _ _ _ _ hX hY h1 h2 h3 (by rw[hk0];rfl) (Z2u hk0) h5 h6 h7.symm
      ·cases h4
     | _=>simp[Q0] at he
    | _=>simp[Zgf] at hf
theorem Z0s {n:Nat} {t:TypeId} {fs:Array Field} {X Y:List Value} {b:Bool} (ht:P.underlying t=some (.struct fs)) (hs:P.stoodInHeld t=false) (hx:Zgf P 0 fs.toList (X.map V.lit)=true) (he:Q0 (X.map V.lit) (Y.map V.lit)=some b):
  eval? P (Go.Op.equalIn (n+2) t (.agg X.toArray) (.agg Y.toArray))=some b:=by
 unfold Go.Op.equalIn
 rw[Zs,Zb1 ht]
 simp only[Option.bind_some]
 rw[Zs]
 show (some P).bind _=_
 simp only[Option.bind_some,hs,Bool.false_eq_true,if_false]
 have key:=eqLoop (P:=P) (n:=n) (X:=X) (Y:=Y) fs.toList 0 b (by simpa using hx) (by simpa using he)
 rw[Array.forIn_toList] at key
 rw[Zs]
 show (eval? P (forIn fs (none,()) (Zqx n X.toArray Y.toArray))).bind _=_
 rw[key]
 cases b<;>rfl
def Zo2 (P:Program) (t:TypeId) (xs:List V):Bool:=match P.underlying t with
 | some (.struct fs)=>!(P.stoodInHeld t)&&!(P.eqGuardType P.depth t)&&Zgf P 0 fs.toList xs
 | _=>false
theorem Zwn {t:TypeId} {xs ys:List V} {X Y:List Value} {b:Bool} (hx:W2 xs=some X) (hy:W2 ys=some Y) (hf:Zo2 P t xs=true) (he:Q0 xs ys=some b):eval? P (Go.Op.equal t (.agg X.toArray) (.agg Y.toArray))=some b:=by
 unfold Zo2 at hf
 split at hf
 ·rename_i fs ht
  simp only[Bool.and_eq_true,Bool.not_eq_true'] at hf
  have e1:=Zug hx
  have e2:=Zug hy
  rw[e1] at hf he
  rw[e2] at he
  exact Z0s (n:=9998) ht hf.1.1 hf.2 he
 ·cases hf
theorem Zr2 {op:BinOp} {t:TypeId} {x y:Operand} {xs:List V} {X Y:Array Value} (hf:Zo2 P t xs=true):eval? P (eqGuard op t x y (.agg X) (.agg Y))=some ():=by
 unfold Zo2 at hf
 split at hf
 ·simp only[Bool.and_eq_true,Bool.not_eq_true'] at hf
  unfold eqGuard
  cases op<;>first
   | rfl
   | (
     simp only[Bool.not_true,Bool.false_eq_true,if_false]
     rw[Zs]
     show (some P).bind _=_
     simp only[Option.bind_some]
     rw[Zs]
     show (some P).bind _=_
     simp only[Option.bind_some,hf.1.2,Bool.not_false,if_true]
     rfl)
 ·cases hf
theorem Z7m {t:TypeId} {x y:Operand} {xs ys:List V} {b:Bool} (hx:(W2 xs).isSome=true) (hy:(W2 ys).isSome=true) (hf:Zo2 P t xs=true) (he:Q0 xs ys=some b):binX P .eql t x y (.agg xs) (.agg ys)=some (.lit (.bool b)):=by
 obtain⟨X,h1⟩:=Option.isSome_iff_exists.1 hx
 obtain⟨Y,h2⟩:=Option.isSome_iff_exists.1 hy
 simp only[binX,Yg,h1,h2,Option.map_some,Option.isSome_some,Bool.and_self,if_true,Option.getD_some]
 rw[Zs,Zr2 hf,Option.bind_some]
 have e:(binOp .eql t (.agg X.toArray) (.agg Y.toArray):Sem Value)=((fun b=>Value.bool b) <$> Go.Op.equal t (.agg X.toArray) (.agg Y.toArray)):=rfl
 rw[e,Zlq,Zwn h1 h2 hf he]
 rfl
theorem Z7b {t:TypeId} {x y:Operand} {xs ys:List V} {b:Bool} (hx:(W2 xs).isSome=true) (hy:(W2 ys).isSome=true) (hf:Zo2 P t xs=true) (he:Q0 xs ys=some b):binX P .neq t x y (.agg xs) (.agg ys)=some (.lit (.bool (!b))):=by
 obtain⟨X,h1⟩:=Option.isSome_iff_exists.1 hx
 obtain⟨Y,h2⟩:=Option.isSome_iff_exists.1 hy
 simp only[binX,Yg,h1,h2,Option.map_some,Option.isSome_some,Bool.and_self,if_true,Option.getD_some]
 rw[Zs,Zr2 hf,Option.bind_some]
 have e:(binOp .neq t (.agg X.toArray) (.agg Y.toArray):Sem Value)=((fun b=>Value.bool (!b)) <$> Go.Op.equal t (.agg X.toArray) (.agg Y.toArray)):=rfl
 rw[e,Zlq,Zwn h1 h2 hf he]
 rfl
end
end Go.Proofs.YtlcfolgfmlgncaaGreatDoor.Ev
namespace Go.Proofs.YtlcfolgfmlgncaaGreatDoor.Ev
open Go Go.RowKit
set_option linter.unusedVariables false
set_option linter.unusedSimpArgs false
set_option linter.unusedSectionVars false
variable [Anchor]
inductive O where
 | t (b:Bool)
 | k
 | row (n:Nat) (r:List V)
 | cell (r:List V)
 | put (r:List V) (R:List (List V))
 | num (l h n:Nat) (R:List (List V))
 | app (m:List (List V)) (lb:Bool) (R:List (List V)) (n:Nat)
 | mk (n:Nat) (R:List (List V))
 | res (r:V) (os:List V)
 | val (v:V)
 | stop
 | enter
 | obl
def All:List Prop→Prop
 | []=>True
 | p::ps=>p∧All ps
theorem All.app {a b:List Prop} (h:All (a++b)):All a∧All b:=by
 induction a with
 | nil=>exact⟨trivial,h⟩
 | cons p a ih=>exact⟨⟨h.1,(ih h.2).1⟩,(ih h.2).2⟩
abbrev KM (α:Type):=List O→Option (α×List Prop×List O)
namespace KM
def ret {α:Type} (a:α):KM α:=fun q=>some (a,[],q)
def bnd {α β:Type} (x:KM α) (f:α→KM β):KM β:=fun q=>match x q with
 | some (a,o1,q1)=>match f a q1 with
  | some (b,o2,q2)=>some (b,o1++o2,q2)
  | none=>none
 | none=>none
def opt {α:Type} (x:Option α):KM α:=fun q=>match x with|some a=>some (a,[],q)|none=>none
def obl (p:Prop):KM Unit:=fun q=>some ((),[p],q)
def hear:KM O:=fun q=>match q with|o::q=>some (o,[],q)|[]=>none
def fail {α:Type}:KM α:=fun _=>none
end KM
def KS {α:Type} (x:KM α) (y:Option α):Prop:=∀q a obs q',x q=some (a,obs,q')→All obs→y=some a
def KP {α:Type} (x:KM α) (Q:α→Prop):Prop:=∀q a obs q',x q=some (a,obs,q')→All obs→Q a
section
variable {α β:Type}
theorem KS.kp {x:KM α} {y:Option α} (h:KS x y):KP x (fun a=>y=some a):=h
theorem KP.mono {x:KM α} {Q Q':α→Prop} (h:KP x Q) (hq:∀a,Q a→Q' a):KP x Q':=fun q a obs q' e ho=>hq a (h q a obs q' e ho)
theorem Zh {a:α} {Q:α→Prop} (h:Q a):KP (KM.ret a) Q:=fun q b obs q' e ho=>by
 simp only[KM.ret,Option.some.injEq,Prod.mk.injEq] at e
 obtain⟨rfl,_⟩:=e;exact h
theorem Zc {Q:α→Prop}:KP (KM.fail:KM α) Q:=fun q b obs q' e ho=>by cases e
theorem Za {x:KM α} {f:α→KM β} {Q:α→Prop} {R:β→Prop} (h:KP x Q) (hf:∀a,Q a→KP (f a) R):KP (KM.bnd x f) R:=fun q b obs q' e ho=>by
 simp only[KM.bnd] at e
 split at e
 ·rename_i a o1 q1 h1
  split at e
  ·rename_i b' o2 q2 h2
   simp only[Option.some.injEq,Prod.mk.injEq] at e
   obtain⟨rfl,rfl,rfl⟩:=e
   obtain⟨a1,a2⟩:=ho.app
   exact hf a (h q a o1 q1 h1 a1) q1 b' o2 q2 h2 a2
  ·cases e
 ·cases e
theorem Qq {x:Option α}:KP (KM.opt x) (fun a=>x=some a):=fun q b obs q' e ho=>by
 simp only[KM.opt] at e
 split at e
 ·simp only[Option.some.injEq,Prod.mk.injEq] at e
  obtain⟨rfl,_⟩:=e;rfl
 ·cases e
theorem Zl {p:Prop}:KP (KM.obl p) (fun _=>p):=fun q b obs q' e ho=>by
 simp only[KM.obl,Option.some.injEq,Prod.mk.injEq] at e
 obtain⟨_,rfl,_⟩:=e;exact ho.1
theorem Y1:KP KM.hear (fun _=>True):=fun _ _ _ _ _ _=>trivial
theorem Yi {c:Prop} [Decidable c] {x y:KM α} {Q:α→Prop} (h1:c→KP x Q) (h2:¬c→KP y Q):KP (if c then x else y) Q:=by
 by_cases hc:c
 ·rw[if_pos hc];exact h1 hc
 ·rw[if_neg hc];exact h2 hc
theorem Yy {a:α}:KS (KM.ret a) (some a):=Zh rfl
theorem J0 {x:KM α} {y:Option α} {f:α→KM β} {g:α→Option β} (h:KS x y) (hf:∀a,KS (f a) (g a)):KS (KM.bnd x f) (y.bind g):=
 Za h (fun a e q b obs q' e2 ho=>by rw[e];exact hf a q b obs q' e2 ho)
theorem Yn {x:KM α} {y:Option α} {f:α→β} (h:KS x y):KS (KM.bnd x fun a=>KM.ret (f a)) (y.map f):=
 Za h (fun a e=>by rw[e];exact Zh rfl)
theorem Zib {x:Option α}:KS (KM.opt x) x:=Qq
end
open KM
def offN:Nat→Nat→Nat
 | 0,n=>n
 | m+1,n=>m+1+n
theorem Z3z (m n:Nat):offN m n=m+n:=by cases m<;>simp[offN]
def Zyg (rows:List (List V)) (off len:Nat):KM (List (List V)):=bnd hear fun o=>match o with
 | .k=>match off with
  | 0=>bnd (obl (len=rows.length)) fun _=>ret rows
  | _=>fail
 | .mk _ R=>bnd (obl (off+len≤rows.length)) fun _=>bnd (obl ((rows.drop off).take len=R)) fun _=>ret R
 | _=>fail
theorem Zyo {rows:List (List V)} {off len:Nat}:KP (Zyg rows off len) (fun r=>off+len≤rows.length∧r=(rows.drop off).take len):=by
 unfold Zyg
 refine Za Y1 (fun o _=>?_)
 split
 ·split
  ·refine Za Zl (fun _ h=>Zh ⟨by omega,?_⟩)
   rw[h];simp
  ·exact Zc
 ·exact Za Zl (fun _ h1=>Za Zl (fun _ h2=>Zh ⟨h1,h2.symm⟩))
 ·exact Zc
def Zgq (s:St):V→KM (List (List V))
 | .sl id off len=>match s.heap id with
  | some b=>if b.box=false then Zyg b.rows off len else fail
  | none=>fail
 | .tr rows|.vw rows=>ret rows
 | .lit (.slice none 0 0)=>ret []
 | _=>fail
theorem Jm {s:St} {x:V}:KS (Zgq s x) (s.rowsOf x):=by
 unfold Zgq
 split
 ·rename_i id off len
  simp only[St.rowsOf]
  split
  ·rename_i b hb
   refine Yi (fun hx=>?_) (fun _=>Zc)
   rw[hb,Option.bind_some]
   refine Zyo.mono fun r hr=>?_
   rw[if_pos ⟨hx,hr.1⟩,hr.2]
  ·exact Zc
 ·exact Yy
 ·exact Yy
 ·exact Yy
 ·exact Zc
def Znd (s:St) (id:Id) (off len:Nat):KM (TypeId×List (List V)):=
 match s.heap id with
 | some b=>if b.box=false∧b.own=true∧b.cl=true then bnd (Zyg b.rows off len) fun r=>ret (b.el,r) else fail
 | none=>fail
theorem Zmr {s:St} {id:Id} {off len:Nat}:KS (Znd s id off len) (s.whole id off len):=by
 unfold Znd St.whole
 split
 ·rename_i b hb
  refine Yi (fun hx=>?_) (fun _=>Zc)
  rw[hb,Option.bind_some]
  refine Za Zyo (fun r hr=>Zh ?_)
  rw[if_pos ⟨hx.1,hx.2.1,hx.2.2,hr.1⟩,hr.2]
 ·exact Zc
def Zrb (s:St):V→KM V
 | .lit (.slice none 0 0)=>ret (.tr [])
 | .lit v=>ret (.lit v)
 | .tr rows=>ret (.tr rows)
 | .vw rows=>ret (.tr rows)
 | .sl id off len=>bnd (Zgq s (.sl id off len)) fun r=>ret (.tr r)
 | .rp _ row off=>ret (.rp true row off)
 | _=>fail
theorem Zs5 {s:St} {x:V}:KS (Zrb s x) (s.rdCell x):=by
 unfold Zrb
 split
 ·exact Yy
 ·rename_i v hv
  have:s.rdCell (.lit v)=some (.lit v):=by
   unfold St.rdCell
   split<;>simp_all
  rw[this];exact Yy
 ·exact Yy
 ·exact Yy
 ·exact Yn Jm
 ·exact Yy
 ·exact Zc
def Zk0 (s:St):List V→KM (List V)
 | []=>ret []
 | x::r=>bnd (Zrb s x) fun y=>bnd (Zk0 s r) fun z=>ret (y::z)
theorem Zm2 {s:St}:∀{xs:List V},KS (Zk0 s xs) (s.rdCells xs):=by
 intro xs
 induction xs with
 | nil=>exact Yy
 | cons x xs ih=>exact J0 Zs5 fun y=>Yn ih
def Zom (s:St):V→KM V
 | .ptr id i off=>match s.heap id with
  | some b=>if b.own=true then (match b.box,b.rows,i with
   | true,[row],0=>bnd (Zk0 s row) fun cs=>ret (.rp true cs off)
   | _,_,_=>bnd hear fun o=>match o with
    | .cell row=>bnd (obl (b.rows[i]?=some row)) fun _=>bnd (Zk0 s row) fun cs=>ret (.rp true cs off)
    | _=>fail) else fail
  | none=>fail
 | x=>Zrb s x
theorem Zri {s:St} {x:V}:KS (Zom s x) (s.rdPlace x):=by
 unfold Zom
 split
 ·rename_i id i off
  simp only[St.rdPlace]
  split
  ·rename_i b hb
   refine Yi (fun hx=>?_) (fun _=>Zc)
   rw[hb,Option.bind_some,if_pos hx]
   split
   ·rename_i row h1 h2
    rw[h2]
    exact Yn Zm2
   ·refine Za Y1 (fun o _=>?_)
    split
    ·refine Za Zl (fun _ h=>?_)
     rw[h]
     exact Yn Zm2
    ·exact Zc
  ·exact Zc
 ·rename_i _ hx
  have:s.rdPlace x=s.rdCell x:=by
   unfold St.rdPlace
   split<;>simp_all
  rw[this];exact Zs5
def Zqb (s:St):List V→KM (List V)
 | []=>ret []
 | x::r=>bnd (Zom s x) fun y=>bnd (Zqb s r) fun z=>ret (y::z)
theorem Zzs {s:St}:∀{xs:List V},KS (Zqb s xs) (s.rdPlaces xs):=by
 intro xs
 induction xs with
 | nil=>exact Yy
 | cons x xs ih=>exact J0 Zri fun y=>Yn ih
def Zzv (s:St):V→KM V
 | .agg cs=>bnd (Zk0 s cs) fun y=>ret (.agg y)
 | .fn f caps=>bnd (Zqb s caps) fun y=>ret (.fn f y)
 | x=>Zom s x
theorem Z8g {s:St} {x:V}:KS (Zzv s x) (s.rdArg x):=by
 unfold Zzv
 split
 ·exact Yn Zm2
 ·exact Yn Zzs
 ·rename_i _ h1 h2
  have:s.rdArg x=s.rdPlace x:=by
   unfold St.rdArg
   split<;>simp_all
  rw[this];exact Zri
def Zu4 (s:St):List Mode→List V→KM (List V)
 | _,[]=>ret []
 | ms,x::r=>bnd (match ms.headD .rd with|.rd=>Zzv s x|_=>ret x) fun y=>bnd (Zu4 s ms.tail r) fun z=>ret (y::z)
theorem Z60 {s:St}:∀{xs:List V} {ms:List Mode},KS (Zu4 s ms xs) (s.rdAll ms xs):=by
 intro xs
 induction xs with
 | nil=>intro ms;exact Yy
 | cons x xs ih=>
  intro ms
  simp only[Zu4,St.rdAll]
  refine J0 ?_ fun y=>Yn ih
  unfold St.rdArgM
  cases ms.headD .rd<;>simp only<;>first|exact Z8g|exact Yy
def Zis (s:St) (t:Option TypeId):V→KM (V×St)
 | .lit (.slice none 0 0)=>bnd (opt t) fun e=>ret (.own e [],s)
 | .lit v=>ret (.lit v,s)
 | .tr rows=>ret (.tr rows,s)
 | .vw rows=>ret (.tr rows,s)
 | .sl id off len=>bnd (Znd s id off len) fun er=>ret (.own er.1 er.2,s.kill id)
 | _=>fail
theorem Zkk {s:St} {t:Option TypeId} {x:V}:KS (Zis s t x) (s.giveCell t x):=by
 unfold Zis
 split
 ·exact Yn Zib
 ·rename_i v hv
  have:s.giveCell t (.lit v)=some (.lit v,s):=by
   unfold St.giveCell
   split<;>simp_all
  rw[this];exact Yy
 ·exact Yy
 ·exact Yy
 ·exact Yn Zmr
 ·exact Zc
def Zgd:List (Option TypeId)→List V→(s:St)→KM (List V×St)
 | _,[],s=>ret ([],s)
 | ts,x::r,s=>bnd (Zis s (ts.headD none) x) fun y=>bnd (Zgd ts.tail r y.2) fun z=>ret (y.1::z.1,z.2)
theorem Ziw:∀{xs:List V} {s:St} {ts:List (Option TypeId)},KS (Zgd ts xs s) (s.giveCells ts xs):=by
 intro xs
 induction xs with
 | nil=>intro s ts;exact Yy
 | cons x xs ih=>intro s ts;exact J0 Zkk fun y=>Yn ih
def Zos (s:St) (ts:List (Option TypeId)):V→KM (V×St)
 | .agg cs=>bnd (Zgd ts cs s) fun y=>ret (.agg y.1,y.2)
 | x=>Zis s (ts.headD none) x
theorem Zrn {s:St} {ts:List (Option TypeId)} {x:V}:KS (Zos s ts x) (s.giveArg ts x):=by
 unfold Zos
 split
 ·exact Yn Ziw
 ·rename_i _ h1
  have:s.giveArg ts x=s.giveCell (ts.headD none) x:=by
   unfold St.giveArg
   split<;>simp_all
  rw[this];exact Zkk
def Zk7 (s:St) (ts:List (Option TypeId)) (id:Id):KM (List V×St):=
 match s.heap id with
 | some b=>if b.box=true∧b.own=true then (match b.rows with
  | [row]=>Zgd ts row (s.kill id)
  | _=>fail) else fail
 | none=>fail
theorem Zm3 {s:St} {ts:List (Option TypeId)} {id:Id}:KS (Zk7 s ts id) (s.giveBox ts id):=by
 unfold Zk7 St.giveBox
 split
 ·rename_i b hb
  refine Yi (fun hx=>?_) (fun _=>Zc)
  rw[hb,Option.bind_some,if_pos hx]
  split
  ·rename_i row hrow
   rw[hrow]
   exact Ziw
  ·exact Zc
 ·exact Zc
def Zz1:V→KM V
 | .sl id off len=>bnd hear fun o=>match o with
  | .t true=>bnd (obl (len=0)) fun _=>ret (.tr [])
  | .t false=>bnd (obl (len≠0)) fun _=>ret (.sl id off len)
  | _=>fail
 | x=>ret x
theorem Zwy {x:V}:KP (Zz1 x) (fun y=>thin1 x=y):=by
 cases x with
 | sl id off len=>
  refine Za Y1 (fun o _=>?_)
  cases o with
  | t b=>cases b with
   | true=>exact Za Zl (fun _ h=>Zh (by subst h;rfl))
   | false=>exact Za Zl (fun _ h=>Zh (by cases len with|zero=>exact absurd rfl h|succ n=>rfl))
  | _=>exact Zc
 | _=>exact Zh rfl
def Zzj:List V→KM (List V)
 | []=>ret []
 | x::xs=>bnd (Zz1 x) fun y=>bnd (Zzj xs) fun ys=>ret (y::ys)
theorem Z6z:∀{xs:List V},KP (Zzj xs) (fun ys=>xs.map thin1=ys):=by
 intro xs
 induction xs with
 | nil=>exact Zh rfl
 | cons x xs ih=>exact Za Zwy (fun y hy=>Za ih (fun ys hys=>Zh (by rw[←hy,←hys];rfl)))
def Zye:V→KM V
 | .agg cs=>bnd (Zzj cs) fun ys=>ret (.agg ys)
 | x=>Zz1 x
theorem Zzw {x:V}:KP (Zye x) (fun y=>thin x=y):=by
 cases x with
 | agg cs=>exact Za Z6z (fun ys h=>Zh (by rw[←h];rfl))
 | _=>simp only[Zye,thin];exact Zwy
def Z49 (ts:List (Option TypeId)) (m:Mode) (x:V) (s:St):KM (V×St):=
 match m with
 | .rd=>ret (x,s)
 | .io=>match x with
  | .ptr id 0 0=>bnd (Zk7 s ts id) fun y=>ret (.agg y.1,y.2)
  | _=>fail
 | .mv=>Zos s ts x
 | .iov=>bnd (Zye x) fun y=>Zos s ts y
theorem Z8l {s:St} {ts:List (Option TypeId)} {m:Mode} {x:V}:KS (Z49 ts m x s) (s.give ts m x):=by
 unfold Z49 St.give
 cases m
 ·exact Yy
 ·simp only
  split
  ·exact Yn Zm3
  ·exact Zc
 ·exact Zrn
 ·refine Za Zzw (fun y hy=>?_)
  rw[←hy]
  exact Zrn
def Z4l (s:St) (m:Mode) (e k:Nat) (x o:V):KM St:=match m with
 | .iov=>bnd (Zye x) fun y=>opt (match y,o with
  | .agg cs,.agg ns=>s.backCells cs ns
  | x,o=>s.backCells [x] [o])
 | .rd=>ret s
 | .mv=>ret s
 | .io=>opt (s.back .io e k x o)
theorem Z8z {s:St} {m:Mode} {e k:Nat} {x o:V}:KS (Z4l s m e k x o) (s.back m e k x o):=by
 cases m
 ·exact Yy
 ·exact Zib
 ·exact Yy
 ·simp only[Z4l,St.back]
  refine Za Zzw (fun y hy=>?_)
  rw[hy]
  exact Zib
def Z0v (e:Nat):List Mode→(k:Nat)→List V→List V→(s:St)→KM St
 | _,_,[],_,s=>ret s
 | ms,k,x::xs,o::os,s=>bnd (Z4l s (ms.headD .rd) e k x o) fun s=>Z0v e ms.tail (k+1) xs os s
 | _,_,_::_,[],_=>fail
theorem Z7t {e:Nat}:∀{xs:List V} {s:St} {ms:List Mode} {k:Nat} {os:List V},KS (Z0v e ms k xs os s) (s.backs e ms k xs os):=by
 intro xs
 induction xs with
 | nil=>intro s ms k os;exact Yy
 | cons x xs ih=>
  intro s ms k os
  cases os with
  | nil=>exact Zc
  | cons o os=>exact J0 Z8z fun s=>ih
def Zzp (P:Program):List TypeId→List Mode→List V→(s:St)→KM (List V×St)
 | _,_,[],s=>ret ([],s)
 | ts,ms,x::r,s=>bnd (Z49 (Znl P (ts.headD 0)) (ms.headD .rd) x s) fun y=>bnd (Zzp P ts.tail ms.tail r y.2) fun z=>ret (y.1::z.1,z.2)
theorem Z7y {P:Program}:∀{xs:List V} {s:St} {ts:List TypeId} {ms:List Mode},KS (Zzp P ts ms xs s) (s.gives P ts ms xs):=by
 intro xs
 induction xs with
 | nil=>intro s ts ms;exact Yy
 | cons x xs ih=>intro s ts ms;exact J0 Z8l fun y=>Yn ih
def Zi9:List V→(s:St)→KM (List V×Bool×St)
 | [],s=>ret ([],true,s)
 | x::r,s=>
  match x with
  | .lit (.slice none 0 0)=>bnd (Zi9 r s) fun y=>ret (.tr []::y.1,y.2)
  | .lit v=>bnd (Zi9 r s) fun y=>ret (.lit v::y.1,y.2)
  | .tr rows|.vw rows=>bnd (Zi9 r s) fun y=>ret (.tr rows::y.1,false,y.2.2)
  | .sl id off len=>match s.heap id with
   | some b=>if b.own=true∧b.box=false∧b.cl=true then bnd (Znd s id off len) fun er=>bnd (Zi9 r (s.kill id)) fun y=>ret (.tr er.2::y.1,y.2)
    else if b.own=false then bnd (Zgq s (.sl id off len)) fun rows=>bnd (Zi9 r s) fun y=>ret (.tr rows::y.1,false,y.2.2) else fail
   | none=>fail
  | _=>fail
def Zqo:List (List V)→(s:St)→KM (List (List V)×Bool×St)
 | [],s=>ret ([],true,s)
 | row::r,s=>bnd (Zi9 row s) fun y=>bnd (Zqo r y.2.2) fun z=>ret (y.1::z.1,y.2.1&&z.2.1,z.2.2)
theorem Z0u:∀{xs:List V} {s:St},KS (Zi9 xs s) (s.sink xs):=by
 intro xs
 induction xs with
 | nil=>intro s;exact Yy
 | cons x xs ih=>
  intro s
  unfold Zi9
  split
  ·exact Yn ih
  ·rename_i v hv
   have:s.sink (.lit v::xs)=(s.sink xs).map fun y=>(.lit v::y.1,y.2):=by
    conv=>lhs;unfold St.sink
    split<;>simp_all
   rw[this];exact Yn ih
  ·exact Yn ih
  ·exact Yn ih
  ·rename_i id off len
   simp only[St.sink]
   split
   ·rename_i b hb
    refine Yi (fun hx=>?_) (fun hn=>Yi (fun ho=>?_) (fun _=>Zc))
    ·refine Za Zmr (fun er he=>?_)
     rw[he]
     exact Yn ih
    ·refine Za Jm (fun rows hr=>?_)
     have hw:s.whole id off len=none:=by
      unfold St.whole
      rw[hb,Option.bind_some,if_neg (fun h=>by rw[ho] at h;cases h.2.1)]
     simp only[hw,hb,ho,if_true]
     rw[hr,Option.bind_some]
     exact Yn ih
   ·exact Zc
  ·exact Zc
theorem Zyv:∀{xs:List (List V)} {s:St},KS (Zqo xs s) (s.sinkRows xs):=by
 intro xs
 induction xs with
 | nil=>intro s;exact Yy
 | cons x xs ih=>intro s;exact J0 Z0u fun y=>Yn ih
end Go.Proofs.YtlcfolgfmlgncaaGreatDoor.Ev
