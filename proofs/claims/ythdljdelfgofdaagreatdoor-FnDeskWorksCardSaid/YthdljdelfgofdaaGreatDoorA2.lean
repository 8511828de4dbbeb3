/- A part of the proof of FnDeskWorks: see the text YthdljdelfgofdaaGreatDoorLawFnDeskWorks for what is proved and its conditions. Conditions here: those in each line. -/
import Derived.Test.YthdljdelfgofdaaGreatDoorA1
import Derived.ChangeOld
import Derived.OpenShut
import Derived.Orders
import Derived.ProofKit
import Derived.Tactics
import Derived.WalkKit
set_option linter.unusedSimpArgs false
set_option linter.unusedVariables false
set_option linter.unusedSectionVars false
namespace Go.Proofs.YthdljdelfgofdaaGreatDoor.Ev
open Go Go.RowKit
variable [Anchor]
def WS (P:Program) (w:World) (ok top:Nat->Prop) (m:Yu) (u:Value) (x:V) (fp:List Nat):Prop:=
 match m with
 | .rd=>(∀U,En w ok U u x)/\fp=[]
 | .io=>∃cs,x=.agg cs/\IF P w ok top u cs fp
 | .mv|.Ey=>(∀cs,x≠.CL cs)/\Dz P w ok top u x fp
inductive NW (P:Program) (w:World) (ok top:Nat->Prop):List Yu->List Value->List V->List Nat->Prop
 | nil {ms:List Yu}:NW P w ok top ms [] [] []
 | cons {ms:List Yu} {u:Value} {us:List Value} {x:V} {xs:List V} {f1 f2:List Nat} (h:WS P w ok top (ms.headD .rd) u x f1) (hs:NW P w ok top ms.tail us xs f2):NW P w ok top ms (u::us) (x::xs) (f1++f2)
def IJ (P:Program) (w:World) (ok top:Nat->Prop) (U:AX) (m:Yu) (u:Value) (x:V) (fp:List Nat):Prop:=
 match m with
 | .rd=>En w ok U u x/\fp=[]
 | .io=>∃cs,x=.agg cs/\IF P w ok top u cs fp
 | .mv|.Ey=>(∀cs,x≠.CL cs)/\Dz P w ok top u x fp
inductive NX (P:Program) (w:World) (ok top:Nat->Prop) (U:AX):List Yu->List Value->List V->List Nat->Prop
 | nil {ms:List Yu}:NX P w ok top U ms [] [] []
 | cons {ms:List Yu} {u:Value} {us:List Value} {x:V} {xs:List V} {f1 f2:List Nat} (h:IJ P w ok top U (ms.headD .rd) u x f1) (hs:NX P w ok top U ms.tail us xs f2):NX P w ok top U ms (u::us) (x::xs) (f1++f2)
theorem Da.C2 {P:Program} {w:World} {ok ok' top:Nat->Prop} {v:Value} {x:V} {fp:List Nat} (h:Da P w ok top v x fp) (ht:∀g,ok g->ok' g):Da P w ok' top v x fp:=by
 cases h with
 | lit h=>exact .lit h
 | tr h=>exact .tr (Rd.C2 h ht)
 | own h k=>exact .own h k
theorem Fq.C2 {P:Program} {w:World} {ok ok' top:Nat->Prop} {v:List Value} {x:List V} {fp:List Nat} (h:Fq P w ok top v x fp) (ht:∀g,ok g->ok' g):Fq P w ok' top v x fp:=by
 induction h with
 | nil=>exact .nil
 | cons h _ ih=>exact .cons (h.C2 ht) ih
theorem Dz.C2 {P:Program} {w:World} {ok ok' top:Nat->Prop} {v:Value} {x:V} {fp:List Nat} (h:Dz P w ok top v x fp) (ht:∀g,ok g->ok' g):Dz P w ok' top v x fp:=by
 cases x
 case agg cs=>obtain⟨us,h1,h2⟩:=h;exact⟨us,h1,h2.C2 ht⟩
 case CL cs=>obtain⟨g,cur,e,BQ,h1,h2,h3,h4,h5⟩:=h;exact⟨g,cur,e,BQ,h1,h2,h3.C2 ht,h4,h5⟩
 all_goals exact Da.C2 h ht
theorem FI.C2 {P:Program} {w:World} {ok ok' top:Nat->Prop} {v:List Value} {x:List V} {fp:List Nat} (h:FI P w ok top v x fp) (ht:∀g,ok g->ok' g):FI P w ok' top v x fp:=by
 induction h with
 | nil=>exact .nil
 | cons h _ ih=>
  refine .cons ?_ ih;cases h with
  | one h=>exact .one (h.C2 ht)
  | box h=>exact .box (Dz.C2 h ht)
theorem IF.C2 {P:Program} {w:World} {ok ok' top:Nat->Prop} {u:Value} {cs:List V} {fp:List Nat} (h:IF P w ok top u cs fp) (ht:∀g,ok g->ok' g):IF P w ok' top u cs fp:=by
 obtain⟨g,cur,e,BQ,h1,h2,h3,h4,h5⟩:=h;exact⟨g,cur,e,BQ,h1,h2,h3.C2 ht,h4,h5⟩
theorem IJ.top {P:Program} {w:World} {ok top top':Nat->Prop} {U:AX} {m:Yu} {u:Value} {x:V} {fp:List Nat} (h:IJ P w ok top U m u x fp) (ht:∀g,top g->top' g):IJ P w ok top' U m u x fp:=by
 cases m
 .exact h
 .obtain⟨cs,h1,h2⟩:=h;exact⟨cs,h1,h2.top ht⟩
 .exact⟨h.1,h.2.top ht⟩
 .exact⟨h.1,h.2.top ht⟩
theorem NX.top {P:Program} {w:World} {ok top top':Nat->Prop} {U:AX} {ms:List Yu} {us:List Value} {xs:List V} {fp:List Nat} (h:NX P w ok top U ms us xs fp) (ht:∀g,top g->top' g):NX P w ok top' U ms us xs fp:=by
 induction h with
 | nil=>exact .nil
 | cons h _ ih=>exact .cons (h.top ht) ih
section
variable {P:Program} {B:Nat} {io:Nat->Prop} {w w':World} {tmps:Array Value} {s s' s1:St} {U U':AX} {F F':Id->List Nat} {fl fl':List Nat} {ok ok' top:Nat->Prop}
theorem Rel.CJ (h:Rel P B io w tmps s U F fl):PQ w (AG s U w) U s:=by
 intro id b row hb hr Xl j cur e g o c sz v x hU hg hv hx;have hB:=h.heap id b hb;unfold Xs at hB;rw[Xl] at hB;obtain⟨_,g',cur',e',Ci,hi,Ea,Cj,hs,he,G5,hF⟩:=hB;rw[hr] at Cj;injection Cj with Cj _;subst Cj;rw[hU] at hi;injection hi with hi;injection hi with h1;subst h1;rw[hg] at Ea;injection Ea with Ea;injection Ea with h1;subst h1;exact he j v x hv hx
theorem Yfz {ts:List (Option TypeId)} {x y:V} (h1:s.Ba ts x=some (y,s')):∀cs,y≠.CL cs:=λcs e=>by
 subst e;unfold St.Ba at h1;split at h1
 .obtain⟨_,_,he⟩:=AL.1 h1;simp at he
 .unfold St.A9 at h1
  split at h1<;>simp at h1
theorem En.BV {u:Value} {x:V} (h:En w ok U u x):En w ok U u (Ev.BV x):=by
 unfold Ev.BV;split
 .cases h with
  | sl=>exact .tr .emp
  | sle=>exact .tr .emp
 .exact h
theorem Yq8 {x:V} (h:AD x=true):AD (BV x)=true:=by
 unfold BV;split
 .rfl
 .exact h
theorem En.thin {u:Value} {x:V} (h:En w ok U u x):En w ok U u (Ev.thin x):=by
 unfold Ev.thin;split
 .rename_i cs
  cases h with
  | agg hl hc hr=>
   refine .agg (by simpa using hl) (λy hy=>?_) (λk v y hv hy=>?_)
   .obtain⟨z,hz,rfl⟩:=Dx.1 hy
    exact Yq8 (hc z hz)
   .rw[Dt] at hy
    obtain⟨z,hz,rfl⟩:=AL.1 hy;exact (hr k v z hv hz).BV
 .exact h.BV
theorem Y8n (h0:Rel P B io w tmps s U F fl):∀(xs:List V) {us:List Value} {ts:List TypeId} {ms:List Yu} {s1 s':St} {fl1:List Nat} {ys:List V},Rel P B io w tmps s1 U F fl1->Wg s s1->us.length=xs.length->
  (∀(j:Nat) (u:Value) (x:V),us[j]?=some u->xs[j]?=some x->En w (AG s U w) U u x)->s1.Bs P ts ms xs=some (ys,s')->∃fp,Rel P B io w tmps s' U F (fp++fl1)/\NX P w (AG s U w) (DB s1 s' U F) U ms us ys fp/\Wg s1 s':=by
 intro xs
 induction xs with
 | nil=>
  intro us ts ms s1 s' fl1 ys h J4 hl X7 hg;have:us=[]:=Gz (by simpa using hl);subst this;simp only[St.Bs,AB,A6] at hg;obtain⟨rfl,rfl⟩:=hg;exact⟨[],h,.nil,.refl _⟩
 | cons x xs ih=>
  intro us ts ms s1 s' fl1 ys h J4 hl X7 hg
  match us,hl with
  | u::us,hl=>
   simp only[St.Bs] at hg;obtain⟨⟨y,s2⟩,h1,hg⟩:=A8.1 hg;obtain⟨⟨zs,s3⟩,h2,hg⟩:=AL.1 hg;simp only[A6] at hg;obtain⟨rfl,rfl⟩:=hg;simp only at h2;have hu:=X7 0 u x rfl rfl;have Yf:∀g,AG s U w g->AG s1 U w g:=λg hg=>PO J4 hg;have one:∃fp,Rel P B io w tmps s2 U F (fp++fl1)/\IJ P w (AG s U w) (DB s1 s2 U F) U (ms.headD .rd) u y fp/\Wg s1 s2:=by
    unfold St.Dd at h1;split at h1
    .rename_i hm
     simp only[AB,A6] at h1;obtain⟨rfl,rfl⟩:=h1;rw[hm];exact⟨[],h,⟨hu,rfl⟩,.refl _⟩
    .rename_i hm
     rw[hm];split at h1
     .rename_i bid _
      obtain⟨⟨cs,s4⟩,h3,he⟩:=AL.1 h1;simp only[A6] at he;obtain⟨rfl,rfl⟩:=he;obtain⟨fp,a,b,c,_⟩:=Ygt h hu Yf (h0.CJ.less J4) h3;exact⟨fp,a,⟨cs,rfl,b⟩,c⟩
     .cases h1
    .rename_i hm
     rw[hm];obtain⟨fp,a,b,c⟩:=wG h hu Yf h1;exact⟨fp,a,⟨Yfz h1,b⟩,c⟩
    .rename_i hm
     rw[hm];obtain⟨fp,a,b,c⟩:=wG h hu.thin Yf h1;exact⟨fp,a,⟨Yfz h1,b⟩,c⟩
   obtain⟨f1,r1,a1,l1⟩:=one;obtain⟨f2,r2,a2,l2⟩:=ih r1 (J4.trans l1) (by simpa using hl) (λj v z hv hz=>X7 (j+1) v z (by simpa using hv) (by simpa using hz)) h2;refine⟨f1++f2,r2.perm ?_,.cons (a1.top λg hg=>hg.left l2) (a2.top λg hg=>hg.right l1),l1.trans l2⟩;rw[List.append_assoc];exact (Ph _ _ _)
def Mr (s1:St) (U:AX) (ok:Nat->Prop):Prop:=∀id b g o c sz,s1.heap id=some b->b.own=true->U id=some (.Bl g o c sz)->ok g
theorem Ypl (h:Rel P B io w tmps s U F fl) (hl:Wg s s1) {u:Value} {x y:V} (hu:En w (AG s U w) U u x) (Yf:∀g,AG s U w g->ok' g) (hp:ND x=true\/Mr s1 U ok') (hr:s1.BA x=some y):Rd w ok' u y:=by
 unfold St.BA at hr;split at hr
 .simp only[AB] at hr;subst hr;cases hu;exact .emp
 .simp only[AB] at hr;subst hr;cases hu with|lit h=>exact .lit h
 .simp only[AB] at hr;subst hr;cases hu with|tr h=>exact h.C2 Yf
 .simp only[AB] at hr;subst hr;cases hu with|vw h=>exact h.C2 Yf
 .rename_i id off len
  obtain⟨rows,Wq,rfl⟩:=AL.1 hr;have Ld:Mr s1 U ok':=by
   rcases hp with hp|hp
   .simp[ND] at hp
   .exact hp
  have PA:s.rowsOf (.sl id off len)=some rows:=by
   simp only[St.rowsOf] at Wq ⊢;obtain⟨b,hb,hh⟩:=A8.1 Wq;rw[hl.sub id b hb];exact hh
  have WT:∃b,s1.heap id=some b:=by
   unfold St.rowsOf at Wq;obtain⟨b,hb,_⟩:=A8.1 Wq;exact⟨b,hb⟩
  refine h.rowsOf hu PA Yf (λAv Fk Mh b g o c sz e hb ho hU _ _=>?_);cases e;obtain⟨b',Yx⟩:=WT;have:=hl.sub id b' Yx;rw[hb] at this;injection this with this;subst this;exact Ld id b g o c sz Yx ho hU
 .simp only[AB] at hr
  subst hr;cases hu with
  | rp h=>
   cases h with
   | rp hg hu hr=>exact (Rd.rp hg hu hr).C2 Yf
 .cases hr
theorem Yjg (h:Rel P B io w tmps s U F fl) (hl:Wg s s1) (Yf:∀g,AG s U w g->ok' g):∀(xs:List V) {ys:List V} {us:Nat->Value},(∀(j:Nat) (x:V),xs[j]?=some x->En w (AG s U w) U (us j) x)->(xs.all ND=true\/Mr s1 U ok')->s1.B0 xs=some ys->
  ys.length=xs.length/\∀(j:Nat) (y:V),ys[j]?=some y->Rd w ok' (us j) y:=by
 intro xs
 induction xs with
 | nil=>
  intro ys us _ _ hr;simp only[St.B0,AB] at hr;subst hr;exact⟨rfl,λj y hy=>by simp at hy⟩
 | cons x xs ih=>
  intro ys us X7 hp hr;simp only[St.B0] at hr;obtain⟨y,h1,hr⟩:=A8.1 hr;obtain⟨zs,h2,rfl⟩:=AL.1 hr;obtain⟨l,e⟩:=ih (us:=λj=>us (j+1)) (λj z hz=>X7 (j+1) z (by simpa using hz)) (hp.imp (λh=>by simp only[DW,Bg] at h;exact h.2) (λh=>h)) h2;refine⟨by simp[l],λj z hz=>?_⟩;cases j with
  | zero=>
   have:y=z:=by simpa using hz
   subst this;exact Ypl h hl (X7 0 x rfl) Yf (hp.imp (λh=>by simp only[DW,Bg] at h;exact h.1) (λh=>h)) h1
  | succ j=>exact e j z (by simpa using hz)
theorem Yln (h:Rel P B io w tmps s U F fl) (hl:Wg s s1) {u:Value} {x y:V} (hu:En w (AG s U w) U u x) (Yf:∀g,AG s U w g->ok' g) (hp:ND x=true\/Mr s1 U ok') (hr:s1.Br x=some y):Rd w ok' u y:=by
 unfold St.Br at hr;split at hr
 .rename_i id i off
  obtain⟨b,hb,hr⟩:=A8.1 hr;split at hr
  case isFalse=>cases hr
  rename_i Yw;obtain⟨row,Xg,hr⟩:=A8.1 hr;obtain⟨cs,BO,rfl⟩:=AL.1 hr;have Ld:Mr s1 U ok':=by
   rcases hp with hp|hp
   .simp[ND] at hp
   .exact hp
  have hb0:=hl.sub id b hb;generalize hq:V.ptr id i off=q at hu;cases hu<;>cases hq;rename_i g o c sz hU;have PR:∀(j:Nat) (x:V),row[j]?=some x->∃u,w.cell? ⟨g,o+i*sz+j,none⟩=some u/\En w (AG s U w) U u x:=λj x hx=>by
   obtain⟨u,h1,h2,h3⟩:=h.cell hb0 hU Xg hx;cases Xl:b.box with
   | true=>exact⟨u,h1,h2 Xl⟩
   | false=>exact⟨u,h1,(h3 Xl).en⟩
  have each:∀j,∃u:Value,∀x,row[j]?=some x->w.cell? ⟨g,o+i*sz+j,none⟩=some u/\En w (AG s U w) U u x:=λj=>by
   cases hj:row[j]? with
   | none=>exact⟨undef,λx hx=>by cases hx⟩
   | some z=>
    obtain⟨u,h1,h2⟩:=PR j z hj;exact⟨u,λx hx=>by injection hx with hx;subst hx;exact⟨h1,h2⟩⟩
  obtain⟨uf,NH⟩:=tY each;obtain⟨l,e⟩:=Yjg h hl Yf row (us:=uf) (λj x hx=>(NH j x hx).2) (.inr Ld) BO;refine .rp (u:=uf) (Ld id b g o c sz hb Yw hU) (λj y hy=>?_) (λj y hy=>e j y hy);have Z7:=(CZ.1 hy).1;exact (NH j _ (CB (by omega))).1
 .exact Ypl h hl hu Yf hp hr
theorem Yxw (h:Rel P B io w tmps s U F fl) (hl:Wg s s1) (Yf:∀g,AG s U w g->ok' g):∀(xs:List V) {ys:List V} {us:Nat->Value},(∀(j:Nat) (x:V),xs[j]?=some x->En w (AG s U w) U (us j) x)->(xs.all ND=true\/Mr s1 U ok')->s1.By xs=some ys->
  ys.length=xs.length/\∀(j:Nat) (y:V),ys[j]?=some y->Rd w ok' (us j) y:=by
 intro xs
 induction xs with
 | nil=>
  intro ys us _ _ hr;simp only[St.By,AB] at hr;subst hr;exact⟨rfl,λj y hy=>by simp at hy⟩
 | cons x xs ih=>
  intro ys us X7 hp hr;simp only[St.By] at hr;obtain⟨y,h1,hr⟩:=A8.1 hr;obtain⟨zs,h2,rfl⟩:=AL.1 hr;obtain⟨l,e⟩:=ih (us:=λj=>us (j+1)) (λj z hz=>X7 (j+1) z (by simpa using hz)) (hp.imp (λh=>by simp only[DW,Bg] at h;exact h.2) (λh=>h)) h2;refine⟨by simp[l],λj z hz=>?_⟩;cases j with
  | zero=>
   have:y=z:=by simpa using hz
   subst this;exact Yln h hl (X7 0 x rfl) Yf (hp.imp (λh=>by simp only[DW,Bg] at h;exact h.1) (λh=>h)) h1
  | succ j=>exact e j z (by simpa using hz)
theorem Y72 (h:Rel P B io w tmps s U F fl) (hl:Wg s s1) {u:Value} {x y:V} (hu:En w (AG s U w) U u x) (Yf:∀g,AG s U w g->ok' g) (hp:plain x=true\/Mr s1 U ok') (hr:s1.C1 x=some y) (U':AX):En w ok' U' u y:=by
 unfold St.C1 at hr;split at hr
 .rename_i cs
  obtain⟨ys,h1,rfl⟩:=AL.1 hr;cases hu with
  | @agg vs _ Yo hc hr=>
   obtain⟨l,e⟩:=Yjg h hl Yf cs (us:=λj=>vs.getD j undef) (λj x hx=>by
    have Z7:=(CZ.1 hx).1;have hv:vs[j]?=some vs[j]:=Var (by omega);rw[Pg,hv];exact hr j _ x hv hx) hp h1
   refine .agg (by omega) (λy hy=>?_) (λj v y hv hy=>?_)
   .obtain⟨j,hj⟩:=HF hy
    exact (e j y hj).AD
   .have:=e j y hy
    rw[Pg,hv] at this;exact this.en
 .rename_i f Bu
  obtain⟨ys,h1,rfl⟩:=AL.1 hr;cases hu with
  | @fn _ vs _ Yo hr=>
   obtain⟨l,e⟩:=Yxw h hl Yf Bu (us:=λj=>vs.getD j undef) (λj x hx=>by
    have Z7:=(CZ.1 hx).1;have hv:vs[j]?=some vs[j]:=Var (by omega);rw[Pg,hv];exact hr j _ x hv hx) hp h1
   refine .fn (by omega) (λj v y hv hy=>?_);have:=e j y hy;rw[Pg,hv] at this;exact this.en
 .rename_i h1 h2
  refine (Yln h hl hu Yf (hp.imp (λhp=>?_) (λh=>h)) hr).en;cases x<;>first|exact hp|exact absurd rfl (h1 _)|exact absurd rfl (h2 _ _)
theorem Yt4 (h:Rel P B io w tmps s U F fl) (hl:Wg s s1) (Yf:∀g,AG s U w g->ok' g):∀{ms:List Yu} {us:List Value} {xs ys:List V} {fp:List Nat},NX P w (AG s U w) top U ms us xs fp->(Iv ms xs=true\/Mr s1 U ok')->s1.BL ms xs=some ys->NW P w ok' top ms us ys fp:=by
 intro ms us xs ys fp ha
 induction ha generalizing ys with
 | nil=>
  intro _ hr;simp only[St.BL,AB] at hr;subst hr;exact .nil
 | @cons ms u us x xs f1 f2 hx hxs ih=>
  intro hp hr;simp only[St.BL] at hr;obtain⟨y,h1,hr⟩:=A8.1 hr;obtain⟨zs,h2,rfl⟩:=AL.1 hr;refine .cons ?_ (ih (hp.imp (λh=>by simp only[Iv,Bg] at h;exact h.2) (λh=>h)) h2);have WU:=hp.imp (λh=>by simp only[Iv,Bg] at h;exact h.1) (λh:Mr s1 U ok'=>h);cases hm:ms.headD .rd with
  | rd=>
   rw[hm] at hx h1 WU;simp only[St.Cn] at h1;simp only[uS] at WU;exact⟨λU'=>Y72 h hl hx.1 Yf WU h1 U',hx.2⟩
  | io=>
   rw[hm] at hx h1;simp only[St.Cn,AB] at h1;subst h1;obtain⟨cs,h1,h2⟩:=hx;exact⟨cs,h1,h2.C2 Yf⟩
  | mv=>
   rw[hm] at hx h1;simp only[St.Cn,AB] at h1;subst h1;exact⟨hx.1,hx.2.C2 Yf⟩
  | Ey=>
   rw[hm] at hx h1;simp only[St.Cn,AB] at h1;subst h1;exact⟨hx.1,hx.2.C2 Yf⟩
end
section
variable {P:Program} {B:Nat} {io:Nat->Prop} {w w':World} {a a':Act} {s s':St} {U U':AX} {F F':Id->List Nat} {fl:List Nat} {k:Nat} {o:Oper} {v:V} {M:X6} {C:Ki} {ops:Array Oper}
def GC (P:Program) (B:Nat) (io:Nat->Prop) (fl:List Nat) (w:World) (a:Act) (U:AX) (s':St) (a':Act) (w':World):Prop:=
 ∃U' F',Rel P B io w' a'.tmps s' U' F' fl/\J5 B io w w'/\(∀id i,U id=some i->U' id=some i)/\a'.tmps.size=a.tmps.size/\a'.defers=a.defers
theorem GC.refl (h:Rel P B io w a.tmps s U F fl):GC P B io fl w a U s a w:=⟨U,F,h,J5.refl _ _ _,λ_ _ h=>h,rfl,rfl⟩
theorem GC.trans {w1:World} {a1:Act} {U1:AX} (hl:J5 B io w w1) (hU:∀id i,U id=some i->U1 id=some i) (ht:a1.tmps.size=a.tmps.size) (hd:a1.defers=a.defers) (h:GC P B io fl w1 a1 U1 s' a' w'):GC P B io fl w a U s' a' w':=by
 obtain⟨U',F',h1,h2,h3,h4,h5⟩:=h;exact⟨U',F',h1,hl.trans h2,λid i h=>h3 id i (hU id i h),h4.trans ht,h5.trans hd⟩
theorem Rel.PS (h:Rel P B io w a.tmps s U F fl) {dst:Option Tmp} {u:Value} (hd:∀d,dst=some d->d < a.tmps.size) (hv:En w (AG s U w) U u v):Rel P B io w (a.put dst u).tmps (s.put dst v) U F fl:=by
 cases dst with
 | none=>exact h
 | some d=>
  have Z7:=hd d rfl;exact {h with
   env:=λt x hx=>by
    simp only[Act.put] at hx;simp only[St.put,Bi];by_cases e:t=d
    .subst e
     rw[gC,Aj rfl,Aj Z7] at hx;injection hx with hx;subst hx;rw[Aj rfl];exact hv
    .rw[gC,Ak (λhh=>e hh.symm)] at hx
     rw[Ak e];exact h.env t x hx
   out:=λt ht=>by
    simp only[Act.put,Array.size_setIfInBounds] at ht;simp only[St.put,Bi];rw[Ak (λe=>absurd Z7 (by rw[<-e];exact Nat.not_lt.2 ht))];exact h.out t ht}
theorem wH (a:Act) (dst:Option Tmp) (u:Value):(a.put dst u).tmps.size=a.tmps.size:=by cases dst<;>simp[Act.put]
theorem wI (a:Act) (dst:Option Tmp) (u:Value):(a.put dst u).defers=a.defers:=by cases dst<;>rfl
theorem GD (s:St) (dst:Option Tmp) (v:V):(s.put dst v).ep=s.ep:=by cases dst<;>rfl
theorem PT (s:St) (dst:Option Tmp) (v:V):(s.put dst v).heap=s.heap:=by cases dst<;>rfl
theorem Ypo (h:Rel P B io w a.tmps s U F fl) {g:Bool} (hw:wanted s ops o=some g):Region.wanted o (yielded ops a.tmps)=g:=by
 unfold wanted at hw;unfold Region.wanted;split at hw
 .rename_i hg;simp only[AB] at hw;rw[hg];exact hw
 .rename_i j b hg
  rw[hg];simp only;have hy:∀t,(ops[j]?).bind (·.dst)=some t->yielded ops a.tmps j=match a.tmps[t]? with|some (.bool b)=>some b|_=>none:=λt ht=>by
   unfold yielded;rw[ht];rfl
  cases ht:(ops[j]?).bind (·.dst) with
  | none=>rw[ht] at hw;simp at hw
  | some t=>
   rw[ht] at hw;simp only[D8] at hw;rw[hy t ht];have key:∀{x:V},s.env t=x->x≠.undef->∃u,a.tmps[t]?=some u/\En w (AG s U w) U u x:=λ{x} hx Yg=>by
    by_cases Z7:t < a.tmps.size
    .have h1:a.tmps[t]?=some a.tmps[t]:=Var Z7
     exact⟨_,h1,hx▸h.env t _ h1⟩
    .exact absurd (hx.symm.trans (h.out t (gM Z7))) Yg
   split at hw
   .rename_i c heq
    simp only[AB] at heq hw;obtain⟨u,hu,X7⟩:=key heq (by simp);rw[hu];cases X7;rw[<-hw];cases c<;>cases b<;>rfl
   .rename_i heq
    simp only[AB] at heq hw;obtain⟨u,hu,X7⟩:=key heq (by simp);rw[hu];cases X7;rw[<-hw];cases b<;>rfl
   .cases hw
theorem WV {K:Act->World->Prop} {Q:Exit->Act->World->Prop} {i:Nat} (h:Rel P B io w a.tmps s U F fl) (ho:ops[i]?=some o) (hd:∀d,o.dst=some d->d < a.tmps.size) {g:Bool} (hw:wanted s ops o=some g)
  (Y4:g=true->∀id:Id,id.1=s.ep->id.2 / 1024=i->U id=none) {s1:St} (he:g=true->Iw P M C s i o=some (v,s1)) (WK:g=true->iS P B io w a.tmps s U fl i v s1 M C)
  (hK:∀a' w' U' F',Rel P B io w' a'.tmps (if g then s1.put o.dst v else s.put o.dst (.AZ [])) U' F' fl->(if g then s1.put o.dst v else s.put o.dst (.AZ [])).ep=s.ep->J5 B io w w'->(∀id i,U id=some i->U' id=some i)->(∀id,(U' id).isSome=true->(U id).isSome=true\/(id.1=s.ep/\id.2 / 1024=i))->a'.tmps.size=a.tmps.size->a'.defers=a.defers->K a' w'):
  wpOp P ops Q i K a w:=by
 unfold wpOp;rw[ho];simp only;rw[Ypo h hw];cases g with
 | true=>
  simp only[if_true];refine .inl (Xb5 h (he rfl) (Y4 rfl) (WK rfl) _ _ (λval w' hp=>?_));obtain⟨CN,Yk,hl,U',F',hR,X7,hU,Fi⟩:=hp;exact hK _ _ U' F' (hR.PS hd X7) (by rw[Aj rfl,GD];exact Yk) hl hU Fi (wH _ _ _) (wI _ _ _)
 | false=>
  simp only[Bn,if_false];exact hK _ _ U F (h.PS hd (.AZ (by rfl) (λk v x hv=>by simp[undef] at hv))) (by rw[Ak (by simp),GD]) (J5.refl _ _ _) (λ_ _ h=>h) (λ_ h=>.inl h) (wH _ _ _) (wI _ _ _)
def HP (P:Program) (M:X6) (C:Ki):Prop:=
 ∀(B:Nat) (io:Nat->Prop) (w:World) (tmps:Array Value) (s:St) (U:AX) (F:Id->List Nat) (fl:List Nat) (k:Nat) (v:V) (s':St),Rel P B io w tmps s U F fl->(∀id:Id,id.1=s.ep->id.2 / 1024=k->U id=none)->iS P B io w tmps s U fl k v s' M C
def Ms (n:Nat) (l:List Oper):Bool:=l.all λo=>match o.dst with|some d=>decide (d < n)|none=>true
theorem iU {n:Nat} {l:List Oper} (h:Ms n l=true) {i:Nat} {o:Oper} (ho:l[i]?=some o):∀d,o.dst=some d->d < n:=λd hd=>by
 have:=Cd.1 h o (Eh ho);rw[hd] at this;simpa using this
theorem Y9n {C:Nat->Ki} {Q:Exit->Act->World->Prop} (hC:∀k,HP P M (C k)):∀(l:List Oper) {k:Nat} {s s':St} {a:Act} {w:World} {U:AX} {F:Id->List Nat},Rel P B io w a.tmps s U F fl->(∀j,l[j]?=ops[k+j]?)->Ms a.tmps.size ops.toList=true->
  (∀id:Id,id.1=s.ep->k<=id.2 / 1024->U id=none)->FG P M C ops s k l=some s'->(∀a' w',GC P B io fl w a U s' a' w'->Q .normal a' w')->wpOps P ops Q (List.range' k l.length) a w:=by
 intro l
 induction l with
 | nil=>
  intro k s s' a w U F h _ _ _ he hQ;simp only[FG,AB] at he;subst he;exact hQ _ _ (.refl h)
 | cons o l ih=>
  intro k s s' a w U F h hl hds Y4 he hQ;have h0:ops[k]?=some o:=by simpa using (hl 0).symm
  simp only[FG] at he;obtain⟨g,hg,he⟩:=A8.1 he;simp only[AU,uM];rw[wpOps_cons];have hd:=iU hds (i:=k) (o:=o) (by simpa using h0);have Z7:∀(id:Id),id.1=s.ep->id.2 / 1024=k->U id=none:=λid h1 h2=>Y4 id h1 (by omega);have go:∀{s2:St} {a':Act} {w':World} {U':AX} {F':Id->List Nat},Rel P B io w' a'.tmps s2 U' F' fl->s2.ep=s.ep->J5 B io w w'->(∀id i,U id=some i->U' id=some i)->(∀id,(U' id).isSome=true->(U id).isSome=true\/(id.1=s.ep/\id.2 / 1024=k))->
    a'.tmps.size=a.tmps.size->a'.defers=a.defers->FG P M C ops s2 (k+1) l=some s'->wpOps P ops Q (List.range' (k+1) l.length) a' w':=by
   intro s2 a' w' U' F' hR Yk IK hU Fi GF DZ he2;refine ih hR (λj=>by have:=hl (j+1);simpa [Nat.add_assoc,gU 1 j] using this) (by rw[GF];exact hds) (λid h1 h2=>?_) he2 (λa2 w2 hA=>hQ _ _ (.trans IK hU GF DZ hA));cases hr:U' id with
   | none=>rfl
   | some i=>
    rcases Fi id (by rw[hr];rfl) with h3|⟨_,h3⟩
    .rw[Y4 id (by rw[<-Yk];exact h1) (by omega)] at h3;cases h3
    .omega
  cases g with
  | true=>
   simp only[if_true] at he;obtain⟨⟨v,s1⟩,h1,he⟩:=A8.1 he;refine WV (M:=M) (C:=C k) (v:=v) (s1:=s1) h h0 hd hg (λ_=>Z7) (λ_=>h1) (λ_=>hC k _ _ _ _ _ _ F _ _ _ _ h Z7) (λa' w' U' F' hR Yk IK hU Fi GF DZ=>?_);simp only[if_true] at hR Yk;exact go hR Yk IK hU Fi GF DZ he
  | false=>
   simp only[Bn,if_false] at he;refine WV (M:=M) (C:=C k) (v:=.undef) (s1:=s) h h0 hd hg (λhf=>by cases hf) (λhf=>by cases hf) (λhf=>by cases hf) (λa' w' U' F' hR Yk IK hU Fi GF DZ=>?_);simp only[Bn,if_false] at hR Yk;exact go hR Yk IK hU Fi GF DZ he
end
end Go.Proofs.YthdljdelfgofdaaGreatDoor.Ev
namespace Go.Proofs.YthdljdelfgofdaaGreatDoor.Ev
open Go
structure Ext (D:Id->Prop) (s t:St):Prop where
 ep:t.ep=s.ep
 out:∀id,¬D id->t.heap id=s.heap id
 abs:∀id,D id->s.heap id=none
def Kn (D:Id->Prop) (t s' t':St):Prop:=Ext D s' t'/\(∀id,D id->t'.heap id=t.heap id)/\t'.env=t.env/\t'.ep=t.ep
section
variable {D:Id->Prop} {s t s':St} {P:Program}
theorem Ext.De (h:Ext D s t) {id:Id} {b:Bc} (hb:s.heap id=some b):¬D id:=λhd=>by rw[h.abs id hd] at hb;cases hb
theorem Ext.get (h:Ext D s t) {id:Id} {b:Bc} (hb:s.heap id=some b):t.heap id=some b:=by rw[h.out id (h.De hb)];exact hb
theorem Ext.two (h:Ext D s t):Kn D t s t:=⟨h,λ_ _=>rfl,rfl,rfl⟩
theorem Kn.trans {t1 s1 s2 t2:St} (h:Kn D t s1 t1) (k:Kn D t1 s2 t2):Kn D t s2 t2:=⟨k.1,λid hd=>(k.2.1 id hd).trans (h.2.1 id hd),k.2.2.1.trans h.2.2.1,k.2.2.2.trans h.2.2.2⟩
theorem Ext.kill (h:Ext D s t) {id:Id} (hd:¬D id):Kn D t (s.kill id) (t.kill id):=by
 refine⟨⟨h.ep,λAv DC=>?_,λAv DC=>?_⟩,λAv DC=>?_,rfl,rfl⟩
 .simp only[St.kill,Bi];split
  .rfl
  .exact h.out Av DC
 .simp only[St.kill,Bi];split
  .rfl
  .exact h.abs Av DC
 .simp only[St.kill,Bi];rw[Ak (show ¬Av=id fromλe=>hd (by rw[<-e];exact DC))]
theorem Ext.A5 (h:Ext D s t) {id:Id} {b:Bc} (hd:¬D id):Kn D t (s.A5 id b) (t.A5 id b):=by
 refine⟨⟨h.ep,λAv DC=>?_,λAv DC=>?_⟩,λAv DC=>?_,rfl,rfl⟩
 .simp only[St.A5,Bi];split
  .rfl
  .exact h.out Av DC
 .simp only[St.A5,Bi];rw[Ak (show ¬Av=id fromλe=>hd (by rw[<-e];exact DC))];exact h.abs Av DC
 .simp only[St.A5,Bi];rw[Ak (show ¬Av=id fromλe=>hd (by rw[<-e];exact DC))]
theorem Ext.rowsOf (h:Ext D s t) {x:V} {r:List (List V)} (hr:s.rowsOf x=some r):t.rowsOf x=some r:=by
 unfold St.rowsOf at hr ⊢;split at hr
 .obtain⟨b,hb,hr⟩:=A8.1 hr
  simp only[h.get hb,Ag];exact hr
 .exact hr
 .exact hr
 .exact hr
 .cases hr
theorem Ext.whole (h:Ext D s t) {id:Id} {off len:Nat} {r:TypeId×List (List V)} (hr:s.whole id off len=some r):t.whole id off len=some r/\¬D id:=by
 unfold St.whole at hr ⊢;obtain⟨b,hb,hr⟩:=A8.1 hr;exact⟨by simp only[h.get hb,Ag];exact hr,h.De hb⟩
theorem Ext.sink:∀(xs:List V) {s t:St} {ys:List V} {c:Bool} {s':St},Ext D s t->s.sink xs=some (ys,c,s')->∃t',t.sink xs=some (ys,c,t')/\Kn D t s' t':=by
 intro xs
 induction xs with
 | nil=>
  intro s t ys c s' h hs;simp only[St.sink,AB,A6] at hs;obtain⟨rfl,rfl,rfl⟩:=hs;exact⟨t,rfl,h.two⟩
 | cons x xs ih=>
  intro s t ys c s' h hs;have step:∀{y:V} {f:Bool->Bool},((s.sink xs).map λq=>(y::q.1,f q.2.1,q.2.2))=some (ys,c,s')->∃t',((t.sink xs).map λq=>(y::q.1,f q.2.1,q.2.2))=some (ys,c,t')/\Kn D t s' t':=by
   intro y f hs;obtain⟨⟨q1,q2,q3⟩,hq,he⟩:=AL.1 hs;simp only[A6] at he;obtain⟨rfl,rfl,rfl⟩:=he;obtain⟨t',h1,h2⟩:=ih h hq;exact⟨t',by rw[h1];rfl,h2⟩
  unfold St.sink at hs ⊢;split at hs
  .exact step (f:=λb=>b) hs
  .rename_i Yg
   exact step (f:=λb=>b) hs
  .exact step (f:=λ_=>false) hs
  .exact step (f:=λ_=>false) hs
  .rename_i id off len
   split at hs
   .rename_i er hw
    obtain⟨Gg,hd⟩:=h.whole hw;obtain⟨⟨q1,q2,q3⟩,hq,he⟩:=AL.1 hs;simp only[A6] at he;obtain⟨rfl,rfl,rfl⟩:=he;obtain⟨t',h1,h2⟩:=ih (h.kill hd).1 hq;refine⟨t',by rw[Gg];simp only[h1];rfl,(h.kill hd).trans h2⟩
   .rename_i hw
    split at hs
    .rename_i b hb
     split at hs
     .rename_i Yw
      obtain⟨rows,Wq,hs⟩:=A8.1 hs;obtain⟨t',h1,h2⟩:=step (f:=λ_=>false) hs;have Yx:=h.get hb;have Gg:t.whole id off len=none:=by
       unfold St.whole at hw ⊢;rw[Yx] ;rw[hb] at hw;exact hw
      exact⟨t',by rw[Gg,Yx];simp only[Yw,if_true,h.rowsOf Wq,Ag];exact h1,h2⟩
     .cases hs
    .cases hs
  .cases hs
theorem Ext.Bp:∀(xs:List (List V)) {s t:St} {ys:List (List V)} {c:Bool} {s':St},Ext D s t->s.Bp xs=some (ys,c,s')->∃t',t.Bp xs=some (ys,c,t')/\Kn D t s' t':=by
 intro xs
 induction xs with
 | nil=>
  intro s t ys c s' h hs;simp only[St.Bp,AB,A6] at hs;obtain⟨rfl,rfl,rfl⟩:=hs;exact⟨t,rfl,h.two⟩
 | cons x xs ih=>
  intro s t ys c s' h hs;simp only[St.Bp] at hs ⊢;obtain⟨⟨y1,c1,s1⟩,h1,hs⟩:=A8.1 hs;obtain⟨⟨y2,c2,s2⟩,h2,hs⟩:=AL.1 hs;simp only[A6] at hs;obtain⟨rfl,rfl,rfl⟩:=hs;obtain⟨t1,g1,e1⟩:=Ext.sink x h h1;obtain⟨t2,g2,e2⟩:=ih e1.1 h2;exact⟨t2,by rw[g1];simp only[Ag,g2];rfl,e1.trans e2⟩
theorem Ext.BA (h:Ext D s t) {x y:V} (hr:s.BA x=some y):t.BA x=some y:=by
 unfold St.BA at hr ⊢;split at hr
 .exact hr
 .exact hr
 .exact hr
 .exact hr
 .obtain⟨r,h1,rfl⟩:=AL.1 hr
  rw[h.rowsOf h1];rfl
 .exact hr
 .exact hr
theorem Ext.B0 (h:Ext D s t):∀{xs ys:List V},s.B0 xs=some ys->t.B0 xs=some ys:=by
 intro xs
 induction xs with
 | nil=>intro ys hr;exact hr
 | cons x xs ih=>
  intro ys hr;simp only[St.B0] at hr ⊢;obtain⟨y,h1,hr⟩:=A8.1 hr;obtain⟨zs,h2,rfl⟩:=AL.1 hr;rw[h.BA h1];simp only[Ag,ih h2];rfl
theorem Ext.Br (h:Ext D s t) {x y:V} (hr:s.Br x=some y):t.Br x=some y:=by
 unfold St.Br at hr ⊢;split at hr
 .obtain⟨b,hb,hr⟩:=A8.1 hr
  simp only[h.get hb,Ag];split at hr
  .rename_i ho
   rw[Aj ho];obtain⟨row,Xg,hr⟩:=A8.1 hr;obtain⟨cs,BO,rfl⟩:=AL.1 hr;rw[Xg];simp only[Ag,h.B0 BO];rfl
  .cases hr
 .exact h.BA hr
theorem Ext.By (h:Ext D s t):∀{xs ys:List V},s.By xs=some ys->t.By xs=some ys:=by
 intro xs
 induction xs with
 | nil=>intro ys hr;exact hr
 | cons x xs ih=>
  intro ys hr;simp only[St.By] at hr ⊢;obtain⟨y,h1,hr⟩:=A8.1 hr;obtain⟨zs,h2,rfl⟩:=AL.1 hr;rw[h.Br h1];simp only[Ag,ih h2];rfl
theorem Ext.C1 (h:Ext D s t) {x y:V} (hr:s.C1 x=some y):t.C1 x=some y:=by
 unfold St.C1 at hr ⊢;split at hr
 .obtain⟨ys,h1,rfl⟩:=AL.1 hr
  simp only[h.B0 h1];rfl
 .obtain⟨ys,h1,rfl⟩:=AL.1 hr
  simp only[h.By h1];rfl
 .exact h.Br hr
theorem Ext.BL (h:Ext D s t):∀{xs:List V} {ms:List Yu} {ys:List V},s.BL ms xs=some ys->t.BL ms xs=some ys:=by
 intro xs
 induction xs with
 | nil=>intro ms ys hr;exact hr
 | cons x xs ih=>
  intro ms ys hr;simp only[St.BL] at hr ⊢;obtain⟨y,h1,hr⟩:=A8.1 hr;obtain⟨zs,h2,rfl⟩:=AL.1 hr;have:t.Cn (ms.headD .rd) x=some y:=by
   unfold St.Cn at h1 ⊢;split at h1
   .exact h.C1 h1
   .exact h1
  rw[this];simp only[Ag,ih h2];rfl
theorem Ext.A9 (h:Ext D s t) {ty:Option TypeId} {x y:V} (hg:s.A9 ty x=some (y,s')):∃t',t.A9 ty x=some (y,t')/\Kn D t s' t':=by
 unfold St.A9 at hg ⊢;split at hg
 .obtain⟨e,h1,he⟩:=AL.1 hg
  simp only[A6] at he;obtain⟨rfl,rfl⟩:=he;exact⟨t,by rw[h1];rfl,h.two⟩
 .simp only[AB,A6] at hg
  obtain⟨rfl,rfl⟩:=hg;exact⟨t,rfl,h.two⟩
 .simp only[AB,A6] at hg
  obtain⟨rfl,rfl⟩:=hg;exact⟨t,rfl,h.two⟩
 .simp only[AB,A6] at hg
  obtain⟨rfl,rfl⟩:=hg;exact⟨t,rfl,h.two⟩
 .obtain⟨er,h1,he⟩:=AL.1 hg
  simp only[A6] at he;obtain⟨rfl,rfl⟩:=he;obtain⟨h2,hd⟩:=h.whole h1;exact⟨_,by rw[h2];rfl,h.kill hd⟩
 .cases hg
theorem Ext.AK:∀{xs:List V} {s t:St} {ts:List (Option TypeId)} {ys:List V} {s':St},Ext D s t->s.AK ts xs=some (ys,s')->∃t',t.AK ts xs=some (ys,t')/\Kn D t s' t':=by
 intro xs
 induction xs with
 | nil=>
  intro s t ts ys s' h hs;simp only[St.AK,AB,A6] at hs;obtain⟨rfl,rfl⟩:=hs;exact⟨t,rfl,h.two⟩
 | cons x xs ih=>
  intro s t ts ys s' h hs;simp only[St.AK] at hs ⊢;obtain⟨⟨y1,s1⟩,h1,hs⟩:=A8.1 hs;obtain⟨⟨y2,s2⟩,h2,hs⟩:=AL.1 hs;simp only[A6] at hs;obtain⟨rfl,rfl⟩:=hs;obtain⟨t1,g1,e1⟩:=h.A9 h1;obtain⟨t2,g2,e2⟩:=ih e1.1 h2;exact⟨t2,by rw[g1];simp only[Ag,g2];rfl,e1.trans e2⟩
theorem Ext.Ba (h:Ext D s t) {ts:List (Option TypeId)} {x y:V} (hg:s.Ba ts x=some (y,s')):∃t',t.Ba ts x=some (y,t')/\Kn D t s' t':=by
 unfold St.Ba at hg ⊢;split at hg
 .obtain⟨⟨ys,s1⟩,h1,he⟩:=AL.1 hg
  simp only[A6] at he;obtain⟨rfl,rfl⟩:=he;obtain⟨t',g,e⟩:=Ext.AK h h1;exact⟨t',by rw[g];rfl,e⟩
 .exact h.A9 hg
theorem Ext.Bv (h:Ext D s t) {ts:List (Option TypeId)} {id:Id} {ys:List V} (hg:s.Bv ts id=some (ys,s')):(∃t',t.Bv ts id=some (ys,t')/\Kn D t s' t')/\¬D id:=by
 unfold St.Bv at hg ⊢;obtain⟨b,hb,hg⟩:=A8.1 hg;refine⟨?_,h.De hb⟩;simp only[h.get hb,Ag];split at hg
 .rename_i hc
  rw[Aj hc];split at hg
  .rename_i row hr
   obtain⟨t',g,e⟩:=Ext.AK (h.kill (h.De hb)).1 hg;exact⟨t',g,(h.kill (h.De hb)).trans e⟩
  .cases hg
 .cases hg
theorem Ext.Bh (h:Ext D s t) {ty:Option TypeId} {x y:V} (hg:s.Bh ty x=some (y,s')):∃t',t.Bh ty x=some (y,t')/\Kn D t s' t':=by
 unfold St.Bh at hg ⊢;split at hg
 .obtain⟨⟨ys,s1⟩,h1,he⟩:=AL.1 hg
  simp only[A6] at he;obtain⟨rfl,rfl⟩:=he;obtain⟨⟨t',g,e⟩,_⟩:=h.Bv h1;exact⟨t',by simp only[g];rfl,e⟩
 .exact h.A9 hg
theorem Ext.AQ:∀{xs:List V} {s t:St} {ts:List (Option TypeId)} {ys:List V} {s':St},Ext D s t->s.AQ ts xs=some (ys,s')->∃t',t.AQ ts xs=some (ys,t')/\Kn D t s' t':=by
 intro xs
 induction xs with
 | nil=>
  intro s t ts ys s' h hs;simp only[St.AQ,AB,A6] at hs;obtain⟨rfl,rfl⟩:=hs;exact⟨t,rfl,h.two⟩
 | cons x xs ih=>
  intro s t ts ys s' h hs;simp only[St.AQ] at hs ⊢;obtain⟨⟨y1,s1⟩,h1,hs⟩:=A8.1 hs;obtain⟨⟨y2,s2⟩,h2,hs⟩:=AL.1 hs;simp only[A6] at hs;obtain⟨rfl,rfl⟩:=hs;obtain⟨t1,g1,e1⟩:=h.Bh h1;obtain⟨t2,g2,e2⟩:=ih e1.1 h2;exact⟨t2,by rw[g1];simp only[Ag,g2];rfl,e1.trans e2⟩
theorem Ext.Bd (h:Ext D s t) {ts:List (Option TypeId)} {id:Id} {ys:List V} (hg:s.Bd ts id=some (ys,s')):(∃t',t.Bd ts id=some (ys,t')/\Kn D t s' t')/\¬D id:=by
 unfold St.Bd at hg ⊢;obtain⟨b,hb,hg⟩:=A8.1 hg;refine⟨?_,h.De hb⟩;simp only[h.get hb,Ag];split at hg
 .rename_i hc
  rw[Aj hc];split at hg
  .rename_i row hr
   obtain⟨t',g,e⟩:=Ext.AQ (h.kill (h.De hb)).1 hg;exact⟨t',g,(h.kill (h.De hb)).trans e⟩
  .cases hg
 .cases hg
def WW (D:Id->Prop):V->Prop
 | .sl id _ _=>¬D id
 | _=>True
def IL (D:Id->Prop) (m:Yu) (x:V):Prop:=match m with
 | .io=>match x with|.ptr id _ _=>¬D id|_=>True
 | .Ey=>match thin x with|.agg cs=>∀c∈cs,WW D c|x=>WW D x
 | _=>True
def wJ (D:Id->Prop):List Yu->List V->Prop
 | _,[]=>True
 | ms,x::r=>IL D (ms.headD .rd) x/\wJ D ms.tail r
theorem Ext.CT (h:Ext D s t) {ty:Option TypeId} {x y:V} (hg:s.A9 ty x=some (y,s')):WW D x:=by
 cases x<;>try exact trivial
 rename_i id off len;simp only[St.A9] at hg;obtain⟨er,h1,he⟩:=AL.1 hg;exact (h.whole h1).2
theorem Ext.Eb:∀{xs:List V} {s t:St} {ts:List (Option TypeId)} {ys:List V} {s':St},Ext D s t->s.AK ts xs=some (ys,s')->∀c∈xs,WW D c:=by
 intro xs
 induction xs with
 | nil=>intro s t ts ys s' h hs c hc;simp at hc
 | cons x xs ih=>
  intro s t ts ys s' h hs c hc;simp only[St.AK] at hs;obtain⟨⟨y1,s1⟩,h1,hs⟩:=A8.1 hs;obtain⟨⟨y2,s2⟩,h2,hs⟩:=AL.1 hs;rcases Ce.1 hc with rfl|hc
  .exact h.CT h1
  .obtain⟨t1,g1,e1⟩:=h.A9 h1
   exact ih e1.1 h2 c hc
theorem Ext.Dd (h:Ext D s t) {ts:List (Option TypeId)} {m:Yu} {x y:V} (hg:s.Dd ts m x=some (y,s')):(∃t',t.Dd ts m x=some (y,t')/\Kn D t s' t')/\IL D m x:=by
 unfold St.Dd at hg ⊢;split at hg
 .simp only[AB,A6] at hg
  obtain⟨rfl,rfl⟩:=hg;exact⟨⟨t,rfl,h.two⟩,trivial⟩
 .split at hg
  .obtain⟨⟨ys,s1⟩,h1,he⟩:=AL.1 hg
   simp only[A6] at he;obtain⟨rfl,rfl⟩:=he;obtain⟨⟨t',g,e⟩,hd⟩:=h.Bd h1;exact⟨⟨t',by simp only[g];rfl,e⟩,hd⟩
  .cases hg
 .exact⟨h.Ba hg,trivial⟩
 .refine⟨h.Ba hg,?_⟩
  unfold IL;generalize thin x=z at hg;unfold St.Ba at hg;split at hg
  .obtain⟨⟨ys,s1⟩,h1,he⟩:=AL.1 hg
   exact Ext.Eb h h1
  .rename_i Yg
   have:=h.CT hg;cases z<;>first|exact this|exact absurd rfl (Yg _)
theorem Ext.Bs:∀{xs:List V} {s t:St} {ts:List TypeId} {ms:List Yu} {ys:List V} {s':St},Ext D s t->s.Bs P ts ms xs=some (ys,s')->(∃t',t.Bs P ts ms xs=some (ys,t')/\Kn D t s' t')/\wJ D ms xs:=by
 intro xs
 induction xs with
 | nil=>
  intro s t ts ms ys s' h hs;simp only[St.Bs,AB,A6] at hs;obtain⟨rfl,rfl⟩:=hs;exact⟨⟨t,rfl,h.two⟩,trivial⟩
 | cons x xs ih=>
  intro s t ts ms ys s' h hs;simp only[St.Bs] at hs ⊢;obtain⟨⟨y1,s1⟩,h1,hs⟩:=A8.1 hs;obtain⟨⟨y2,s2⟩,h2,hs⟩:=AL.1 hs;simp only[A6] at hs;obtain⟨rfl,rfl⟩:=hs;obtain⟨⟨t1,g1,e1⟩,i1⟩:=h.Dd h1;obtain⟨⟨t2,g2,e2⟩,i2⟩:=ih e1.1 h2;exact⟨⟨t2,by rw[g1];simp only[Ag,g2];rfl,e1.trans e2⟩,i1,i2⟩
theorem Ext.AS (h:Ext D s t) {id:Id} (hd:¬D id) {x y:V} (hg:s.AS id x=some (y,s')):∃t',t.AS id x=some (y,t')/\Kn D t s' t':=by
 unfold St.AS at hg ⊢;split at hg
 .simp only[AB,A6] at hg
  obtain⟨rfl,rfl⟩:=hg;exact⟨_,rfl,h.A5 hd⟩
 .simp only[AB,A6] at hg
  obtain⟨rfl,rfl⟩:=hg;exact⟨t,rfl,h.two⟩
 .simp only[AB,A6] at hg
  obtain⟨rfl,rfl⟩:=hg;exact⟨t,rfl,h.two⟩
 .cases hg
theorem Ext.AM {e:Nat}:∀{xs:List V} {s t:St} {k:Nat} {ys:List V} {s':St},Ext D s t->(∀j,k<=j->j < k+xs.length->¬D (e,j))->s.AM e k xs=some (ys,s')->∃t',t.AM e k xs=some (ys,t')/\Kn D t s' t':=by
 intro xs
 induction xs with
 | nil=>
  intro s t k ys s' h _ hs;simp only[St.AM,AB,A6] at hs;obtain⟨rfl,rfl⟩:=hs;exact⟨t,rfl,h.two⟩
 | cons x xs ih=>
  intro s t k ys s' h hd hs;simp only[St.AM] at hs ⊢;obtain⟨⟨y1,s1⟩,h1,hs⟩:=A8.1 hs;obtain⟨⟨y2,s2⟩,h2,hs⟩:=AL.1 hs;simp only[A6] at hs;obtain⟨rfl,rfl⟩:=hs;obtain⟨t1,g1,e1⟩:=h.AS (hd k (B2 _) (by simp)) h1;obtain⟨t2,g2,e2⟩:=ih e1.1 (λj hj Z7=>hd j (by omega) (by simp only[AU];omega)) h2;exact⟨t2,by rw[g1];simp only[Ag,g2];rfl,e1.trans e2⟩
theorem Ext.B1 (h:Ext D s t) {e k:Nat} {x y:V} (hd:∀j,k<=j->j < k+KQ x->¬D (e,j)) (hg:s.B1 e k x=some (y,s')):∃t',t.B1 e k x=some (y,t')/\Kn D t s' t':=by
 unfold St.B1 at hg ⊢;split at hg
 .simp only[KQ] at hd
  obtain⟨⟨ys,s1⟩,h1,he⟩:=AL.1 hg;simp only[A6] at he;obtain⟨rfl,rfl⟩:=he;obtain⟨t',g,e⟩:=Ext.AM h (λj hj Z7=>hd j (by omega) (by omega)) h1;exact⟨_,by rw[g];rfl,e.trans (e.1.A5 (hd _ (B2 _) (by omega)))⟩
 .exact h.AS (hd k (B2 _) (by unfold KQ;split<;>omega)) hg
theorem Ext.AW {e:Nat}:∀{xs:List V} {s t:St} {k:Nat} {ys:List V} {s':St},Ext D s t->(∀j,k<=j->j < k+wt xs->¬D (e,j))->s.AW e k xs=some (ys,s')->∃t',t.AW e k xs=some (ys,t')/\Kn D t s' t':=by
 intro xs
 induction xs with
 | nil=>
  intro s t k ys s' h _ hs;simp only[St.AW,AB,A6] at hs;obtain⟨rfl,rfl⟩:=hs;exact⟨t,rfl,h.two⟩
 | cons x xs ih=>
  intro s t k ys s' h hd hs;simp only[wt] at hd;simp only[St.AW] at hs ⊢;obtain⟨⟨y1,s1⟩,h1,hs⟩:=A8.1 hs;obtain⟨⟨y2,s2⟩,h2,hs⟩:=AL.1 hs;simp only[A6] at hs;obtain⟨rfl,rfl⟩:=hs;obtain⟨t1,g1,e1⟩:=h.B1 (λj hj Z7=>hd j hj (by omega)) h1;obtain⟨t2,g2,e2⟩:=ih e1.1 (λj hj Z7=>hd j (by omega) (by omega)) h2;exact⟨t2,by rw[g1];simp only[Ag,g2];rfl,e1.trans e2⟩
theorem Ext.BC (h:Ext D s t) {e k:Nat} (hd:∀j,k<=j->j < k+64->¬D (e,j)) {cs:List V} {y:V} (hg:s.BC e k cs=some (y,s')):∃t',t.BC e k cs=some (y,t')/\Kn D t s' t':=by
 unfold St.BC at hg ⊢;split at hg
 .rename_i hl
  rw[Aj hl];obtain⟨⟨ys,s1⟩,h1,he⟩:=AL.1 hg;simp only[A6] at he;obtain⟨rfl,rfl⟩:=he;obtain⟨t',g,e⟩:=Ext.AW h (λj hj Z7=>hd j hj (by omega)) h1;exact⟨_,by rw[g];rfl,e.trans (e.1.A5 (hd _ (by omega) (by omega)))⟩
 .cases hg
theorem Ext.Bb (h:Ext D s t) {e k:Nat} (hd:∀j,k<=j->j < k+64->¬D (e,j)) {x y:V} (hg:s.Bb e k x=some (y,s')):∃t',t.Bb e k x=some (y,t')/\Kn D t s' t':=by
 unfold St.Bb at hg ⊢;split at hg
 .split at hg
  .rename_i hl
   rw[Aj hl];obtain⟨⟨ys,s1⟩,h1,he⟩:=AL.1 hg;simp only[A6] at he;obtain⟨rfl,rfl⟩:=he;obtain⟨t',g,e⟩:=Ext.AM h (λj hj Z7=>hd j hj (by omega)) h1;exact⟨t',by rw[g];rfl,e⟩
  .cases hg
 .split at hg
  .rename_i hl
   rw[Aj hl];obtain⟨⟨ys,s1⟩,h1,he⟩:=AL.1 hg;simp only[A6] at he;obtain⟨rfl,rfl⟩:=he;obtain⟨t',g,e⟩:=Ext.AM h (λj hj Z7=>hd j hj (by omega)) h1;exact⟨_,by rw[g];rfl,e.trans (e.1.A5 (hd _ (by omega) (by omega)))⟩
  .cases hg
 .exact h.AS (hd k (B2 _) (by omega)) hg
theorem Ext.Bw {e:Nat}:∀{xs:List V} {s t:St} {k:Nat} {ys:List V} {s':St},Ext D s t->(∀j,64*k<=j->j < 64*(k+xs.length)->¬D (e,j))->s.Bw e k xs=some (ys,s')->∃t',t.Bw e k xs=some (ys,t')/\Kn D t s' t':=by
 intro xs
 induction xs with
 | nil=>
  intro s t k ys s' h _ hs;simp only[St.Bw,AB,A6] at hs;obtain⟨rfl,rfl⟩:=hs;exact⟨t,rfl,h.two⟩
 | cons x xs ih=>
  intro s t k ys s' h hd hs;simp only[AU] at hd;simp only[St.Bw] at hs ⊢;obtain⟨⟨y1,s1⟩,h1,hs⟩:=A8.1 hs;obtain⟨⟨y2,s2⟩,h2,hs⟩:=AL.1 hs;simp only[A6] at hs;obtain⟨rfl,rfl⟩:=hs;obtain⟨t1,g1,e1⟩:=h.Bb (λj hj Z7=>hd j hj (by omega)) h1;obtain⟨t2,g2,e2⟩:=ih e1.1 (λj hj Z7=>hd j (by omega) (by omega)) h2;exact⟨t2,by rw[g1];simp only[Ag,g2];rfl,e1.trans e2⟩
theorem Ext.BB (h:Ext D s t) {e k:Nat} (hd:∀j,64*k<=j->j < 64*(k+8)->¬D (e,j)) {x y:V} (hg:s.BB e k x=some (y,s')):∃t',t.BB e k x=some (y,t')/\Kn D t s' t':=by
 unfold St.BB at hg ⊢;split at hg
 .split at hg
  .rename_i hl
   rw[Aj hl];obtain⟨⟨ys,s1⟩,h1,he⟩:=AL.1 hg;simp only[A6] at he;obtain⟨rfl,rfl⟩:=he;obtain⟨t',g,e⟩:=Ext.Bw h (λj hj Z7=>hd j hj (by omega)) h1;exact⟨t',by rw[g];rfl,e⟩
  .cases hg
 .exact h.Bb (λj hj Z7=>hd j hj (by omega)) hg
theorem Ext.AO:∀{xs:List V} {s t:St} {os:List V} {s':St},Ext D s t->(∀c∈xs,WW D c)->s.AO xs os=some s'->∃t',t.AO xs os=some t'/\Kn D t s' t':=by
 intro xs
 induction xs with
 | nil=>
  intro s t os s' h _ hs;simp only[St.AO,AB] at hs;subst hs;exact⟨t,rfl,h.two⟩
 | cons x xs ih=>
  intro s t os s' h hd hs;unfold St.AO at hs ⊢;split at hs
  .rename_i heq;cases heq
  .rename_i id l os1 e rows ns Le
   injection Le with h1 h2;subst h1;subst h2;have:=h.A5 (b:=⟨false,true,true,e,rows⟩) (hd _ BJ);obtain⟨t',g,e⟩:=ih this.1 (λc hc=>hd c (Cp _ hc)) hs;exact⟨t',g,this.trans e⟩
  .rename_i Le
   injection Le with h1 h2;subst h1;subst h2;rename_i Yg;obtain⟨t',g,e⟩:=ih h (λc hc=>hd c (Cp _ hc)) hs;exact⟨t',g,e⟩
  .cases hs
theorem Ext.back (h:Ext D s t) {m:Yu} {e k:Nat} (hd:∀j,64*k<=j->j < 64*(k+1)->¬D (e,j)) {x o:V} (hi:IL D m x) (hb:s.back m e k x o=some s'):∃t',t.back m e k x o=some t'/\Kn D t s' t':=by
 unfold St.back at hb ⊢;split at hb
 .simp only[AB] at hb;subst hb;exact⟨t,rfl,h.two⟩
 .simp only[AB] at hb;subst hb;exact⟨t,rfl,h.two⟩
 .split at hb
  .split at hb
   .rename_i hl
    rw[Aj hl];obtain⟨⟨ys,s1⟩,h1,rfl⟩:=AL.1 hb;obtain⟨t',g,e⟩:=Ext.AW h (λj hj Z7=>hd j hj (by omega)) h1;exact⟨_,by rw[g];rfl,e.trans (e.1.A5 hi)⟩
   .cases hb
  .cases hb
 .unfold IL at hi
  generalize thin x=z at hb hi;split at hb
  .exact Ext.AO h hi hb
  .rename_i Yg
   refine Ext.AO h (λc hc=>?_) hb;rw[List.mem_singleton.1 hc];cases z<;>first|exact hi|exact trivial
theorem Ext.BE {e:Nat}:∀{xs:List V} {s t:St} {ms:List Yu} {k:Nat} {os:List V} {s':St},Ext D s t->(∀j,64*k<=j->j < 64*(k+xs.length)->¬D (e,j))->wJ D ms xs->s.BE e ms k xs os=some s'->∃t',t.BE e ms k xs os=some t'/\Kn D t s' t':=by
 intro xs
 induction xs with
 | nil=>
  intro s t ms k os s' h _ _ hs;simp only[St.BE,AB] at hs;subst hs;exact⟨t,by simp[St.BE],h.two⟩
 | cons x xs ih=>
  intro s t ms k os s' h hd hi hs;simp only[AU] at hd;cases os with
  | nil=>simp[St.BE] at hs
  | cons o os=>
   simp only[St.BE] at hs ⊢;obtain⟨s1,h1,hs⟩:=A8.1 hs;obtain⟨t1,g1,e1⟩:=h.back (λj hj Z7=>hd j hj (by omega)) hi.1 h1;obtain⟨t2,g2,e2⟩:=ih e1.1 (λj hj Z7=>hd j (by omega) (by omega)) hi.2 hs;exact⟨t2,by rw[g1];exact g2,e1.trans e2⟩
variable {M:X6} {C:Ki} {k:Nat} {o:Oper} {v:V}
theorem Ext.call (h:Ext D s t) (hd:∀id:Id,D id->¬(id.1=s.ep/\id.2 / 1024=k)) {g:FuncId} {args:List V} (hc:KR P M C s k g args=some (v,s')):∃t',KR P M C t k g args=some (v,t')/\Kn D t s' t':=by
 unfold KR at hc ⊢;split at hc
 case isFalse=>cases hc
 rename_i hl;rw[Aj hl];obtain⟨⟨ys,s1⟩,h1,hc⟩:=A8.1 hc;obtain⟨xs,h2,hc⟩:=A8.1 hc;obtain⟨⟨r,os⟩,h3,hc⟩:=A8.1 hc;obtain⟨⟨t1,g1,e1⟩,i1⟩:=h.Bs h1;have g2:=e1.1.BL h2;simp only at hc g2;rw[g1];simp only[Ag,g2,h3];split at hc
 .cases hc
 .rename_i hp
  rw[Ak hp];obtain⟨s2,h4,h5⟩:=A8.1 hc;have CU:∀j,1024*k<=j->j < 1024*(k+1)->¬D (s.ep,j):=λj h1 h2 hD=>hd _ hD ⟨rfl,by simp only;omega⟩;obtain⟨t2,g4,e4⟩:=Ext.BE e1.1 (λj hj Z7=>CU j (by omega) (by omega)) i1 h4;obtain⟨t3,g5,e5⟩:=e4.1.BB (λj hj Z7=>CU j (by omega) (by omega)) h5;exact⟨t3,by rw[h.ep,g4];exact g5,(e1.trans e4).trans e5⟩
theorem Ext.Cq (h:Ext D s t) {all:Bool} {x:V} {rows:List (List V)} {c:Bool} (hm:s.Cq all x=some (rows,c,s')):∃t',t.Cq all x=some (rows,c,t')/\Kn D t s' t':=by
 have look:∀{x:V},((s.rowsOf x).map λrows=>(rows,Fe rows,s))=some (rows,c,s')->∃t',((t.rowsOf x).map λrows=>(rows,Fe rows,t))=some (rows,c,t')/\Kn D t s' t':=by
  intro x hm;obtain⟨r,h1,he⟩:=AL.1 hm;simp only[A6] at he;obtain⟨rfl,rfl,rfl⟩:=he;exact⟨t,by rw[h.rowsOf h1];rfl,h.two⟩
 unfold St.Cq at hm ⊢;split at hm
 .rename_i id off len
  split at hm
  .rename_i er hw
   split at hw
   .rename_i hc
    obtain⟨g,hd⟩:=h.whole hw;simp only[AB,A6] at hm;obtain⟨rfl,rfl,rfl⟩:=hm;refine⟨t.kill id,?_,h.kill hd⟩;rw[h.ep,Aj hc,g]
   .cases hw
  .rename_i hw
   have hb:∃b,s.heap id=some b:=by
    obtain⟨r,h1,_⟩:=AL.1 hm;simp only[St.rowsOf] at h1;obtain⟨b,hb,_⟩:=A8.1 h1;exact⟨b,hb⟩
   obtain⟨b,hb⟩:=hb;have Gg:(if id.1=t.ep\/all=true then t.whole id off len else none)=none:=by
    rw[h.ep];split
    .rename_i hc
     rw[Aj hc] at hw;unfold St.whole at hw ⊢;rw[h.get hb];rw[hb] at hw;exact hw
    .rfl
   rw[Gg];exact look hm
 .exact look hm
theorem Ext.append (h:Ext D s t) {all:Bool} {id:Id} (hd:¬D id) {ty:TypeId} {b x:V} (ha:NA P all s id ty b x=some (v,s')):∃t',NA P all t id ty b x=some (v,t')/\Kn D t s' t':=by
 unfold NA at ha ⊢;obtain⟨e,h1,ha⟩:=A8.1 ha;obtain⟨⟨rows,c,s1⟩,h2,ha⟩:=A8.1 ha;obtain⟨t1,g2,e2⟩:=h.Cq h2;rw[h1,Ag,g2,Ag];simp only at ha ⊢;split at ha
 case isFalse=>cases ha
 rename_i hc;rw[Aj hc];split at ha
 .split at ha
  .rename_i hl
   rw[Aj hl];simp only[AB,A6] at ha;obtain⟨rfl,rfl⟩:=ha;exact⟨_,rfl,e2.trans (e2.1.A5 hd)⟩
  .cases ha
 .obtain⟨kb,h3,ha⟩:=A8.1 ha
  rw[e2.1.get h3,Ag];split at ha
  .rename_i hl
   rw[Aj hl];simp only[AB,A6] at ha;obtain⟨rfl,rfl⟩:=ha;have:=e2.1.kill (e2.1.De h3);exact⟨_,rfl,(e2.trans this).trans (this.1.A5 hd)⟩
  .cases ha
 .cases ha
theorem Ext.slice (h:Ext D s t) {ty:TypeId} {x:V} {lo hi:Option V} (hs:NB P s ty x lo hi=some v):NB P t ty x lo hi=some v:=by
 unfold NB at hs ⊢;obtain⟨e,h1,hs⟩:=A8.1 hs;obtain⟨rows,h2,hs⟩:=A8.1 hs;rw[h1,Ag,h.rowsOf h2,Ag];exact hs
theorem Ext.op {f:Operand->V} (h:Ext D s t) (hd:∀id:Id,D id->¬(id.1=s.ep/\id.2 / 1024=k)) (he:Xj P M C f s k o=some (v,s')):∃t',Xj P M C f t k o=some (v,t')/\Kn D t s' t':=by
 have Zt:¬D (s.ep,1024*k):=λhD=>hd _ hD ⟨rfl,by simp⟩;have pu:∀{x:Option V},(x.map λy=>(y,s))=some (v,s')->∃t',(x.map λy=>(y,t))=some (v,t')/\Kn D t s' t':=by
  intro x hx;obtain⟨y,rfl,he⟩:=AL.1 hx;simp only[A6] at he;obtain⟨rfl,rfl⟩:=he;exact⟨t,rfl,h.two⟩
 have sm:∀{x:V},some (x,s)=some (v,s')->∃t',some (x,t)=some (v,t')/\Kn D t s' t':=by
  intro x hx;simp only[AB,A6] at hx;obtain⟨rfl,rfl⟩:=hx;exact⟨t,rfl,h.two⟩
 unfold Xj at he ⊢;simp only[h.ep] at he ⊢;split at he
 .split at he
  .cases he
  .exact sm he
 .split at he
  .cases he
  .exact sm he
 .split at he
  .exact sm he
  .cases he
 .split at he
  .exact pu he
  .cases he
 .split at he
  .exact sm he
  .exact sm he
  .exact sm he
  .cases he
 .obtain⟨z,hz,he⟩:=AL.1 he
  simp only[A6] at he;obtain⟨rfl,rfl⟩:=he;exact⟨_,by rw[hz];rfl,h.A5 Zt⟩
 .obtain⟨cs,BO,he⟩:=A8.1 he
  rw[BO,Ag];split at he
  .rename_i hl
   rw[Aj hl];simp only[AB,A6] at he;obtain⟨rfl,rfl⟩:=he;exact⟨_,rfl,h.A5 Zt⟩
  .cases he
 .obtain⟨z,hz,he⟩:=A8.1 he
  rw[hz,Ag];split at he
  .split at he
   .cases he
   .rename_i hl
    rw[Ak hl];obtain⟨cs,BO,he⟩:=AL.1 he;rw[BO];exact sm (congrArg some he)
  .cases he
 .obtain⟨e,Q0,he⟩:=A8.1 he
  obtain⟨z,hz,he⟩:=A8.1 he;rw[Q0,Ag,hz,Ag];split at he
  .cases he
  .rename_i hl
   rw[Ak hl];obtain⟨cs,BO,he⟩:=A8.1 he;obtain⟨⟨rows,c,s1⟩,hs,he⟩:=AL.1 he;simp only[A6] at he;obtain⟨rfl,rfl⟩:=he;obtain⟨t1,g,e1⟩:=Ext.Bp _ h hs;exact⟨_,by rw[BO,Ag,g];rfl,e1.trans (e1.1.A5 Zt)⟩
 .split at he
  .obtain⟨b,hb,he⟩:=A8.1 he
   obtain⟨row,Xg,he⟩:=A8.1 he;rw[h.get hb,Ag,Xg,Ag];split at he
   .rename_i hl
    rw[Aj hl];exact pu he
   .cases he
  .split at he
   .rename_i hl
    rw[Aj hl];exact pu he
   .cases he
  .cases he
 .split at he
  .obtain⟨b,hb,he⟩:=A8.1 he
   obtain⟨row,Xg,he⟩:=A8.1 he;obtain⟨cs,BO,he⟩:=A8.1 he;rw[h.get hb,Ag,Xg,Ag,BO,Ag];split at he
   .rename_i hc
    rw[Aj hc];split at he
    .rename_i Xl
     rw[Aj Xl];simp only[AB,A6] at he;obtain⟨rfl,rfl⟩:=he;exact⟨_,rfl,h.A5 (h.De hb)⟩
    .rename_i Xl
     rw[Ak Xl];obtain⟨⟨ys,c,s1⟩,hs,he⟩:=A8.1 he;obtain⟨t1,g,e1⟩:=Ext.sink _ h hs;simp only at he;split at he
     .rename_i b1 CA
      simp only[AB,A6] at he;obtain⟨rfl,rfl⟩:=he;exact⟨_,by rw[g,Ag];simp only[e1.1.get CA],e1.trans (e1.1.A5 (h.De hb))⟩
     .cases he
   .cases he
  .cases he
 .obtain⟨off,WM,he⟩:=A8.1 he
  rw[WM,Ag];split at he
  .exact sm he
  .exact sm he
  .cases he
 .obtain⟨e,Q0,he⟩:=A8.1 he
  rw[Q0,Ag];split at he
  .cases he
  .rename_i hz
   rw[Ak hz];obtain⟨n,hn,he⟩:=A8.1 he;rw[hn,Ag];split at he
   .split at he
    .rename_i Z7
     rw[Aj Z7];obtain⟨b,hb,he⟩:=A8.1 he;obtain⟨row,Xg,he⟩:=A8.1 he;rw[h.get hb,Ag,Xg,Ag];split at he
     .rename_i hl;rw[Aj hl];exact sm he
     .cases he
    .cases he
   .obtain⟨row,Xg,he⟩:=A8.1 he
    rw[Xg,Ag];split at he
    .rename_i hl;rw[Aj hl];exact sm he
    .cases he
   .obtain⟨row,Xg,he⟩:=A8.1 he
    rw[Xg,Ag];split at he
    .rename_i hl;rw[Aj hl];exact sm he
    .cases he
   .cases he
 .split at he
  .obtain⟨y,hy,he⟩:=AL.1 he
   rw[h.slice hy];exact sm (congrArg some he)
  .obtain⟨y,hy,he⟩:=AL.1 he
   rw[h.slice hy];exact sm (congrArg some he)
  .obtain⟨y,hy,he⟩:=AL.1 he
   rw[h.slice hy];exact sm (congrArg some he)
  .exact pu he
 .obtain⟨e,Q0,he⟩:=A8.1 he
  obtain⟨z,hz,he⟩:=A8.1 he;obtain⟨n,hn,he⟩:=A8.1 he;obtain⟨m,hm,he⟩:=A8.1 he;rw[Q0,Ag,hz,Ag,hn,Ag,hm,Ag];split at he
  .rename_i hc
   rw[Aj hc];simp only[AB,A6] at he;obtain⟨rfl,rfl⟩:=he;exact⟨_,rfl,h.A5 Zt⟩
  .cases he
 .split at he
  .rename_i hf;rw[Aj hf];exact sm he
  .cases he
 .split at he
  .exact pu he
  .split at he
   .split at he
    .obtain⟨rows,hr,he⟩:=A8.1 he
     rw[h.rowsOf hr,Ag];obtain⟨bs,hb,he⟩:=AL.1 he;rw[hb];exact sm (congrArg some he)
    .cases he
   .cases he
   .cases he
 .split at he
  .split at he
   .split at he
    .rename_i hl
     rw[Aj hl];exact h.append Zt he
    .cases he
   .cases he
  .split at he
   .split at he
    .split at he
     .rename_i hl;rw[Aj hl];exact sm he
     .cases he
    .split at he
     .rename_i hl;rw[Aj hl];exact sm he
     .cases he
    .split at he
     .rename_i hl;rw[Aj hl];exact sm he
     .cases he
    .exact pu he
   .cases he
  .split at he
   .obtain⟨e,Q0,he⟩:=A8.1 he
    obtain⟨z,hz,he⟩:=A8.1 he;rw[Q0,Ag,hz,Ag];split at he
    .obtain⟨b,hb,he⟩:=A8.1 he
     rw[h.get hb,Ag];split at he
     .rename_i hc
      rw[Aj hc];simp only[AB,A6] at he;obtain⟨rfl,rfl⟩:=he;exact⟨_,rfl,h.A5 (h.De hb)⟩
     .cases he
    .cases he
   .cases he
  .exact pu he
  .split at he
   .exact h.call hd he
   .cases he
  .cases he
 .split at he
  .exact pu he
  .exact pu he
  .exact pu he
  .split at he
   .rename_i hp
    rw[Aj hp];split at he
    .exact sm he
    .exact sm he
    .cases he
   .cases he
  .split at he
   .cases he
   .rename_i Q0
    rw[Ak Q0];split at he
    .rw[h.rowsOf (show s.rowsOf _=some (_::_) by assumption)];exact sm he
    .rw[h.rowsOf (show s.rowsOf _=some (_::_) by assumption)];exact sm he
    .cases he
  .split at he
   .cases he
   .rename_i Q0
    rw[Ak Q0];split at he
    .rw[h.rowsOf (show s.rowsOf _=some (_::_) by assumption)];exact sm he
    .rw[h.rowsOf (show s.rowsOf _=some (_::_) by assumption)];exact sm he
    .cases he
  .cases he
 .exact pu he
end
section
variable {s s' t:St} {P:Program} {M:X6} {C:Ki} {k:Nat} {o:Oper} {v:V} {f f':Operand->V}
theorem Ym2 (h:∀x∈o.op.operands.toList,f x=f' x) (hc:N9 o.op=true->execOp (λx=>(Qp (f x)).getD undef) o=execOp (λx=>(Qp (f' x)).getD undef) o):Qc P f o=Qc P f' o:=by
 unfold Qc;have h1:o.op.operands.toList.all (λx=>(Qp (f x)).isSome)=o.op.operands.toList.all (λx=>(Qp (f' x)).isSome):=by
  rw[Bool.eq_iff_iff,Cd,Cd];exact⟨λhh x hx=>by rw[<-h x hx];exact hh x hx,λhh x hx=>by rw[h x hx];exact hh x hx⟩
 rw[h1];cases hp:N9 o.op with
 | false=>simp
 | true=>rw[hc hp]
theorem Y9r:∀{xs:List V} {s:St} {ts:List TypeId} {ms:List Yu} {ys:List V} {s':St},(ms.any λm=>m != .rd)=false->s.Bs P ts ms xs=some (ys,s')->s'=s:=by
 intro xs
 induction xs with
 | nil=>
  intro s ts ms ys s' _ hs;simp only[St.Bs,AB,A6] at hs;exact hs.2.symm
 | cons x xs ih=>
  intro s ts ms ys s' hm hs;simp only[St.Bs] at hs;obtain⟨⟨y1,s1⟩,h1,hs⟩:=A8.1 hs;obtain⟨⟨y2,s2⟩,h2,hs⟩:=AL.1 hs;simp only[A6] at hs;obtain⟨rfl,rfl⟩:=hs;have Ej:ms.headD .rd=.rd/\(ms.tail.any λm=>m != .rd)=false:=by
   cases ms with
   | nil=>exact⟨rfl,rfl⟩
   | cons m ms=>
    simp only[N8,Pj] at hm;exact⟨by simpa using hm.1,hm.2⟩
  rw[Ej.1] at h1;simp only[St.Dd,AB,A6] at h1;obtain⟨rfl,rfl⟩:=h1;exact ih Ej.2 h2
theorem Y70 {e:Nat}:∀{xs:List V} {s:St} {ms:List Yu} {k:Nat} {os:List V} {s':St},(ms.any λm=>m != .rd)=false->s.BE e ms k xs os=some s'->s'=s:=by
 intro xs
 induction xs with
 | nil=>
  intro s ms k os s' _ hs;simp only[St.BE,AB] at hs;exact hs.symm
 | cons x xs ih=>
  intro s ms k os s' hm hs;have Ej:ms.headD .rd=.rd/\(ms.tail.any λm=>m != .rd)=false:=by
   cases ms with
   | nil=>exact⟨rfl,rfl⟩
   | cons m ms=>
    simp only[N8,Pj] at hm;exact⟨by simpa using hm.1,hm.2⟩
  cases os with
  | nil=>simp[St.BE] at hs
  | cons o os=>
   simp only[St.BE] at hs;obtain⟨s1,h1,hs⟩:=A8.1 hs;rw[Ej.1] at h1;simp only[St.back,AB] at h1;subst h1;exact ih Ej.2 hs
theorem WX {id Av:Id} {b:Bc} (h:Av≠id):(s.A5 id b).heap Av=s.heap Av:=by simp[St.A5,Bi,h]
theorem Yea {id Av:Id} {x y:V} (ht:s.AS id x=some (y,s')) (Yg:Av≠id):s'.heap Av=s.heap Av:=by
 unfold St.AS at ht;split at ht
 .simp only[AB,A6] at ht;obtain⟨rfl,rfl⟩:=ht;exact WX Yg
 .simp only[AB,A6] at ht;obtain⟨rfl,rfl⟩:=ht;rfl
 .simp only[AB,A6] at ht;obtain⟨rfl,rfl⟩:=ht;rfl
 .cases ht
theorem Yam {e:Nat} {Av:Id}:∀{xs:List V} {s:St} {k:Nat} {ys:List V} {s':St},s.AM e k xs=some (ys,s')->¬(Av.1=e/\k<=Av.2/\Av.2 < k+xs.length)->s'.heap Av=s.heap Av:=by
 intro xs
 induction xs with
 | nil=>intro s k ys s' hs _;simp only[St.AM,AB,A6] at hs;rw[hs.2]
 | cons x xs ih=>
  intro s k ys s' hs hn;simp only[AU] at hn;simp only[St.AM] at hs;obtain⟨⟨y1,s1⟩,h1,hs⟩:=A8.1 hs;obtain⟨⟨y2,s2⟩,h2,hs⟩:=AL.1 hs;simp only[A6] at hs;obtain⟨rfl,rfl⟩:=hs;rw[ih h2 (λh=>hn ⟨h.1,by omega,by omega⟩)];exact Yea h1 (λe=>hn (by subst e;exact⟨rfl,B2 _,by simp⟩))
theorem Yf2 {e k:Nat} {Av:Id} {x y:V} (ht:s.Bb e k x=some (y,s')) (hn:¬(Av.1=e/\k<=Av.2/\Av.2 < k+64)):s'.heap Av=s.heap Av:=by
 unfold St.Bb at ht;split at ht
 .split at ht
  .obtain⟨⟨ys,s1⟩,h1,he⟩:=AL.1 ht
   simp only[A6] at he;obtain⟨rfl,rfl⟩:=he;exact Yam h1 (λh=>hn ⟨h.1,h.2.1,by omega⟩)
  .cases ht
 .split at ht
  .obtain⟨⟨ys,s1⟩,h1,he⟩:=AL.1 ht
   simp only[A6] at he;obtain⟨rfl,rfl⟩:=he;rw[WX (λe=>hn (by subst e;exact⟨rfl,by simp,by simp⟩))];exact Yam h1 (λh=>hn ⟨h.1,h.2.1,by omega⟩)
  .cases ht
 .exact Yea ht (λe=>hn (by subst e;exact⟨rfl,B2 _,by simp⟩))
theorem Yyh {e:Nat} {Av:Id}:∀{xs:List V} {s:St} {k:Nat} {ys:List V} {s':St},s.Bw e k xs=some (ys,s')->¬(Av.1=e/\64*k<=Av.2/\Av.2 < 64*(k+xs.length))->s'.heap Av=s.heap Av:=by
 intro xs
 induction xs with
 | nil=>intro s k ys s' hs _;simp only[St.Bw,AB,A6] at hs;rw[hs.2]
 | cons x xs ih=>
  intro s k ys s' hs hn;simp only[AU] at hn;simp only[St.Bw] at hs;obtain⟨⟨y1,s1⟩,h1,hs⟩:=A8.1 hs;obtain⟨⟨y2,s2⟩,h2,hs⟩:=AL.1 hs;simp only[A6] at hs;obtain⟨rfl,rfl⟩:=hs;rw[ih h2 (λh=>hn ⟨h.1,by omega,by omega⟩)];exact Yf2 h1 (λh=>hn ⟨h.1,h.2.1,by omega⟩)
theorem Yx9 {e k:Nat} {Av:Id} {x y:V} (ht:s.BB e k x=some (y,s')) (hn:¬(Av.1=e/\64*k<=Av.2/\Av.2 < 64*(k+8))):s'.heap Av=s.heap Av:=by
 unfold St.BB at ht;split at ht
 .split at ht
  .obtain⟨⟨ys,s1⟩,h1,he⟩:=AL.1 ht
   simp only[A6] at he;obtain⟨rfl,rfl⟩:=he;exact Yyh h1 (λh=>hn ⟨h.1,h.2.1,by omega⟩)
  .cases ht
 .exact Yf2 ht (λh=>hn ⟨h.1,h.2.1,by omega⟩)
theorem Y4o (he:Xj P M C f s k o=some (v,s')) (hw:Ix M f o=false) {id:Id} (hf:W2 s.ep k id=false):s'.heap id=s.heap id:=by
 have Zt:id≠(s.ep,1024*k):=λe=>by subst e;simp[W2] at hf
 have pu:∀{x:Option V},(x.map λy=>(y,s))=some (v,s')->s'.heap id=s.heap id:=by
  intro x hx;obtain⟨y,_,he⟩:=AL.1 hx;simp only[A6] at he;rw[<-he.2]
 have sm:∀{x:V},some (x,s)=some (v,s')->s'.heap id=s.heap id:=by
  intro x hx;simp only[AB,A6] at hx;rw[<-hx.2]
 unfold Xj at he;unfold Ix at hw;split at he
 .split at he
  .cases he
  .exact sm he
 .split at he
  .cases he
  .exact sm he
 .split at he
  .exact sm he
  .cases he
 .split at he
  .exact pu he
  .cases he
 .split at he
  .exact sm he
  .exact sm he
  .exact sm he
  .cases he
 .obtain⟨z,hz,he⟩:=AL.1 he
  simp only[A6] at he;obtain⟨rfl,rfl⟩:=he;exact WX Zt
 .obtain⟨cs,BO,he⟩:=A8.1 he
  split at he
  .simp only[AB,A6] at he
   obtain⟨rfl,rfl⟩:=he;exact WX Zt
  .cases he
 .obtain⟨z,hz,he⟩:=A8.1 he
  split at he
  .split at he
   .cases he
   .obtain⟨cs,BO,he⟩:=AL.1 he
    exact sm (congrArg some he)
  .cases he
 .rename_i ho;rw[ho] at hw;simp at hw
 .split at he
  .obtain⟨b,hb,he⟩:=A8.1 he
   obtain⟨row,Xg,he⟩:=A8.1 he;split at he
   .exact pu he
   .cases he
  .split at he
   .exact pu he
   .cases he
  .cases he
 .rename_i ho;rw[ho] at hw;simp at hw
 .obtain⟨off,WM,he⟩:=A8.1 he
  split at he
  .exact sm he
  .exact sm he
  .cases he
 .obtain⟨e,Q0,he⟩:=A8.1 he
  split at he
  .cases he
  .obtain⟨n,hn,he⟩:=A8.1 he
   split at he
   .split at he
    .obtain⟨b,hb,he⟩:=A8.1 he
     obtain⟨row,Xg,he⟩:=A8.1 he;split at he
     .exact sm he
     .cases he
    .cases he
   .obtain⟨row,Xg,he⟩:=A8.1 he
    split at he
    .exact sm he
    .cases he
   .obtain⟨row,Xg,he⟩:=A8.1 he
    split at he
    .exact sm he
    .cases he
   .cases he
 .split at he
  .exact pu he
  .exact pu he
  .exact pu he
  .exact pu he
 .obtain⟨e,Q0,he⟩:=A8.1 he
  obtain⟨z,hz,he⟩:=A8.1 he;obtain⟨n,hn,he⟩:=A8.1 he;obtain⟨m,hm,he⟩:=A8.1 he;split at he
  .simp only[AB,A6] at he
   obtain⟨rfl,rfl⟩:=he;exact WX Zt
  .cases he
 .split at he
  .exact sm he
  .cases he
 .split at he
  .exact pu he
  .split at he
   .split at he
    .obtain⟨rows,hr,he⟩:=A8.1 he
     obtain⟨bs,hb,he⟩:=AL.1 he;exact sm (congrArg some he)
    .cases he
   .cases he
   .cases he
 .rename_i c ho
  rw[ho] at hw;simp only at hw;split at he
  .rename_i hc;rw[hc] at hw;simp at hw
  .split at he
   .split at he
    .split at he
     .exact sm he
     .cases he
    .split at he
     .exact sm he
     .cases he
    .split at he
     .exact sm he
     .cases he
    .exact pu he
   .cases he
  .rename_i hc;rw[hc] at hw;simp at hw
  .exact pu he
  .rename_i x hc
   rw[hc] at hw;simp only at hw;split at he
   .rename_i g Bu iV
    rw[iV] at hw;simp only at hw;unfold KR at he;split at he
    .obtain⟨⟨ys,s1⟩,h1,he⟩:=A8.1 he
     obtain⟨xs,h2,he⟩:=A8.1 he;obtain⟨⟨r,os⟩,h3,he⟩:=A8.1 he;have e1:=Y9r hw h1;subst e1;simp only at he;split at he
     .cases he
     .obtain⟨s2,h4,h5⟩:=A8.1 he
      have e2:=Y70 hw h4;subst e2;refine Yx9 h5 (λh=>?_);have:W2 s2.ep k id=true:=by
       simp only[W2,Bg,beq_iff_eq];exact⟨h.1,by omega⟩
      rw[this] at hf;cases hf
    .cases he
   .cases he
  .cases he
 .split at he
  .exact pu he
  .exact pu he
  .exact pu he
  .split at he
   .split at he
    .exact sm he
    .exact sm he
    .cases he
   .cases he
  .split at he
   .cases he
   .split at he
    .exact sm he
    .exact sm he
    .cases he
  .split at he
   .cases he
   .split at he
    .exact sm he
    .exact sm he
    .cases he
  .cases he
 .exact pu he
end
end Go.Proofs.YthdljdelfgofdaaGreatDoor.Ev
namespace Go.Proofs.YthdljdelfgofdaaGreatDoor.Ev
open Go
variable [Anchor]
section
variable {s s' t:St} {P:Program} {M:X6} {C:Ki} {k:Nat} {o:Oper} {v:V} {f f':Operand->V}
theorem Yyx (h:∀x∈o.op.operands.toList,f x=f' x):Qc P f o=Qc P f' o:=
 Ym2 h λhp=>Yfx hp λx hx=>by rw[h x hx]
theorem Yzt (h:∀x∈o.op.operands.toList,f x=f' x):Xj P M C f s k o=Xj P M C f' s k o:=by
 have hs:=Yyx (P:=P) h;unfold Xj;simp only[hs];obtain⟨dst,op,type,pos,after,guard⟩:=o;cases op<;>simp only[Op.operands] at h<;>simp only<;>try rfl
 case move x=>rw[h x (by simp)]
 case assign x=>rw[h x (by simp)]
 case pick c x y=>rw[h c (by simp),h x (by simp),h y (by simp)]
 case box t x=>rw[h x (by simp)]
 case build t ps=>
  have:(ps.toList.map λp=>(p.1,f p.2))=ps.toList.map λp=>(p.1,f' p.2):=Pk λp hp=>by rw[h p.2 (by simpa using ⟨p.1,by simpa using hp⟩)]
  rw[this]
 case buildSlice t n ps=>
  have:(ps.toList.map λp=>(p.1,f p.2))=ps.toList.map λp=>(p.1,f' p.2):=Pk λp hp=>by rw[h p.2 (by simpa using ⟨p.1,by simpa using hp⟩)]
  rw[this]
 case load t x=>rw[h x (by simp)]
 case store t x y=>rw[h x (by simp),h y (by simp)]
 case nilCheck x=>rw[h x (by simp)]
 case binOp op t x y yt=>rw[h x (by simp),h y (by simp)]
 case convert src dst x=>rw[h x (by simp)]
 case fieldAddr t x i=>rw[h x (by simp)]
 case indexAddr t x i=>rw[h x (by simp),h i (by simp)]
 case slice t x lo hi mx=>
  have h1:=h x (by simp);have h2:lo.map f=lo.map f':=by cases lo<;>simp;exact h _ (by simp)
  have h3:hi.map f=hi.map f':=by cases hi<;>simp;exact h _ (by simp)
  cases mx with
  | none=>simp only[h1,h2,h3]
  | some m=>rfl
 case makeSlice t l c=>rw[h l (by simp),h c (by simp)]
 case makeFunc fn first Bu=>
  have:Bu.toList.map f=Bu.toList.map f':=Pk λx hx=>h x (by simp at hx ⊢;exact .inr hx);cases fn<;>simp only[this]
 case extract x i=>rw[h x (by simp)]
 case call c=>
  obtain⟨callee,IE,ts⟩:=c;cases callee with
  | value g=>
   simp only[Call.operands] at h;have h1:f g=f' g:=h g (by simp);have:IE.toList.map f=IE.toList.map f':=Pk λx hx=>h x (by simp at hx ⊢;exact .inr hx);simp only[h1,this]
  | invoke r m=>rfl
  | builtin b=>
   simp only[Call.operands] at h;have h1:∀x,x∈IE.toList->f x=f' x:=λx hx=>h x (by simpa using hx);cases b<;>simp only<;>try rfl
   case append=>
    split
    .rename_i heq _
     have hb:=h1 _ (by rw[heq];exact BJ);have hx:=h1 _ (by rw[heq];exact Cp _ BJ);rw[hb,hx]
    .rfl
   case len=>
    split
    .rename_i heq _
     have hb:=h1 _ (by rw[heq];exact BJ);rw[hb]
    .rfl
   case clear=>
    split
    .rename_i heq _
     have hb:=h1 _ (by rw[heq];exact BJ);rw[hb]
    .rfl
end
end Go.Proofs.YthdljdelfgofdaaGreatDoor.Ev
namespace Go.Proofs.YthdljdelfgofdaaGreatDoor.Ev
open Go Go.RowKit
variable [Anchor]
structure BG where
 dst:Option Tmp
 v:V
 W:Id->Bool
 hp:Id->Option Bc
def BG.app (E:BG) (s:St):St:=St.put {s with heap:=λid=>if E.W id then E.hp id else s.heap id} E.dst E.v
theorem BG.E2 (E:BG) (s:St):(E.app s).ep=s.ep:=by unfold BG.app;rw[GD]
theorem BG.BN (E:BG) (s:St):(E.app s).heap=λid=>if E.W id then E.hp id else s.heap id:=by unfold BG.app;rw[PT]
theorem BG.BY (E:BG) (s:St) (t:Nat):(E.app s).env t=if E.dst=some t then E.v else s.env t:=by
 unfold BG.app St.put;split
 .rename_i d hd
  simp only[Bi,hd,AB];by_cases h:t=d
  .subst h;simp
  .rw[Ak h,Ak (λe=>h e.symm)]
 .rename_i hd;rw[hd];simp
theorem St.ext' {a b:St} (h1:∀t,a.env t=b.env t) (h2:∀id,a.heap id=b.heap id) (h3:a.ep=b.ep):a=b:=by
 obtain⟨e1,p1,n1⟩:=a;obtain⟨e2,p2,n2⟩:=b;simp only at h1 h2 h3;rw[funext h1,funext h2,h3]
structure wK (E G:BG):Prop where
 dst:∀t,E.dst=some t->G.dst≠some t
 W:∀id,E.W id=true->G.W id=false
theorem BG.comm {E G:BG} (h:wK E G) (s:St):E.app (G.app s)=G.app (E.app s):=by
 refine St.ext' (λt=>?_) (λid=>?_) (by simp[BG.E2])
 .simp only[BG.BY]
  by_cases h1:E.dst=some t
  .rw[Aj h1,Ak (h.dst t h1),Aj h1]
  .rw[Ak h1,Ak h1]
 .simp only[BG.BN]
  cases h1:E.W id with
  | true=>simp[h.W id h1]
  | false=>simp
def sub (Es:Nat->BG) (L:Nat->Bool) (s:St):Nat->St
 | 0=>s
 | k+1=>if L k then (Es k).app (sub Es L s k) else sub Es L s k
theorem Gh (Es:Nat->BG) (L:Nat->Bool) (s:St) (k:Nat):sub Es L s (k+1)=if L k then (Es k).app (sub Es L s k) else sub Es L s k:=rfl
theorem iW (Es:Nat->BG) (L:Nat->Bool) (s:St) (k:Nat):(sub Es L s k).ep=s.ep:=by
 induction k with
 | zero=>rfl
 | succ k ih=>rw[Gh];split<;>simp[BG.E2,ih]
theorem Ypf {Es:Nat->BG} {L L':Nat->Bool} {s:St}:∀{k:Nat},(∀j,j < k->L j=L' j)->sub Es L s k=sub Es L' s k:=by
 intro k
 induction k with
 | zero=>intro _;rfl
 | succ k ih=>intro h;rw[Gh,Gh,h k (by omega),ih λj hj=>h j (by omega)]
def Lf (A:Nat->Prop) (T:Id->Prop) (x y:St):Prop:=(∀t,A t->x.env t=y.env t)/\∀id,T id->x.heap id=y.heap id
theorem Lf.app {A:Nat->Prop} {T:Id->Prop} {x y:St} (h:Lf A T x y) (E:BG):Lf A T (E.app x) (E.app y):=
 ⟨λt ht=>by simp only[BG.BY,h.1 t ht],λid Zt=>by simp only[BG.BN,h.2 id Zt]⟩
def Tu (E:BG) (A:Nat->Prop) (T:Id->Prop):Prop:=(∀t,A t->E.dst≠some t)/\∀id,T id->E.W id=false
theorem Lf.off {A:Nat->Prop} {T:Id->Prop} {x y:St} (h:Lf A T x y) {E:BG} (ho:Tu E A T):Lf A T (E.app x) y:=
 ⟨λt ht=>by rw[BG.BY,Ak (ho.1 t ht)];exact h.1 t ht,λid Zt=>by simp only[BG.BN,ho.2 id Zt];exact h.2 id Zt⟩
theorem Lf.Fk {A:Nat->Prop} {T:Id->Prop} {x y:St} (h:Lf A T x y) {E:BG} (ho:Tu E A T):Lf A T x (E.app y):=
 ⟨λt ht=>by rw[BG.BY,Ak (ho.1 t ht)];exact h.1 t ht,λid Zt=>by simp only[BG.BN,ho.2 id Zt];exact h.2 id Zt⟩
theorem Y5m {Es:Nat->BG} {L:Nat->Bool} {s:St} {A:Nat->Prop} {T:Id->Prop} {i n:Nat} (hi:L i=false) (h1:∀j,j < i->L j=false->Tu (Es j) A T) (h2:∀j,i < j->j < n->L j=true->Tu (Es j) A T):
  ∀k,k<=n->Lf A T (sub Es L s k) (sub Es (λ_=>true) s (min k i)):=by
 intro k
 induction k with
 | zero=>intro _;rw[Nat.zero_min];exact⟨λ_ _=>rfl,λ_ _=>rfl⟩
 | succ k ih=>
  intro hk;have ih:=ih (by omega);by_cases Z7:k < i
  .rw[Nat.min_eq_left (by omega)] at ih ⊢
   have e2:sub Es (λ_=>true) s (k+1)=(Es k).app (sub Es (λ_=>true) s k):=by rw[Gh];rfl
   rw[e2,Gh];cases hL:L k with
   | true=>simp only[if_true];exact ih.app _
   | false=>simp only[Bn,if_false];exact ih.Fk (h1 k Z7 hL)
  .rw[Nat.min_eq_right (by omega)] at ih ⊢
   rw[Gh];cases hL:L k with
   | true=>
    simp only[if_true];have Yg:k≠i:=λe=>by subst e;rw[hi] at hL;cases hL
    exact ih.off (h2 k (by omega) (by omega) hL)
   | false=>simp only[Bn,if_false];exact ih
theorem Xca {Es:Nat->BG} {L:Nat->Bool} {s:St} {i n:Nat} (Tv:i < n) (hi:L i=false) (hc:∀j,i < j->j < n->L j=true->wK (Es i) (Es j)):
  (Es i).app (sub Es L s n)=sub Es (λj=>L j||j == i) s n:=by
 have key:∀k,i < k->k<=n->(Es i).app (sub Es L s k)=sub Es (λj=>L j||j == i) s k:=by
  intro k
  induction k with
  | zero=>intro h;omega
  | succ k ih=>
   intro h1 h2;by_cases he:k=i
   .subst he
    have e1:sub Es L s (k+1)=sub Es L s k:=by rw[Gh,hi];rfl
    have e2:sub Es (λj=>L j||j == k) s (k+1)=(Es k).app (sub Es (λj=>L j||j == k) s k):=by rw[Gh];simp
    rw[e1,e2]
    congr 1
    refine Ypf λj hj=>?_;have:(j == k)=false:=by simpa using (show j≠k by omega)
    simp[this]
   .have ih:=ih (by omega) (by omega)
    have hki:(k == i)=false:=by simpa using he
    rw[Gh,Gh];simp only[hki,uO];cases hL:L k with
    | true=>
     simp only[if_true];rw[BG.comm (hc k (by omega) (by omega) hL),ih]
    | false=>simp only[Bn,if_false];exact ih
 exact key n Tv (B2 _)
theorem Yly {Es Es':Nat->BG} {L:Nat->Bool} {s:St}:∀{k:Nat},(∀j,j < k->Es j=Es' j)->sub Es L s k=sub Es' L s k:=by
 intro k
 induction k with
 | zero=>intro _;rfl
 | succ k ih=>intro h;rw[Gh,Gh,h k (by omega),ih λj hj=>h j (by omega)]
section
variable {P:Program} {M:X6} {C:Nat->Ki} {ops:Array Oper}
structure GG (P:Program) (M:X6) (C:Nat->Ki) (ops:Array Oper) (s0:St) (Es:Nat->BG) (Rs:Nat->Rec) (i:Nat) (o:Oper):Prop where
 pre:(Rs i).pre=KT ((List.range i).map Rs) o
 ok:Mc ops s0.ep ((List.range i).map Rs) (Rs i).pre i o (Rs i).T (Rs i).w=true
 dst:(Es i).dst=o.dst
 run:∃g,wanted (sub Es (λ_=>true) s0 i) ops o=some g/\
  (g=true->∃y,Xj P M (C i) (sub Es (λ_=>true) s0 i).AP ((sub Es (λ_=>true) s0 i).only (Rs i).T) i o=some ((Es i).v,y)/\(∀id,(Es i).W id=(W2 s0.ep i id||((Rs i).w&&(Rs i).T.contains id)))/\(Es i).hp=y.heap/\(Rs i).w=Ix M (sub Es (λ_=>true) s0 i).AP o)/\
  (g=false->(Es i).v=.AZ []/\(∀id,(Es i).W id=false)/\(Rs i).T=[]/\(Rs i).w=false)
theorem Yvj {s0:St}:∀(l:List Oper) {k:Nat} {s s':St} {recs:List Rec} {Es0:Nat->BG} {Rs0:Nat->Rec},recs=(List.range k).map Rs0->s=sub Es0 (λ_=>true) s0 k->Ff P M C ops s recs k l=some s'->
  ∃Es Rs,(∀j,j < k->Es j=Es0 j/\Rs j=Rs0 j)/\s'=sub Es (λ_=>true) s0 (k+l.length)/\∀(j:Nat) (o:Oper),l[j]?=some o->GG P M C ops s0 Es Rs (k+j) o:=by
 intro l
 induction l with
 | nil=>
  intro k s s' recs Es0 Rs0 hr hs he;simp only[Ff,AB] at he;subst he;exact⟨Es0,Rs0,λ_ _=>⟨rfl,rfl⟩,by rw[hs];rfl,λj o ho=>by simp at ho⟩
 | cons o l ih=>
  intro k s s' recs Es0 Rs0 hr hs he;simp only[Ff] at he;obtain⟨g,hg,he⟩:=A8.1 he;have Yk:s.ep=s0.ep:=by rw[hs,iW]
  have more:∀(E:BG) (R:Rec),Ff P M C ops (E.app s) (recs++[R]) (k+1) l=some s'->R.pre=KT recs o->Mc ops s.ep recs R.pre k o R.T R.w=true->E.dst=o.dst->
    (g=true->∃y,Xj P M (C k) s.AP (s.only R.T) k o=some (E.v,y)/\(∀id,E.W id=(W2 s0.ep k id||(R.w&&R.T.contains id)))/\E.hp=y.heap/\R.w=Ix M s.AP o)->
    (g=false->E.v=.AZ []/\(∀id,E.W id=false)/\R.T=[]/\R.w=false)->
    ∃Es Rs,(∀j,j < k->Es j=Es0 j/\Rs j=Rs0 j)/\s'=sub Es (λ_=>true) s0 (k+(o::l).length)/\∀(j:Nat) (o':Oper),(o::l)[j]?=some o'->GG P M C ops s0 Es Rs (k+j) o':=by
   intro E R he Lg Yf wL ht hf;have iX:∀j,j < k->Bi Es0 k E j=Es0 j:=λj hj=>by simp[Bi,show j≠k by omega]
   have Y94:∀j,j < k->Bi Rs0 k R j=Rs0 j:=λj hj=>by simp[Bi,show j≠k by omega]
   obtain⟨Es,Rs,h1,h2,h3⟩:=ih (k:=k+1) (Es0:=Bi Es0 k E) (Rs0:=Bi Rs0 k R) (by
    rw[List.range_succ,G0,hr]
    congr 1
    .refine Pk λj hj=>?_
     rw[Y94 j (Vu.1 hj)]
    .simp[Bi]) (by
    rw[Gh];simp only[if_true];rw[Yly (Es':=Es0) iX,<-hs];simp[Bi]) he
   have hE:∀j,j < k->Es j=Es0 j:=λj hj=>by rw[(h1 j (by omega)).1,iX j hj]
   have hR:∀j,j < k->Rs j=Rs0 j:=λj hj=>by rw[(h1 j (by omega)).2,Y94 j hj]
   have wM:Es k=E:=by rw[(h1 k (by omega)).1];simp[Bi]
   have iY:Rs k=R:=by rw[(h1 k (by omega)).2];simp[Bi]
   have DK:sub Es (λ_=>true) s0 k=s:=by rw[Yly hE,<-hs]
   have Y95:(List.range k).map Rs=recs:=by rw[hr];exact Pk λj hj=>hR j (Vu.1 hj)
   refine⟨Es,Rs,λj hj=>⟨hE j hj,hR j hj⟩,by rw[h2];congr 1;simp;omega,λj o' ho=>?_⟩;cases j with
   | zero=>
    have:o=o':=by simpa using ho
    subst this;refine⟨by rw[He,iY,Y95];exact Lg,by rw[He,iY,Y95,<-Yk];exact Yf,by rw[He,wM];exact wL,⟨g,by rw[He,DK];exact hg,λwN=>?_,λVJ=>?_⟩⟩
    .rw[He,DK,wM,iY];exact ht wN
    .rw[He,wM,iY];exact hf VJ
   | succ j=>
    have:=h3 j o' (by simpa using ho);rw[show k+(j+1)=k+1+j by omega];exact this
  cases g with
  | true=>
   simp only[if_true] at he;split at he
   .rename_i Yf
    obtain⟨⟨v,y⟩,hy,he⟩:=A8.1 he;refine more ⟨o.dst,v,λid=>W2 s.ep k id||(Ix M s.AP o&&(BW s o).contains id),y.heap⟩ ⟨KT recs o,BW s o,Ix M s.AP o⟩ ?_ rfl Yf rfl (λ_=>⟨y,hy,λid=>by rw[<-Yk],rfl,rfl⟩) (λhf=>by cases hf);exact he
   .cases he
  | false=>
   simp only[Bn,if_false] at he;split at he
   .rename_i Yf
    refine more ⟨o.dst,.AZ [],λ_=>false,λ_=>none⟩ ⟨KT recs o,[],false⟩ ?_ rfl Yf rfl (λhf=>by cases hf) (λ_=>⟨rfl,λ_=>rfl,rfl,rfl⟩);have:BG.app ⟨o.dst,.AZ [],λ_=>false,λ_=>none⟩ s=s.put o.dst (.AZ []):=by
     unfold BG.app;simp
    rw[this];exact he
   .cases he
variable {s0:St} {Es:Nat->BG} {Rs:Nat->Rec} {n:Nat}
structure PU (e:Nat) (Es:Nat->BG) (Rs:Nat->Rec) (ops:Array Oper) (j k:Nat) (oj ok:Oper):Prop where
 tmp:oj.apart ops ok=true
 f1:∀id∈(Rs k).T,W2 e j id=false
 f2:∀id∈(Rs j).T,W2 e k id=false
 ww:((Rs j).w||(Rs k).w)=true->∀id∈(Rs k).T,id ∉ (Rs j).T
theorem iZ (hF:∀(i:Nat) (o:Oper),ops[i]?=some o->GG P M C ops s0 Es Rs i o) {j k:Nat} {oj ok:Oper} (hj:ops[j]?=some oj) (hk:ops[k]?=some ok) (Z7:j < k) (hn:j ∉ (Rs k).pre):PU s0.ep Es Rs ops j k oj ok:=by
 have h:=(hF k ok hk).ok;unfold Mc at h;simp only[Bg] at h;have h2:=Cd.1 h.2 (Rs j,j) (by
  rw[List.mem_zipIdx_iff_getElem?];simp[uE Z7])
 simp only[N7,Bg,List.contains_iff_mem,hn,false_or,hj] at h2;obtain⟨⟨⟨a,b⟩,c⟩,d⟩:=h2;refine⟨a,λid Zt=>?_,λid Zt=>?_,λhw id Zt wO=>?_⟩
 .have:=Cd.1 b id Zt;simpa using this
 .have:=Cd.1 c id Zt;simpa using this
 .rcases d with d|d
  .rw[hw] at d;simp at d
  .have:=Cd.1 d id Zt
   simp at this;exact this wO
theorem Tw {i:Nat} {o:Oper} (hF:GG P M C ops s0 Es Rs i o) {id:Id} (hW:(Es i).W id=true):W2 s0.ep i id=true\/((Rs i).w=true/\id∈(Rs i).T):=by
 obtain⟨g,_,ht,hf⟩:=hF.run;cases g with
 | true=>
  obtain⟨y,_,h2,_⟩:=ht rfl;rw[h2 id] at hW;simpa using hW
 | false=>
  rw[(hf rfl).2.1 id] at hW;cases hW
theorem PU.apart {j k:Nat} {oj ok:Oper} (h:PU s0.ep Es Rs ops j k oj ok) (hj:GG P M C ops s0 Es Rs j oj) (hk:GG P M C ops s0 Es Rs k ok) (Yg:j≠k):wK (Es j) (Es k):=by
 obtain⟨t1,t2,t3⟩:=Oper.apart_spec h.tmp;refine⟨λt ht=>by rw[hk.dst];rw[hj.dst] at ht;exact t2 t ht,λid Zt=>?_⟩;cases hW:(Es k).W id with
 | false=>rfl
 | true=>
  exfalso;rcases Tw hj Zt with h1|⟨h1,Lh⟩
  .rcases Tw hk hW with h2|⟨h2,P3⟩
   .simp only[W2,Bg,beq_iff_eq] at h1 h2
    omega
   .rw[h.f1 id P3] at h1;cases h1
  .rcases Tw hk hW with h2|⟨h2,P3⟩
   .rw[h.f2 id Lh] at h2;cases h2
   .exact h.ww (by rw[h1];rfl) id P3 Lh
def PV (ops:Array Oper) (o:Oper):Nat->Prop:=λt=>t∈o.looksAt ops
def wP (Rs:Nat->Rec) (i:Nat):Id->Prop:=λid=>id∈(Rs i).T
theorem PU.wQ {j k:Nat} {oj ok:Oper} (h:PU s0.ep Es Rs ops j k oj ok) (hj:GG P M C ops s0 Es Rs j oj):Tu (Es j) (PV ops ok) (wP Rs k):=by
 obtain⟨t1,t2,t3⟩:=Oper.apart_spec h.tmp;refine⟨λt ht hd=>by rw[hj.dst] at hd;exact t1 t hd ht,λid Zt=>?_⟩;cases hW:(Es j).W id with
 | false=>rfl
 | true=>
  exfalso;rcases Tw hj hW with h1|⟨h1,Lh⟩
  .rw[h.f1 id Zt] at h1;cases h1
  .exact h.ww (by rw[h1];rfl) id Zt Lh
theorem PU.wR {j k:Nat} {oj ok:Oper} (h:PU s0.ep Es Rs ops j k oj ok) (hk:GG P M C ops s0 Es Rs k ok):Tu (Es k) (PV ops oj) (wP Rs j):=by
 obtain⟨t1,t2,t3⟩:=Oper.apart_spec h.tmp;refine⟨λt ht hd=>by rw[hk.dst] at hd;exact t3 t hd ht,λid Zt=>?_⟩;cases hW:(Es k).W id with
 | false=>rfl
 | true=>
  exfalso;rcases Tw hk hW with h1|⟨h1,Lh⟩
  .rw[h.f2 id Zt] at h1;cases h1
  .exact h.ww (by rw[h1];simp) id Lh Zt
end
section
variable {P:Program} {M:X6} {C:Nat->Ki} {ops:Array Oper} {s0:St} {Es:Nat->BG} {Rs:Nat->Rec} {n:Nat}
theorem wS (hF:∀(i:Nat) (o:Oper),ops[i]?=some o->GG P M C ops s0 Es Rs i o) {m:Nat} {o:Oper} (ho:ops[m]?=some o):∀e∈o.after,Region.binds .any e=true->e.on < m:=λe he hb=>by
 have h:=(hF m o ho).ok;unfold Mc at h;simp only[Bg] at h;have:=Cd.1 h.1.1 e (by simpa using he);rw[hb] at this;simpa using this
theorem Y1e (hF:∀(i:Nat) (o:Oper),ops[i]?=some o->GG P M C ops s0 Es Rs i o) {L:Nat->Bool} (hL:∀(m:Nat) (o:Oper),L m=true->ops[m]?=some o->∀e∈o.after,Region.binds .any e=true->L e.on=true):
  ∀(m:Nat) (o:Oper),ops[m]?=some o->(∀e∈o.after,Region.binds .any e=true->L e.on=true)->∀j∈(Rs m).pre,L j=true:=by
 intro m
 induction m using Nat.strongRecOn with
 | _ m ih=>
  intro o ho hp j hj;rw[(hF m o ho).pre] at hj;unfold KT at hj;rw[List.mem_eraseDups] at hj;obtain⟨e,he,hj⟩:=List.mem_flatMap.1 hj;rw[Pp] at he;have hem:e∈o.after:=by simpa using he.1
  have Z7:=wS hF ho e hem he.2;have hLe:=hp e hem he.2;rcases Ce.1 hj with rfl|hj
  .exact hLe
  .have hm:m < ops.size:=(HE.1 ho).1
   have h1:((List.range m).map Rs)[e.on]?=some (Rs e.on):=by simp[uE Z7]
   rw[h1] at hj;simp only[D8,Ga] at hj;have BP:ops[e.on]?=some (ops[e.on]'(by omega)):=Var (by omega);exact ih e.on Z7 _ BP (hL e.on _ hLe BP) j hj
theorem Y9o (hF:∀(i:Nat) (o:Oper),ops[i]?=some o->GG P M C ops s0 Es Rs i o) {L:Nat->Bool} {i:Nat} (Mt:L i=false) (h0:∀id:Id,id.1=s0.ep->s0.heap id=none)
  (hu:∀j,i < j->j < ops.size->L j=true->i ∉ (Rs j).pre) {oi:Oper} (hi:ops[i]?=some oi) {id:Id} (hf:W2 s0.ep i id=true):∀k,k<=ops.size->(sub Es L s0 k).heap id=none:=by
 have iV:id.1=s0.ep/\id.2 / 1024=i:=by simpa [W2] using hf
 intro k
 induction k with
 | zero=>intro _;exact h0 id iV.1
 | succ k ih=>
  intro hk;rw[Gh];cases hL:L k with
  | false=>simp only[Bn,if_false];exact ih (by omega)
  | true=>
   simp only[if_true,BG.BN];have WY:ops[k]?=some (ops[k]'(by omega)):=Var (by omega);have hki:k≠i:=λe=>by subst e;rw[Mt] at hL;cases hL
   have hW:(Es k).W id=false:=by
    cases hW:(Es k).W id with
    | false=>rfl
    | true=>
     exfalso;rcases Tw (hF k _ WY) hW with h1|⟨h1,h2⟩
     .have:id.1=s0.ep/\id.2 / 1024=k:=by simpa [W2] using h1
      omega
     .rcases KN i k with Z7|NQ
      .have:=(iZ hF hi WY Z7 (hu k Z7 (by omega) hL)).f1 id h2
       rw[hf] at this;cases this
      .have h:=(hF k _ WY).ok
       unfold Mc at h;simp only[Bg] at h;have:=Cd.1 h.1.2 id h2;simp only[N6,Bool.and_eq_false_iff,beq_eq_false_iff_ne,decide_eq_false_iff_not] at this;rcases this with h3|h3
       .exact h3 iV.1
       .omega
   rw[hW];simp only[Bn,if_false];exact ih (by omega)
theorem Yt7 {x y:St} {o:Oper} (h:∀t,PV ops o t->x.env t=y.env t):wanted x ops o=wanted y ops o:=by
 unfold wanted;cases hg:o.guard with
 | none=>rfl
 | some jb=>
  obtain⟨j,b⟩:=jb;simp only;cases ht:(ops[j]?).bind (·.dst) with
  | none=>rfl
  | some t=>
   have:x.env t=y.env t:=h t (by
    unfold PV Oper.looksAt;rw[hg];simp[ht])
   simp only[D8,this]
theorem Y6x {x y:St} {o:Oper} (h:∀t,PV ops o t->x.env t=y.env t):∀z∈o.op.operands.toList,x.AP z=y.AP z:=by
 intro z hz;cases z with
 | tmp t=>
  exact h t (by
   unfold PV Oper.looksAt;refine CC _ (List.mem_filterMap.2 ⟨.tmp t,hz,rfl⟩))
 | _=>rfl
theorem Y74 (hF:∀(i:Nat) (o:Oper),ops[i]?=some o->GG P M C ops s0 Es Rs i o) {L:Nat->Bool} {i:Nat} {o:Oper} (hi:ops[i]?=some o) (Mt:L i=false) (h0:∀id:Id,id.1=s0.ep->s0.heap id=none)
  (hL:∀(m:Nat) (o:Oper),L m=true->ops[m]?=some o->∀e∈o.after,Region.binds .any e=true->L e.on=true) (hr:∀e∈o.after,Region.binds .any e=true->L e.on=true):
  ∃g,wanted (sub Es L s0 ops.size) ops o=some g/\
   (g=true->∃x1,Iw P M (C i) (sub Es L s0 ops.size) i o=some ((Es i).v,x1)/\x1.put o.dst (Es i).v=sub Es (λj=>L j||j == i) s0 ops.size)/\
   (g=false->(sub Es L s0 ops.size).put o.dst (.AZ [])=sub Es (λj=>L j||j == i) s0 ops.size):=by
 have Tv:i < ops.size:=(HE.1 hi).1;have jA:=hF i o hi;have Lg:=Y1e hF hL;have iX:∀j,j < i->L j=false->j ∉ (Rs i).pre:=λj hj Li hm=>by
  rw[Lg i o hi hr j hm] at Li;cases Li
 have wT:∀j,i < j->j < ops.size->L j=true->i ∉ (Rs j).pre:=λj hj Gi Li hm=>by
  have Gj:ops[j]?=some (ops[j]'Gi):=Var Gi;have:=Lg j _ Gj (hL j _ Li Gj) i hm;rw[Mt] at this;cases this
 have jB:=Y5m (Es:=Es) (s:=s0) (A:=PV ops o) (T:=wP Rs i) (i:=i) (n:=ops.size) Mt
  (λj hj Li=>by
   have Gj:ops[j]?=some (ops[j]'(by omega)):=Var (by omega);exact (iZ hF Gj hi hj (iX j hj Li)).wQ (hF j _ Gj))
  (λj hj Gi Li=>by
   have Gj:ops[j]?=some (ops[j]'Gi):=Var Gi;exact (iZ hF hi Gj hj (wT j hj Gi Li)).wR (hF j _ Gj))
  ops.size (B2 _)
 rw[Nat.min_eq_right (by omega)] at jB;have HO:=Xca (Es:=Es) (s:=s0) Tv Mt (λj hj Gi Li=>by
   have Gj:ops[j]?=some (ops[j]'Gi):=Var Gi;exact (iZ hF hi Gj hj (wT j hj Gi Li)).apart jA (hF j _ Gj) (by omega))
 obtain⟨g,hg,ht,hf⟩:=jA.run;refine⟨g,by rw[Yt7 (λt h=>jB.1 t h)];exact hg,λwN=>?_,λVJ=>?_⟩
 .obtain⟨y,hy,hW,hhp,hw⟩:=ht wN
  have Yk:(sub Es L s0 ops.size).ep=s0.ep:=iW _ _ _ _;have wU:(sub Es (λ_=>true) s0 i).ep=s0.ep:=iW _ _ _ _;have WZ:Ext (λid=>(Rs i).T.contains id=false/\W2 s0.ep i id=false) ((sub Es (λ_=>true) s0 i).only (Rs i).T) (sub Es L s0 ops.size):=by
   refine⟨by rw[Yk];exact wU.symm,λid Zt=>?_,λid Zt=>?_⟩
   .simp only[St.only]
    cases hc:(Rs i).T.contains id with
    | true=>simp only[if_true];exact jB.2 id (show id∈(Rs i).T by simpa using hc)
    | false=>
     simp only[Bn,if_false];have wV:W2 s0.ep i id=true:=by
      cases wV:W2 s0.ep i id with
      | true=>rfl
      | false=>exact absurd ⟨hc,wV⟩ Zt
     exact Y9o hF Mt h0 wT hi wV ops.size (B2 _)
   .simp only[St.only,Zt.1,Bn,if_false]
  obtain⟨x1,h1,h2,h3,h4,h5⟩:=WZ.op (P:=P) (M:=M) (C:=C i) (k:=i) (λid Zt hh=>by
   have:W2 s0.ep i id=true:=by simp only[W2,Bg,beq_iff_eq];exact⟨by rw[hh.1];exact wU,hh.2⟩
   rw[Zt.2] at this;cases this) hy
  refine⟨x1,?_,?_⟩
  .unfold Iw
   rw[Yzt (Y6x (ops:=ops) (λt h=>jB.1 t h))];exact h1
  .rw[<-HO]
   refine St.ext' (λt=>?_) (λid=>?_) ?_
   .have e1:∀(z:St),(z.put o.dst (Es i).v).env t=if o.dst=some t then (Es i).v else z.env t:=λz=>by
     have:=BG.BY ⟨o.dst,(Es i).v,λ_=>false,λ_=>none⟩ z t;simpa [BG.app] using this
    rw[e1,BG.BY,jA.dst,h4]
   .rw[PT,BG.BN]
    simp only[hW id];have hyr:(Rs i).w=false->W2 s0.ep i id=false->y.heap id=((sub Es (λ_=>true) s0 i).only (Rs i).T).heap id:=λhwf NY=>by
     refine Y4o hy (by rw[<-hw];exact hwf) ?_;have:((sub Es (λ_=>true) s0 i).only (Rs i).T).ep=s0.ep:=wU;rw[this];exact NY
    cases NY:W2 s0.ep i id with
    | true=>
     simp only[Bool.true_or,if_true];rw[hhp,h2.out id (λhd=>by rw[hd.2] at NY;cases NY)]
    | false=>
     cases hc:(Rs i).T.contains id with
     | false=>
      simp only[Vv,Bool.or_self,Bn,if_false];exact h3 id ⟨hc,NY⟩
     | true=>
      have CU:¬((Rs i).T.contains id=false/\W2 s0.ep i id=false):=λhd=>by rw[hd.1] at hc;cases hc
      rw[h2.out id CU];cases hwi:(Rs i).w with
      | true=>simp[hhp]
      | false=>
       simp only[Iq,Bool.or_self,Bn,if_false];rw[hyr hwi NY,<-WZ.out id CU]
   .rw[GD,BG.E2,h5]
 .obtain⟨hv,hWf,_,_⟩:=hf VJ
  rw[<-HO];refine St.ext' (λt=>?_) (λid=>?_) ?_
  .have e1:∀(z:St),(z.put o.dst (.AZ [])).env t=if o.dst=some t then (.AZ []) else z.env t:=λz=>by
    have:=BG.BY ⟨o.dst,.AZ [],λ_=>false,λ_=>none⟩ z t;simpa [BG.app] using this
   rw[e1,BG.BY,jA.dst,hv]
  .rw[PT,BG.BN]
   simp[hWf id]
  .rw[GD,BG.E2]
theorem Yxk {listed:Array Bool} {i n:Nat} (hi:i < n) (hl:listed.getD i true=false):
  ((List.range n).filter λj=>!(listed.setIfInBounds i true).getD j true).length < ((List.range n).filter λj=>!listed.getD j true).length:=by
 have Ww:i < listed.size:=by
  rcases KN i listed.size with h|h
  .exact h
  .simp[uA h] at hl
 have XA:∀j,(listed.setIfInBounds i true).getD j true=(listed.getD j true||j == i):=λj=>by
  by_cases h:i=j
  .subst h;simp[Ww]
  .have wX:(j == i)=false:=by simpa using (λe=>h e.symm)
   rw[getD_set_ne true h,wX,uO]
 have DK:((List.range n).filter λj=>!(listed.setIfInBounds i true).getD j true)=((List.range n).filter λj=>!listed.getD j true).filter λj=>!(j == i):=by
  rw[List.filter_filter]
  congr 1
  funext j
  rw[XA];cases listed.getD j true<;>cases (j == i)<;>rfl
 rw[DK];have hle:=Ta (λj=>!(j == i)) ((List.range n).filter λj=>!listed.getD j true);rcases KN (((List.range n).filter λj=>!listed.getD j true).filter λj=>!(j == i)).length ((List.range n).filter λj=>!listed.getD j true).length with h|h
 .exact h
 .have he:=(List.filter_sublist (p:=λj=>!(j == i)) (l:=(List.range n).filter λj=>!listed.getD j true)).eq_of_length (by omega)
  have hm:i∈(List.range n).filter λj=>!listed.getD j true:=Pp.2 ⟨Vu.2 hi,by rw[hl];rfl⟩;rw[<-he,Pp] at hm;simp at hm
variable {B:Nat} {io:Nat->Prop} {fl:List Nat}
theorem Y1z {Q:Exit->Act->World->Prop} (hC:∀k,HP P M (C k)) (hF:∀(i:Nat) (o:Oper),ops[i]?=some o->GG P M C ops s0 Es Rs i o) (h0:∀id:Id,id.1=s0.ep->s0.heap id=none):
  ∀(fuel:Nat) (listed:Array Bool) {a:Act} {w:World} {U:AX} {F:Id->List Nat},listed.size=ops.size->((List.range ops.size).filter λj=>!listed.getD j true).length<=fuel->
   (∀(m:Nat) (o:Oper),listed.getD m false=true->ops[m]?=some o->∀e∈o.after,Region.binds .any e=true->listed.getD e.on false=true)->
   Rel P B io w a.tmps (sub Es (λj=>listed.getD j false) s0 ops.size) U F fl->(∀id:Id,id.1=s0.ep->(U id).isSome=true->listed.getD (id.2 / 1024) false=true)->Ms a.tmps.size ops.toList=true->
   (∀a' w',GC P B io fl w a U (sub Es (λ_=>true) s0 ops.size) a' w'->Q .normal a' w')->wpAny P .any ops Q fuel listed a w:=by
 have same:∀(listed:Array Bool) (j:Nat),listed.size=ops.size->j < ops.size->listed.getD j false=listed.getD j true:=λlisted j hs hj=>by
  simp[show j < listed.size by omega]
 have done:∀(listed:Array Bool) {a:Act} {w:World} {U:AX} {F:Id->List Nat},listed.size=ops.size->(∀(m:Nat) (o:Oper),listed.getD m false=true->ops[m]?=some o->∀e∈o.after,Region.binds .any e=true->listed.getD e.on false=true)->Region.ready .any ops listed=[]->
   Rel P B io w a.tmps (sub Es (λj=>listed.getD j false) s0 ops.size) U F fl->(∀a' w',GC P B io fl w a U (sub Es (λ_=>true) s0 ops.size) a' w'->Q .normal a' w')->Q .normal a w:=by
  intro listed a w U F hs W8 hr h hQ;have K3:∀j,j < ops.size->listed.getD j false=true:=by
   intro j
   induction j using Nat.strongRecOn with
   | _ j ih=>
    intro hj;have Gj:ops[j]?=some (ops[j]'hj):=Var hj;cases hl:listed.getD j false with
    | true=>rfl
    | false=>
     exfalso;have:j∈Region.ready .any ops listed:=mem_ready.2 ⟨by rw[<-same listed j hs hj];exact hl,_,Gj,λe he hb=>ih e.on (wS hF Gj e he hb) (by have:=wS hF Gj e he hb;omega)⟩;rw[hr] at this;cases this
  have:sub Es (λj=>listed.getD j false) s0 ops.size=sub Es (λ_=>true) s0 ops.size:=Ypf λj hj=>K3 j hj;rw[this] at h;exact hQ _ _ (.refl h)
 intro fuel
 induction fuel with
 | zero=>
  intro listed a w U F hs hf W8 h hU hd hQ;have hr:Region.ready .any ops listed=[]:=by
   have IB:=Gz (Nat.le_zero.1 hf);unfold Region.ready;rw[Veg];intro i hi hh;simp only[Bg] at hh;have hm:i∈(List.range ops.size).filter λj=>!listed.getD j true:=Pp.2 ⟨hi,hh.1⟩;rw[IB] at hm;cases hm
  exact⟨hr,done listed hs W8 hr h hQ⟩
 | succ fuel ih=>
  intro listed a w U F hs hf W8 h hU hd hQ;refine⟨λhr=>done listed hs W8 hr h hQ,λi hi=>?_⟩;obtain⟨BX,o,ho,Y7d⟩:=mem_ready.1 hi;have Tv:i < ops.size:=(HE.1 ho).1;have Mt:listed.getD i false=false:=by rw[same listed i hs Tv];exact BX
  obtain⟨g,hg,ht,NY⟩:=Y74 hF (L:=λj=>listed.getD j false) ho Mt h0 W8 Y7d;have XA:∀j,(listed.setIfInBounds i true).getD j false=(listed.getD j false||j == i):=λj=>by
   by_cases e:i=j
   .subst e;simp[show i < listed.size by omega]
   .have wX:(j == i)=false:=by simpa using (λh=>e h.symm)
    rw[getD_set_ne false e,wX,uO]
  have Y4:∀id:Id,id.1=(sub Es (λj=>listed.getD j false) s0 ops.size).ep->id.2 / 1024=i->U id=none:=λid h1 h2=>by
   cases hr:U id with
   | none=>rfl
   | some x=>
    have:=hU id (by rw[h1,iW]) (by rw[hr];rfl);rw[h2,Mt] at this;cases this
  have DC:∀d,o.dst=some d->d < a.tmps.size:=iU hd (by simpa using ho);have next:∀{s2:St} {a':Act} {w':World} {U':AX} {F':Id->List Nat},Rel P B io w' a'.tmps s2 U' F' fl->s2=sub Es (λj=>listed.getD j false||j == i) s0 ops.size->J5 B io w w'->(∀id i,U id=some i->U' id=some i)->
    (∀id,(U' id).isSome=true->(U id).isSome=true\/(id.1=(sub Es (λj=>listed.getD j false) s0 ops.size).ep/\id.2 / 1024=i))->a'.tmps.size=a.tmps.size->a'.defers=a.defers->wpAny P .any ops Q fuel (listed.setIfInBounds i true) a' w':=by
   intro s2 a' w' U' F' hR DX IK Di Fi GF DZ;subst DX;refine ih (listed.setIfInBounds i true) (by simpa using hs) (by have:=Yxk Tv BX;omega) (λm o' hm XB e he hb=>?_) (by
    have:(λj=>(listed.setIfInBounds i true).getD j false)=λj=>listed.getD j false||j == i:=funext XA;rw[this];exact hR) (λid h1 h2=>?_) (by rw[GF];exact hd) (λa2 w2 hA=>hQ _ _ (.trans IK Di GF DZ hA))
   .rw[XA] at hm ⊢
    simp only[N7,beq_iff_eq] at hm ⊢;rcases hm with hm|rfl
    .exact .inl (W8 m o' hm XB e he hb)
    .rw[ho] at XB;injection XB with XB;subst XB
     exact .inl (Y7d e he hb)
   .rw[XA]
    simp only[N7,beq_iff_eq];rcases Fi id h2 with h3|h3
    .exact .inl (hU id h1 h3)
    .exact .inr h3.2
  cases g with
  | true=>
   obtain⟨x1,hx1,Ec⟩:=ht rfl;refine WV (M:=M) (C:=C i) (v:=(Es i).v) (s1:=x1) h ho DC hg (λ_=>Y4) (λ_=>hx1) (λ_=>hC i _ _ _ _ _ _ F _ _ _ _ h Y4) (λa' w' U' F' hR Yk IK Di Fi GF DZ=>?_);simp only[if_true] at hR;exact next hR Ec IK Di Fi GF DZ
  | false=>
   refine WV (M:=M) (C:=C i) (v:=.undef) (s1:=s0) h ho DC hg (λhf=>by cases hf) (λhf=>by cases hf) (λhf=>by cases hf) (λa' w' U' F' hR Yk IK Di Fi GF DZ=>?_);simp only[Bn,if_false] at hR;exact next hR (NY rfl) IK Di Fi GF DZ
theorem Y5q {Q:Exit->Act->World->Prop} (hC:∀k,HP P M (C k)) {s':St} {a:Act} {w:World} {U:AX} {F:Id->List Nat} (h:Rel P B io w a.tmps s0 U F fl) (he:Ff P M C ops s0 [] 0 ops.toList=some s')
  (Y4:∀id:Id,id.1=s0.ep->U id=none) (hd:Ms a.tmps.size ops.toList=true) (hQ:∀a' w',GC P B io fl w a U s' a' w'->Q .normal a' w'):
  wpAny P .any ops Q ops.size (Array.replicate ops.size false) a w:=by
 obtain⟨Es,Rs,_,h2,h3⟩:=Yvj (s0:=s0) ops.toList (k:=0) (Es0:=λ_=>⟨none,.undef,λ_=>false,λ_=>none⟩) (Rs0:=λ_=>⟨[],[],false⟩) rfl rfl he;rw[Pq,Array.length_toList] at h2;subst h2;have hF:∀(i:Nat) (o:Oper),ops[i]?=some o->GG P M C ops s0 Es Rs i o:=λi o ho=>by
  have:=h3 i o (by simpa using ho)
  rwa [Pq] at this
 have XC:∀j,(Array.replicate ops.size false).getD j false=false:=λj=>by
  by_cases h:j < ops.size<;>simp[h]
 have hh0:∀id:Id,id.1=s0.ep->s0.heap id=none:=λid h1=>by
  cases hb:s0.heap id with
  | none=>rfl
  | some b=>
   exfalso;have hB:=h.heap id b hb;rw[Y4 id h1] at hB;unfold Xs at hB;split at hB
   .obtain⟨_,_,_,_,_,hi,_⟩:=hB;cases hi
   .rcases hB with⟨hi,_⟩|⟨_,_,_,_,hi,_⟩<;>cases hi
   .obtain⟨_,hB⟩:=hB
    rcases hB with⟨hi,_⟩|⟨_,_,_,_,hi,_⟩<;>cases hi
 refine Y1z (F:=F) hC hF hh0 ops.size _ (by simp) (by
  have:=Ta (λj=>!(Array.replicate ops.size false).getD j true) (List.range ops.size);simpa using this) (λm o hm=>by rw[XC] at hm;cases hm) ?_ (λid h1 h2=>by rw[Y4 id h1] at h2;cases h2) hd hQ
 have:sub Es (λj=>(Array.replicate ops.size false).getD j false) s0 ops.size=s0:=by
  have key:∀k,sub Es (λj=>(Array.replicate ops.size false).getD j false) s0 k=s0:=by
   intro k
   induction k with
   | zero=>rfl
   | succ k ih=>rw[Gh,XC,Ak (by simp)];exact ih
  exact key _
 rw[this];exact h
end
def EJ (n:Nat):Code->Bool
 | .region _ ops _=>Ms n ops.toList
 | .seq a b=>EJ n a&&EJ n b
 | .cond _ a b=>EJ n a&&EJ n b
 | .block _ c=>EJ n c
 | .loop c=>EJ n c
 | _=>true
def Ex.to:Ex->Exit
 | .normal=>.normal
 | .ret=>.ret
 | .exit n=>.exit n
open Classical in
section
variable {P:Program} {B:Nat} {io:Nat->Prop} {w w':World} {a a':Act} {s s':St} {U U':AX} {F F':Id->List Nat} {fl:List Nat} {M:X6} {C:Ki}
theorem Rel.tick (h:Rel P B io w a.tmps s U F fl):Rel P B io w a.tmps {s with ep:=s.ep+1} U F fl:=
 {h with C4:=λid Zt=>by have:=h.C4 id Zt;simp only;omega}
theorem Rel.drawn (h:Rel P B io w a.tmps s U F fl) (n:Nat):Rel P B io {w with drawn:=n} a.tmps s U F fl:=by
 have hg:Jn P B io {w with drawn:=n} a.tmps s U F fl (AG s U w):=
  {h with
   env:=λt v hv=>(h.env t v hv).world λ_ _=>rfl
   heap:=λid b hb=>(h.heap id b hb).world (λ_ _=>rfl) (λ_ _=>rfl)
   Cs:=h.Cs.step (B2 _) (λ_ _ _=>rfl)}
 exact hg.IG λg hg=>hg
end
structure Qy (D:Id->Prop) (s t:St):Prop where
 ext:Ext D s t
 env:t.env=s.env
 ph:∀id b,D id->t.heap id=some b->b.rows=[]
def EK (D:Id->Prop) (t s' t':St):Prop:=Qy D s' t'/\∀id,D id->t'.heap id=t.heap id
section
variable {D:Id->Prop} {s t s':St} {P:Program} {M:X6} {C:Ki} {k:Nat} {o:Oper} {v:V} {ops:Array Oper}
theorem Qy.three (h:Qy D s t):EK D t s t:=⟨h,λ_ _=>rfl⟩
theorem EK.trans {t1 s1 s2 t2:St} (h:EK D t s1 t1) (k:EK D t1 s2 t2):EK D t s2 t2:=⟨k.1,λid hd=>(k.2 id hd).trans (h.2 id hd)⟩
theorem Qy.wY {s1 t1:St} (h:Qy D s t) (e:Kn D t s1 t1) (CN:s1.env=s.env):EK D t s1 t1:=
 ⟨⟨e.1,by rw[e.2.2.1,h.env,CN],λid b hd hb=>h.ph id b hd (by rw[<-e.2.1 id hd];exact hb)⟩,e.2.1⟩
theorem Qy.put (h:Qy D s t) (d:Option Tmp) (v:V):EK D t (s.put d v) (t.put d v):=by
 cases d with
 | none=>exact h.three
 | some d=>exact⟨⟨⟨h.ext.ep,h.ext.out,h.ext.abs⟩,by simp only[St.put,h.env],h.ph⟩,λ_ _=>rfl⟩
theorem Qy.AP (h:Qy D s t):t.AP=s.AP:=by
 funext x;cases x<;>simp only[St.AP,h.env]
theorem Qy.wanted (h:Qy D s t):Ev.wanted t ops o=Ev.wanted s ops o:=by
 unfold Ev.wanted;rw[h.env]
theorem Yo8 {f:Operand->V} (he:Xj P M C f s k o=some (v,s')):s'.env=s.env/\s'.ep=s.ep:=by
 have h:Ext (λ_=>False) s ⟨s.env,s.heap,s.ep⟩:=⟨rfl,λ_ _=>rfl,λ_ h=>h.elim⟩;obtain⟨t',h1,h2⟩:=h.op (λ_ h=>h.elim) he;have h3:(some (v,t'):Option (V×St))=some (v,s'):=by rw[<-h1,<-he]
 simp only[AB,A6,true_and] at h3;subst h3;exact⟨h2.2.2.1,h2.2.2.2⟩
theorem Qy.op (h:Qy D s t) (hd:∀id:Id,D id->¬(id.1=s.ep/\id.2 / 1024=k)) (he:Iw P M C s k o=some (v,s')):∃t',Iw P M C t k o=some (v,t')/\EK D t s' t':=by
 unfold Iw at he ⊢;rw[h.AP];obtain⟨t',h1,h2⟩:=h.ext.op hd he;exact⟨t',h1,h.wY h2 (Yo8 he).1⟩
theorem Qy.XD {C:Nat->Ki} (hD:∀id:Id,D id->id.1=0):∀(l:List Oper) {k:Nat} {s t s':St},Qy D s t->s.ep≠0->FG P M C ops s k l=some s'->∃t',FG P M C ops t k l=some t'/\EK D t s' t'/\s'.ep=s.ep:=by
 intro l
 induction l with
 | nil=>
  intro k s t s' h _ he;simp only[FG,AB] at he;subst he;exact⟨t,rfl,h.three,rfl⟩
 | cons o l ih=>
  intro k s t s' h Yk he;simp only[FG] at he ⊢;obtain⟨g,hg,he⟩:=A8.1 he;rw[h.wanted,hg,Ag];cases g with
  | true=>
   simp only[if_true] at he ⊢;obtain⟨⟨v,s1⟩,h1,he⟩:=A8.1 he;obtain⟨t1,g1,e1⟩:=h.op (λid hd hh=>Yk (by rw[<-hh.1];exact hD id hd)) h1;have hp:=e1.1.put o.dst v;have C5:s1.ep=s.ep:=(Yo8 h1).2;obtain⟨t2,g2,e2,e3⟩:=ih hp.1 (by rw[GD,C5];exact Yk) he;exact⟨t2,by rw[g1];exact g2,(e1.trans hp).trans e2,by rw[e3,GD,C5]⟩
  | false=>
   simp only[Bn,if_false] at he ⊢;have hp:=h.put o.dst (.AZ []);obtain⟨t2,g2,e2,e3⟩:=ih hp.1 (by rw[GD];exact Yk) he;exact⟨t2,g2,hp.trans e2,by rw[e3,GD]⟩
theorem Qy.deep (h:Qy D s t) (id:Id):t.deep id=s.deep id:=by
 unfold St.deep;by_cases hd:D id
 .rw[h.ext.abs id hd]
  cases hb:t.heap id with
  | none=>rfl
  | some b=>simp only[h.ph id b hd hb];simp
 .rw[h.ext.out id hd]
theorem Qy.storeT (h:Qy D s t) (d:List Id) (x:V):t.storeT d x=s.storeT d x:=by
 cases x with
 | ptr i j n=>
  simp only[St.storeT];by_cases hd:D i
  .rw[h.ext.abs i hd]
   cases hb:t.heap i with
   | none=>rfl
   | some b=>
    have:=h.ph i b hd hb;simp only[this];cases b.box<;>rfl
  .rw[h.ext.out i hd]
 | _=>rfl
theorem Qy.BW (h:Qy D s t):Ev.BW t o=Ev.BW s o:=by
 have hdp:t.deep=s.deep:=funext h.deep;have Fo:t.storeT=s.storeT:=funext λd=>funext λx=>h.storeT d x;unfold Ev.BW;rw[h.AP,hdp,Fo]
theorem Qy.only (h:Qy D s t) (T:List Id):Ext D (s.only T) (t.only T):=by
 refine⟨h.ext.ep,λid hd=>?_,λid hd=>?_⟩
 .simp only[St.only];split
  .exact h.ext.out id hd
  .rfl
 .simp only[St.only];split
  .exact h.ext.abs id hd
  .rfl
theorem Qy.merge {y z:St} {T:List Id} {w:Bool} (h:Qy D s t) (hD:∀id:Id,D id->W2 s.ep k id=false) (hy:Ext D y z) (hz:∀id,D id->z.heap id=(t.only T).heap id):EK D t (s.merge k T w y) (t.merge k T w z):=by
 have key:∀id,D id->(t.merge k T w z).heap id=t.heap id:=λid hd=>by
  simp only[St.merge,h.ext.ep,hD id hd,Vw];split
  .rename_i hc
   rw[hz id hd];simp only[Bg] at hc;have hm:id∈T:=by simpa using hc.2
   simp[St.only,hm]
  .rfl
 refine⟨⟨⟨h.ext.ep,λid hd=>?_,λid hd=>?_⟩,h.env,λid b hd hb=>h.ph id b hd (by rw[<-key id hd];exact hb)⟩,key⟩
 .simp only[St.merge,h.ext.ep];split
  .exact hy.out id hd
  .exact h.ext.out id hd
 .simp only[St.merge];split
  .exact hy.abs id hd
  .exact h.ext.abs id hd
theorem Qy.draw {C:Nat->Ki} (hD:∀id:Id,D id->id.1=0):∀(l:List Oper) {k:Nat} {s t s':St} {recs:List Rec},Qy D s t->s.ep≠0->Ff P M C ops s recs k l=some s'->∃t',Ff P M C ops t recs k l=some t'/\EK D t s' t':=by
 intro l
 induction l with
 | nil=>
  intro k s t s' recs h _ he;simp only[Ff,AB] at he;subst he;exact⟨t,rfl,h.three⟩
 | cons o l ih=>
  intro k s t s' recs h Yk he;have Cu:∀id:Id,D id->¬(id.1=s.ep/\id.2 / 1024=k):=λid hd hh=>Yk (by rw[<-hh.1];exact hD id hd);have hnf:∀id:Id,D id->W2 s.ep k id=false:=λid hd=>by
   cases hf:W2 s.ep k id with
   | false=>rfl
   | true=>exact absurd (by simpa [W2] using hf) (Cu id hd)
  simp only[Ff] at he ⊢;obtain⟨g,hg,he⟩:=A8.1 he;rw[h.wanted,hg,Ag,h.BW,h.AP,h.ext.ep];cases g with
  | true=>
   simp only[if_true] at he ⊢;split at he
   .rename_i Yf
    rw[Aj Yf];obtain⟨⟨v,y⟩,h1,he⟩:=A8.1 he;obtain⟨z,g1,e1⟩:=(h.only (Ev.BW s o)).op (by exact Cu) h1;have hm:=h.merge (T:=Ev.BW s o) (w:=Ix M s.AP o) hnf e1.1 e1.2.1;have hp:=hm.1.put o.dst v;obtain⟨t2,g2,e2⟩:=ih hp.1 (by rw[GD];exact Yk) he;exact⟨t2,by rw[g1];exact g2,(hm.trans hp).trans e2⟩
   .cases he
  | false=>
   simp only[Bn,if_false] at he ⊢;split at he
   .rename_i Yf
    rw[Aj Yf];have hp:=h.put o.dst (.AZ []);obtain⟨t2,g2,e2⟩:=ih hp.1 (by rw[GD];exact Yk) he;exact⟨t2,g2,hp.trans e2⟩
   .cases he
theorem Qy.tick (h:Qy D s t):EK D t {s with ep:=s.ep+1} {t with ep:=t.ep+1}:=
 ⟨⟨⟨by simp only[h.ext.ep],h.ext.out,h.ext.abs⟩,h.env,h.ph⟩,λ_ _=>rfl⟩
theorem Qy.res (h:Qy D s t):∀{l:List ResultVar} {vs:List V},G3 P s l=some vs->G3 P t l=some vs:=by
 intro l
 induction l with
 | nil=>intro vs hr;exact hr
 | cons r l ih=>
  intro vs hr;cases r with
  | tmp x=>
   simp only[G3,h.env] at hr ⊢;split at hr
   .cases hr
   .obtain⟨ys,h1,rfl⟩:=AL.1 hr
    rw[ih h1];rfl
  | cell a ty=>
   simp only[G3,h.env] at hr ⊢;split at hr
   .obtain⟨b,hb,hr⟩:=A8.1 hr
    obtain⟨row,Xg,hr⟩:=A8.1 hr;rw[h.ext.get hb,Ag,Xg,Ag];split at hr
    .rename_i hl
     rw[Aj hl];obtain⟨x,hx,hr⟩:=A8.1 hr;obtain⟨ys,h1,rfl⟩:=AL.1 hr;rw[hx,Ag,ih h1];rfl
    .cases hr
   .cases hr
theorem Ext.BD (h:Ext D s t) {ts:List (Option TypeId)} {x y:V} (hl:s.BD ts x=some (y,s')):∃t',t.BD ts x=some (y,t')/\Kn D t s' t':=by
 unfold St.BD at hl ⊢;split at hl
 .obtain⟨⟨ys,s1⟩,h1,he⟩:=AL.1 hl
  simp only[A6] at he;obtain⟨rfl,rfl⟩:=he;obtain⟨t',g,e⟩:=Ext.AK h h1;exact⟨t',by rw[g];rfl,e⟩
 .obtain⟨⟨ys,s1⟩,h1,he⟩:=AL.1 hl
  simp only[A6] at he;obtain⟨rfl,rfl⟩:=he;obtain⟨⟨t',g,e⟩,_⟩:=h.Bv h1;exact⟨t',by rw[g];rfl,e⟩
 .exact h.A9 hl
theorem Ext.liftAll:∀{xs:List V} {s t:St} {ts:List TypeId} {ys:List V} {s':St},Ext D s t->s.liftAll P ts xs=some (ys,s')->∃t',t.liftAll P ts xs=some (ys,t')/\Kn D t s' t':=by
 intro xs
 induction xs with
 | nil=>
  intro s t ts ys s' h hs;simp only[St.liftAll,AB,A6] at hs;obtain⟨rfl,rfl⟩:=hs;exact⟨t,rfl,h.two⟩
 | cons x xs ih=>
  intro s t ts ys s' h hs;simp only[St.liftAll] at hs ⊢;obtain⟨⟨y1,s1⟩,h1,hs⟩:=A8.1 hs;obtain⟨⟨y2,s2⟩,h2,hs⟩:=AL.1 hs;simp only[A6] at hs;obtain⟨rfl,rfl⟩:=hs;obtain⟨t1,g1,e1⟩:=h.BD h1;obtain⟨t2,g2,e2⟩:=ih e1.1 h2;exact⟨t2,by rw[g1];simp only[Ag,g2];rfl,e1.trans e2⟩
theorem Ext.AY {p:Nat}:∀{xs:List V} {s t:St} {k:Nat} {ys:List V} {s':St},Ext D s t->s.AY p k xs=some (ys,s')->∃t',t.AY p k xs=some (ys,t')/\Kn D t s' t':=by
 intro xs
 induction xs with
 | nil=>
  intro s t k ys s' h hs;simp only[St.AY,AB,A6] at hs;obtain⟨rfl,rfl⟩:=hs;exact⟨t,rfl,h.two⟩
 | cons x xs ih=>
  intro s t k ys s' h hs;unfold St.AY at hs ⊢;split at hs
  .rename_i heq;cases heq
  .rename_i heq
   injection heq with h1 h2;subst h1;subst h2;obtain⟨er,hw,hs⟩:=A8.1 hs;obtain⟨Gg,hd⟩:=h.whole hw;rw[Gg,Ag];split at hs
   .rename_i he
    rw[Aj he];obtain⟨⟨PW,s1⟩,h1,he⟩:=AL.1 hs;simp only[A6] at he;obtain⟨rfl,rfl⟩:=he;obtain⟨t',g,e⟩:=ih (h.kill hd).1 h1;exact⟨t',by rw[g];rfl,(h.kill hd).trans e⟩
   .cases hs
  .rename_i Yg heq
   injection heq with h1 h2;subst h1;subst h2;obtain⟨⟨PW,s1⟩,h1,he⟩:=AL.1 hs;simp only[A6] at he;obtain⟨rfl,rfl⟩:=he;obtain⟨t',g,e⟩:=ih h h1;exact⟨t',by rw[g];rfl,e⟩
theorem Ext.IM (h:Ext D s t) {p:Nat} {ts:List (Option TypeId)} {m:Yu} {x y:V} (ho:s.out p ts m x=some (y,s')):∃t',t.out p ts m x=some (y,t')/\Kn D t s' t':=by
 unfold St.out at ho ⊢;split at ho
 .simp only[AB,A6] at ho;obtain⟨rfl,rfl⟩:=ho;exact⟨t,rfl,h.two⟩
 .simp only[AB,A6] at ho;obtain⟨rfl,rfl⟩:=ho;exact⟨t,rfl,h.two⟩
 .split at ho
  .obtain⟨⟨ys,s1⟩,h1,ho⟩:=A8.1 ho
   obtain⟨⟨t',g,e⟩,_⟩:=h.Bd h1;simp only at ho;split at ho
   .rename_i hl
    simp only[AB,A6] at ho;obtain⟨rfl,rfl⟩:=ho;exact⟨t',by rw[g,Ag];simp only[hl,if_true],e⟩
   .cases ho
  .cases ho
 .split at ho
  .obtain⟨⟨ys,s1⟩,h1,he⟩:=AL.1 ho
   simp only[A6] at he;obtain⟨rfl,rfl⟩:=he;obtain⟨t',g,e⟩:=Ext.AY h h1;exact⟨t',by rw[g];rfl,e⟩
  .obtain⟨⟨ys,s1⟩,h1,ho⟩:=A8.1 ho
   obtain⟨z,hz,he⟩:=AL.1 ho;simp only[A6] at he;obtain⟨rfl,rfl⟩:=he;obtain⟨t',g,e⟩:=Ext.AY h h1;exact⟨t',by rw[g,Ag];simp only[hz];rfl,e⟩
theorem Ext.outs:∀{xs:List V} {s t:St} {p:Nat} {ts:List TypeId} {ms:List Yu} {ys:List V},Ext D s t->s.outs P p ts ms xs=some ys->t.outs P p ts ms xs=some ys:=by
 intro xs
 induction xs with
 | nil=>intro s t p ts ms ys h hs;exact hs
 | cons x xs ih=>
  intro s t p ts ms ys h hs;simp only[St.outs] at hs ⊢;obtain⟨⟨y1,s1⟩,h1,hs⟩:=A8.1 hs;obtain⟨zs,h2,rfl⟩:=AL.1 hs;obtain⟨t1,g1,e1⟩:=h.IM h1;rw[g1];simp only[Ag,ih e1.1 h2];rfl
theorem Qy.enter (h:Qy D s t) (hD:∀id:Id,D id->64000<=id.2) {p:Nat} {m:Yu} {x:V} (he:s.enter p m x=some s'):∃t',t.enter p m x=some t'/\EK D t s' t':=by
 have CU:p < 1000->∀j,64*p<=j->j < 64*p+64->¬D (0,j):=λhp j _ h2 hd=>by have:=hD _ hd;simp only at this;omega
 have one:∀{x y:V} {s1:St},p < 1000->s.Bb 0 (64*p) x=some (y,s1)->∃t1,t.Bb 0 (64*p) x=some (y,t1)/\EK D t (s1.put (some p) y) (t1.put (some p) y):=by
  intro x y s1 hp h1;obtain⟨t1,g,e⟩:=h.ext.Bb (CU hp) h1;have CN:s1.env=s.env:=by
   have h0:Ext (λ_=>False) s ⟨s.env,s.heap,s.ep⟩:=⟨rfl,λ_ _=>rfl,λ_ h=>h.elim⟩;obtain⟨t',k1,k2⟩:=h0.Bb (λ_ _ _ h=>h.elim) h1;have h3:(some (y,t'):Option (V×St))=some (y,s1):=by rw[<-k1,<-h1]
   simp only[AB,A6,true_and] at h3;subst h3;exact k2.2.2.1
  have e3:=h.wY e CN;exact⟨t1,g,e3.trans (e3.1.put _ _)⟩
 have two:∀{cs:List V} {y:V} {s1:St},p < 1000->s.BC 0 (64*p) cs=some (y,s1)->∃t1,t.BC 0 (64*p) cs=some (y,t1)/\EK D t (s1.put (some p) y) (t1.put (some p) y):=by
  intro x y s1 hp h1;obtain⟨t1,g,e⟩:=h.ext.BC (CU hp) h1;have CN:s1.env=s.env:=by
   have h0:Ext (λ_=>False) s ⟨s.env,s.heap,s.ep⟩:=⟨rfl,λ_ _=>rfl,λ_ h=>h.elim⟩;obtain⟨t',k1,k2⟩:=h0.BC (λ_ _ _ h=>h.elim) h1;have h3:(some (y,t'):Option (V×St))=some (y,s1):=by rw[<-k1,<-h1]
   simp only[AB,A6,true_and] at h3;subst h3;exact k2.2.2.1
  have e3:=h.wY e CN;exact⟨t1,g,e3.trans (e3.1.put _ _)⟩
 unfold St.enter at he ⊢;split at he
 case isFalse=>cases he
 rename_i hp;rw[Aj hp];split at he
 .simp only[AB] at he
  subst he;exact⟨_,rfl,h.put _ _⟩
 .split at he
  .obtain⟨⟨y,s1⟩,h1,rfl⟩:=AL.1 he
   obtain⟨t1,g,e⟩:=two hp h1;exact⟨_,by rw[g];rfl,e⟩
  .cases he
 .split at he
  .cases he
  .rename_i Yg
   obtain⟨⟨y,s1⟩,h1,rfl⟩:=AL.1 he;obtain⟨t1,g,e⟩:=one hp h1;refine⟨_,?_,e⟩;rw[g];rfl
 .split at he
  .cases he
  .rename_i Yg
   obtain⟨⟨y,s1⟩,h1,rfl⟩:=AL.1 he;obtain⟨t1,g,e⟩:=one hp h1;refine⟨_,?_,e⟩;rw[g];rfl
theorem Qy.enters (hD:∀id:Id,D id->64000<=id.2):∀{xs:List V} {s t s':St} {p:Nat} {ms:List Yu},Qy D s t->s.enters p ms xs=some s'->∃t',t.enters p ms xs=some t'/\EK D t s' t':=by
 intro xs
 induction xs with
 | nil=>
  intro s t s' p ms h hs;simp only[St.enters,AB] at hs;subst hs;exact⟨t,rfl,h.three⟩
 | cons x xs ih=>
  intro s t s' p ms h hs;simp only[St.enters] at hs ⊢;obtain⟨s1,h1,hs⟩:=A8.1 hs;obtain⟨t1,g1,e1⟩:=h.enter hD h1;obtain⟨t2,g2,e2⟩:=ih e1.1 hs;exact⟨t2,by rw[g1];exact g2,e1.trans e2⟩
end
theorem En.NZ {w w':World} {ok ok':Nat->Prop} {U:AX} {v:Value} {id:Id} {off len:Nat} (h:En w ok U v (.sl id off len)):En w' ok' U v (.sl id off len):=by
 cases h with
 | sl h hc=>exact .sl h hc
 | sle h=>exact .sle h
theorem En.PX {w w':World} {ok ok':Nat->Prop} {U:AX} {v:Value} {id:Id} {i off:Nat} (h:En w ok U v (.ptr id i off)):En w' ok' U v (.ptr id i off):=by
 generalize hq:V.ptr id i off=q at h;cases h<;>cases hq;rename_i h;exact .ptr h
def Pl (U:AX) (p:Nat) (m:Yu) (u:Value) (x:V):Prop:=
 match m with
 | .io=>∀w ok,En w ok U u (.ptr (0,64*p+63) 0 0)
 | .Ey=>match x with
  | .agg cs=>∃us:Array Value,u=.agg us/\us.size=cs.length/\∀(j:Nat) (v:Value) (e:TypeId) (rows:List (List V)),us[j]?=some v->cs[j]?=some (.own e rows)->∀w ok,En w ok U v (.sl (0,64*p+j) 0 rows.length)
  | x=>∀(e:TypeId) (rows:List (List V)),x=.own e rows->∀w ok,En w ok U u (.sl (0,64*p) 0 rows.length)
 | _=>True
inductive Oa (U:AX):Nat->List Yu->List Value->List V->Prop
 | nil {p:Nat} {ms:List Yu}:Oa U p ms [] []
 | cons {p:Nat} {ms:List Yu} {u:Value} {us:List Value} {x:V} {xs:List V} (h:Pl U p (ms.headD .rd) u x) (hs:Oa U (p+1) ms.tail us xs):Oa U p ms (u::us) (x::xs)
theorem Pl.ext {U U':AX} (hU:∀id i,U id=some i->U' id=some i) {p:Nat} {m:Yu} {u:Value} {x:V} (h:Pl U p m u x):Pl U' p m u x:=by
 cases m
 .exact trivial
 .exactλw ok=>(h w ok).ext (λ_ h=>h) hU
 .exact trivial
 .unfold Pl at h ⊢
  simp only at h ⊢;split
  .obtain⟨us,h1,h2,h3⟩:=h
   exact⟨us,h1,h2,λj v e rows hv hc w ok=>(h3 j v e rows hv hc w ok).ext (λ_ h=>h) hU⟩
  .rename_i Yg
   split at h
   .rename_i cs;exact absurd rfl (Yg cs)
   .exactλe rows he w ok=>(h e rows he w ok).ext (λ_ h=>h) hU
theorem Yqw {e:Nat}:∀{xs:List V} {s:St} {k:Nat} {ys:List V} {s':St},s.AM e k xs=some (ys,s')->∀(j:Nat) (e':TypeId) (rows:List (List V)),xs[j]?=some (.own e' rows)->ys[j]?=some (.sl (e,k+j) 0 rows.length):=by
 intro xs
 induction xs with
 | nil=>intro s k ys s' _ j e' rows h;simp at h
 | cons x xs ih=>
  intro s k ys s' hs j e' rows h;simp only[St.AM] at hs;obtain⟨⟨y1,s1⟩,h1,hs⟩:=A8.1 hs;obtain⟨⟨y2,s2⟩,h2,hs⟩:=AL.1 hs;simp only[A6] at hs;obtain⟨rfl,rfl⟩:=hs;cases j with
  | zero=>
   have:x=.own e' rows:=by simpa using h
   subst this;simp only[St.AS,AB,A6] at h1;simp[h1.1]
  | succ j=>
   have:=ih h2 j e' rows (by simpa using h);rw[Vec,this]
   congr 2
   simp only[V.sl.injEq,A6,true_and,and_true];omega
section
variable {P:Program} {B:Nat} {io:Nat->Prop} {w w':World} {tmps:Array Value} {s s':St} {U U':AX} {F F':Id->List Nat} {fl fl':List Nat} {ok ok':Nat->Prop}
structure PY (P:Program) (B:Nat) (io:Nat->Prop) (w:World) (tmps:Array Value) (s:St) (U:AX) (fl:List Nat) (ok:Nat->Prop) (lo hi:Nat) (s':St) (U':AX) (F':Id->List Nat):Prop where
 rel:Jn P B io w tmps s' U' F' fl ok
 ext:∀id i,U id=some i->U' id=some i
 C4:∀id,(U' id).isSome=true->(U id).isSome=true\/(id.1=0/\lo<=id.2/\id.2 < hi)
 ep:s'.ep=s.ep
 heap:∀id:Id,¬(id.1=0/\lo<=id.2/\id.2 < hi)->s'.heap id=s.heap id
 AJ:∀g,Ev.AJ s' U' g->Ev.AJ s U g\/io g
theorem wZ {d:Option Tmp} {v:V} {g:Nat} (h:AJ (s.put d v) U g):AJ s U g:=by
 obtain⟨id,b,o,c,sz,h1,h2,h3⟩:=h;rw[PT] at h1;exact⟨id,b,o,c,sz,h1,h2,h3⟩
theorem Y76 {fp:List Nat} (h:Jn P B io w tmps s U F (fp++fl) ok) {p:Nat} {m:Yu} {u:Value} {x:V} (ha:WS P w ok io m u x fp) (hp:tmps[p]?=some u) (Yk:s.ep=0) (Y4:∀j,64*p<=j->j < 64*p+64->U (0,j)=none/\s.heap (0,j)=none) (he:s.enter p m x=some s'):
  ∃U' F',PY P B io w tmps s U fl ok (64*p) (64*p+64) s' U' F'/\Pl U' p m u x:=by
 have fin:∀{y:V} {s1:St} {z:V} ,Dz P w ok io u z fp->s.Bb 0 (64*p) z=some (y,s1)->∃U' F',PY P B io w tmps s U fl ok (64*p) (64*p+64) (s1.put (some p) y) U' F'/\En w ok U' u y:=by
  intro y s1 z hg ht;obtain⟨U',F',t,en⟩:=wE h hg (λg hg=>.inl hg) (e:=0) (by omega) Y4 ht;exact⟨U',F',⟨t.rel.put hp en,t.ext,t.C4,by rw[GD];exact t.ep,λid Zt=>by rw[PT];exact t.heap id Zt,λg hg=>t.AJ g (wZ hg)⟩,en⟩
 unfold St.enter at he;split at he
 case isFalse=>cases he
 split at he
 .simp only[AB] at he
  subst he;obtain⟨h1,rfl⟩:=ha;exact⟨U,F,⟨h.put hp (h1 U),λ_ _ h=>h,λ_ h=>.inl h,GD _ _ _,λid _=>by rw[PT],λg hg=>.inl (wZ hg)⟩,trivial⟩
 .split at he
  .rename_i cs
   obtain⟨⟨y,s1⟩,h1,rfl⟩:=AL.1 he;obtain⟨GA,BO,hg⟩:=ha;injection BO with BO;subst BO;obtain⟨U',F',t,en,ey⟩:=Y3b h hg (λg hg=>.inl hg) (e:=0) (by omega) Y4 h1;subst ey;exact⟨U',F',⟨t.rel.put hp en,t.ext,t.C4,by rw[GD];exact t.ep,λid Zt=>by rw[PT];exact t.heap id Zt,λg hg=>t.AJ g (wZ hg)⟩,λw' ok'=>en.PX⟩
  .cases he
 .split at he
  .cases he
  .obtain⟨⟨y,s1⟩,h1,rfl⟩:=AL.1 he
   obtain⟨U',F',h2,h3⟩:=fin ha.2 h1;exact⟨U',F',h2,trivial⟩
 .split at he
  .cases he
  .obtain⟨⟨y,s1⟩,h1,rfl⟩:=AL.1 he
   obtain⟨U',F',h2,h3⟩:=fin ha.2 h1;refine⟨U',F',h2,?_⟩;unfold Pl;simp only;split
   .rename_i cs
    obtain⟨us,rfl,GB⟩:=ha.2;refine⟨us,rfl,by have:=GB.length;simpa using this,λj v e rows hv hc w' ok'=>?_⟩;simp only[St.Bb] at h1;split at h1
    .obtain⟨⟨ys,s2⟩,h4,he⟩:=AL.1 h1
     simp only[A6] at he;rw[<-he.1] at h3;cases h3 with
     | agg hl Cm hr=>exact (hr j v _ hv (Yqw h4 j e rows hc)).NZ
    .cases h1
   .rename_i Yg
    rintro e rows rfl w' ok';simp only[St.Bb,St.AS,AB,A6] at h1;rw[<-h1.1] at h3;exact h3.NZ
theorem Y5b:∀(xs:List V) {us:List Value} {p:Nat} {ms:List Yu} {s s':St} {U:AX} {F:Id->List Nat} {G:List Nat},Jn P B io w tmps s U F (G++fl) ok->NW P w ok io ms us xs G->(∀(j:Nat) (u:Value),us[j]?=some u->tmps[p+j]?=some u)->s.ep=0->
  (∀j,64*p<=j->j < 64000->U (0,j)=none/\s.heap (0,j)=none)->s.enters p ms xs=some s'->∃U' F',PY P B io w tmps s U fl ok (64*p) 64000 s' U' F'/\Oa U' p ms us xs:=by
 intro xs
 induction xs with
 | nil=>
  intro us p ms s s' U F G h ha ht Yk Y4 he;cases ha;simp only[St.enters,AB] at he;subst he;exact⟨U,F,⟨h,λ_ _ h=>h,λ_ h=>.inl h,rfl,λ_ _=>rfl,λ_ h=>.inl h⟩,.nil⟩
 | cons x xs ih=>
  intro us p ms s s' U F G h ha ht Yk Y4 he;cases ha with
  | @cons _ u us _ _ f1 f2 h1 hs=>
   simp only[St.enters] at he;obtain⟨s1,e1,he⟩:=A8.1 he;have hp:p < 1000:=by
    unfold St.enter at e1;split at e1
    .assumption
    .cases e1
   obtain⟨U1,F1,c1,p1⟩:=Y76 (fl:=f2++fl) (by rw[<-List.append_assoc];exact h) h1 (by simpa using ht 0 u rfl) Yk (λj h1 h2=>Y4 j h1 (by omega)) e1;obtain⟨U2,F2,c2,p2⟩:=ih c1.rel hs (λj v hv=>by have:=ht (j+1) v (by simpa using hv);rw[show p+1+j=p+(j+1) by omega];exact this) (by rw[c1.ep];exact Yk) (λj h1 h2=>by
    obtain⟨a1,a2⟩:=Y4 j (by omega) h2;refine⟨?_,by rw[c1.heap _ (λhh=>by have:=hh.2.2;simp only at this;omega)];exact a2⟩;cases hr:U1 (0,j) with
    | none=>rfl
    | some i=>
     rcases c1.C4 (0,j) (by rw[hr];rfl) with hh|hh
     .rw[a1] at hh;cases hh
     .have:=hh.2.2;simp only at this;omega) he
   refine⟨U2,F2,⟨c2.rel,λid i hi=>c2.ext id i (c1.ext id i hi),λid hi=>?_,c2.ep.trans c1.ep,λid Zt=>?_,λg hg=>?_⟩,.cons (p1.ext c2.ext) p2⟩
   .rcases c2.C4 id hi with h3|h3
    .rcases c1.C4 id h3 with h4|h4
     .exact .inl h4
     .exact .inr ⟨h4.1,h4.2.1,by omega⟩
    .exact .inr ⟨h3.1,by omega,h3.2.2⟩
   .rw[c2.heap id (λhh=>Zt ⟨hh.1,by omega,hh.2.2⟩)]
    exact c1.heap id (λhh=>Zt ⟨hh.1,hh.2.1,by omega⟩)
   .rcases c2.AJ g hg with h3|h3
    .exact c1.AJ g h3
    .exact .inr h3
end
inductive Gk (P:Program) (w:World) (ok top:Nat->Prop):List Value->List V->List Nat->Prop
 | nil:Gk P w ok top [] [] []
 | cons {v:Value} {x:V} {vs:List Value} {xs:List V} {f1 f2:List Nat} (h:Dz P w ok top v x f1) (hs:Gk P w ok top vs xs f2):Gk P w ok top (v::vs) (x::xs) (f1++f2)
theorem Gk.top {P:Program} {w:World} {ok top top':Nat->Prop} {v:List Value} {x:List V} {fp:List Nat} (h:Gk P w ok top v x fp) (ht:∀g,top g->top' g):Gk P w ok top' v x fp:=by
 induction h with
 | nil=>exact .nil
 | cons h _ ih=>exact .cons (h.top ht) ih
inductive Ho (P:Program) (w:World) (top:Nat->Prop):List Value->List V->List V->List Nat->Prop
 | nil:Ho P w top [] [] [] []
 | own {u:Value} {e:TypeId} {rows Bt:List (List V)} {us:List Value} {xs ns:List V} {f1 f2:List Nat} (h:NG P w e u Bt f1) (ht:∀g,f1.head?=some g->top g) (hs:Ho P w top us xs ns f2):Ho P w top (u::us) (.own e rows::xs) (.own e Bt::ns) (f1++f2)
 | skip {u:Value} {x:V} {us:List Value} {xs ns:List V} {f:List Nat} (hx:∀e rows,x≠.own e rows) (hs:Ho P w top us xs ns f):Ho P w top (u::us) (x::xs) (.undef::ns) f
theorem Ho.top {P:Program} {w:World} {top top':Nat->Prop} {us:List Value} {xs ns:List V} {fp:List Nat} (h:Ho P w top us xs ns fp) (ht:∀g,top g->top' g):Ho P w top' us xs ns fp:=by
 induction h with
 | nil=>exact .nil
 | own h k _ ih=>exact .own h (λg hg=>ht g (k g hg)) ih
 | skip h _ ih=>exact .skip h ih
def Mu (P:Program) (w:World) (ok top:Nat->Prop) (m:Yu) (u:Value) (x o:V) (fp:List Nat):Prop:=
 match m with
 | .rd|.mv=>fp=[]
 | .io=>∃cs GA,x=.agg cs/\o=.agg GA/\GA.length=cs.length/\IF P w ok top u GA fp
 | .Ey=>(∃(us:Array Value) (cs ns:List V),x=.agg cs/\u=.agg us/\o=.agg ns/\Ho P w top us.toList cs ns fp)\/((∀cs,x≠.agg cs)/\Ho P w top [u] [x] [o] fp)
theorem Mu.top {P:Program} {w:World} {ok top top':Nat->Prop} {m:Yu} {u:Value} {x o:V} {fp:List Nat} (h:Mu P w ok top m u x o fp) (ht:∀g,top g->top' g):Mu P w ok top' m u x o fp:=by
 cases m
 .exact h
 .obtain⟨cs,GA,h1,h2,h3,h4⟩:=h;exact⟨cs,GA,h1,h2,h3,h4.top ht⟩
 .exact h
 .rcases h with⟨us,cs,ns,h1,h2,h3,h4⟩|⟨h1,h2⟩
  .exact .inl ⟨us,cs,ns,h1,h2,h3,h4.top ht⟩
  .exact .inr ⟨h1,h2.top ht⟩
inductive Ft (P:Program) (w:World) (ok top:Nat->Prop):List Yu->List Value->List V->List V->List Nat->Prop
 | nil {ms:List Yu}:Ft P w ok top ms [] [] [] []
 | cons {ms:List Yu} {u:Value} {us:List Value} {x o:V} {xs os:List V} {f1 f2:List Nat} (h:Mu P w ok top (ms.headD .rd) u x o f1) (hs:Ft P w ok top ms.tail us xs os f2):Ft P w ok top ms (u::us) (x::xs) (o::os) (f1++f2)
theorem Ft.top {P:Program} {w:World} {ok top top':Nat->Prop} {ms:List Yu} {us:List Value} {xs os:List V} {fp:List Nat} (h:Ft P w ok top ms us xs os fp) (ht:∀g,top g->top' g):Ft P w ok top' ms us xs os fp:=by
 induction h with
 | nil=>exact .nil
 | cons h _ ih=>exact .cons (h.top ht) ih
section
variable {P:Program} {B:Nat} {io:Nat->Prop} {w w':World} {tmps:Array Value} {s s':St} {U U':AX} {F F':Id->List Nat} {fl fl':List Nat} {ok ok':Nat->Prop}
theorem Y23 (h0:Rel P B io w tmps s U F fl) {s1 s2:St} {fl1:List Nat} (h:Rel P B io w tmps s1 U F fl1) (J4:Wg s s1) {ts:List (Option TypeId)} {u:Value} {x y:V} (hu:En w (AG s U w) U u x) (hl:s1.BD ts x=some (y,s2)):
  ∃fp,Rel P B io w tmps s2 U F (fp++fl1)/\Dz P w (AG s U w) (DB s1 s2 U F) u y fp/\Wg s1 s2:=by
 have Yf:∀g,AG s U w g->AG s1 U w g:=λg hg=>PO J4 hg;unfold St.BD at hl;split at hl
 .rename_i cs
  exact wG h hu Yf (show s1.Ba ts (.agg cs)=some (y,s2) from hl)
 .rename_i id
  obtain⟨⟨cs,s4⟩,h3,he⟩:=AL.1 hl;simp only[A6] at he;obtain⟨rfl,rfl⟩:=he;obtain⟨fp,a,b,c,_⟩:=Ykb h hu Yf (h0.CJ.less J4 id) h3;exact⟨fp,a,b,c⟩
 .obtain⟨fp,a,b,c⟩:=iT h hu Yf hl
  refine⟨fp,a,?_,c⟩;cases b with
  | lit h=>exact .lit h
  | tr h=>exact .tr h
  | own h k=>exact .own h k
theorem Y19 (h0:Rel P B io w tmps s U F fl):∀(xs:List V) {us:List Value} {ts:List TypeId} {s1 s2:St} {fl1:List Nat} {ys:List V},Rel P B io w tmps s1 U F fl1->Wg s s1->us.length=xs.length->
  (∀(j:Nat) (u:Value) (x:V),us[j]?=some u->xs[j]?=some x->En w (AG s U w) U u x)->s1.liftAll P ts xs=some (ys,s2)->∃fp,Rel P B io w tmps s2 U F (fp++fl1)/\Gk P w (AG s U w) (DB s1 s2 U F) us ys fp/\Wg s1 s2:=by
 intro xs
 induction xs with
 | nil=>
  intro us ts s1 s2 fl1 ys h J4 hl X7 hg;have:us=[]:=Gz (by simpa using hl);subst this;simp only[St.liftAll,AB,A6] at hg;obtain⟨rfl,rfl⟩:=hg;exact⟨[],h,.nil,.refl _⟩
 | cons x xs ih=>
  intro us ts s1 s2 fl1 ys h J4 hl X7 hg
  match us,hl with
  | u::us,hl=>
   simp only[St.liftAll] at hg;obtain⟨⟨y,s3⟩,h1,hg⟩:=A8.1 hg;obtain⟨⟨zs,s4⟩,h2,hg⟩:=AL.1 hg;simp only[A6] at hg;obtain⟨rfl,rfl⟩:=hg;simp only at h2;obtain⟨f1,r1,a1,l1⟩:=Y23 h0 h J4 (X7 0 u x rfl rfl) h1;obtain⟨f2,r2,a2,l2⟩:=ih r1 (J4.trans l1) (by simpa using hl) (λj v z hv hz=>X7 (j+1) v z (by simpa using hv) (by simpa using hz)) h2;refine⟨f1++f2,r2.perm ?_,.cons (a1.top λg hg=>hg.left l2) (a2.top λg hg=>hg.right l1),l1.trans l2⟩;rw[List.append_assoc];exact (Ph _ _ _)
theorem Ygi {p:Nat}:∀(xs:List V) {us:List Value} {k:Nat} {s1 s2:St} {fl1:List Nat} {ys:List V},Rel P B io w tmps s1 U F fl1->us.length=xs.length->
  (∀(j:Nat) (v:Value) (e:TypeId) (rows:List (List V)),us[j]?=some v->xs[j]?=some (.own e rows)->∀w ok,En w ok U v (.sl (0,64*p+(k+j)) 0 rows.length))->s1.AY p k xs=some (ys,s2)->
  ∃fp,Rel P B io w tmps s2 U F (fp++fl1)/\Ho P w (DB s1 s2 U F) us xs ys fp/\Wg s1 s2:=by
 intro xs
 induction xs with
 | nil=>
  intro us k s1 s2 fl1 ys h hl X7 hg;have:us=[]:=Gz (by simpa using hl);subst this;simp only[St.AY,AB,A6] at hg;obtain⟨rfl,rfl⟩:=hg;exact⟨[],h,.nil,.refl _⟩
 | cons x xs ih=>
  intro us k s1 s2 fl1 ys h hl X7 hg
  match us,hl with
  | u::us,hl=>
   have Mg:∀(j:Nat) (v:Value) (e:TypeId) (rows:List (List V)),us[j]?=some v->xs[j]?=some (.own e rows)->∀w ok,En w ok U v (.sl (0,64*p+(k+1+j)) 0 rows.length):=λj v e rows hv hx w' ok'=>by
    have:=X7 (j+1) v e rows (by simpa using hv) (by simpa using hx) w' ok';rw[show k+1+j=k+(j+1) by omega];exact this
   unfold St.AY at hg;split at hg
   .rename_i heq;cases heq
   .rename_i heq
    injection heq with e1 e2;subst e1;subst e2;obtain⟨⟨e',Bt⟩,hw,hg⟩:=A8.1 hg;simp only at hg;split at hg
    .rename_i hee
     obtain⟨⟨zs,s3⟩,h2,he⟩:=AL.1 hg;simp only[A6] at he;obtain⟨rfl,rfl⟩:=he;subst hee;have hu:=X7 0 u _ _ rfl rfl w (AG s1 U w);obtain⟨f1,r1,o1,hh⟩:=h.Gc (by simpa using hu) hw;obtain⟨f2,r2,a2,l2⟩:=ih r1 (by simpa using hl) Mg h2;refine⟨f1++f2,r2.perm ?_,.own o1 (λg hg=>?_) (a2.top λg hg=>hg.right (.kill s1 _)),(Wg.kill s1 _).trans l2⟩
     .rw[List.append_assoc]
      exact (Ph _ _ _)
     .unfold St.whole at hw
      obtain⟨b,hb,hw⟩:=A8.1 hw;split at hw
      .rename_i hc
       exact⟨_,b,hb,hc.2.1,l2.none Ka,(hh g hg).1,(hh g hg).2⟩
      .cases hw
    .cases hg
   .rename_i Yg heq
    injection heq with e1 e2;subst e1;subst e2;obtain⟨⟨zs,s3⟩,h2,he⟩:=AL.1 hg;simp only[A6] at he;obtain⟨rfl,rfl⟩:=he;obtain⟨f2,r2,a2,l2⟩:=ih h (by simpa using hl) Mg h2;exact⟨f2,r2,.skip (λe rows hx=>Yg e rows hx) a2,l2⟩
theorem Xb8 {D:Id->Prop} (h0:Rel P B io w tmps s U F fl):∀(xs:List V) {us:List Value} {p:Nat} {ts:List TypeId} {ms:List Yu} {sa s1:St} {fl1:List Nat} {ys:List V},Rel P B io w tmps s1 U F fl1->Wg s s1->Oa U p ms us xs->
  Ext D sa s1->sa.outs P p ts ms xs=some ys->s1.outs P p ts ms xs=some ys->∃s2 fp,(∀id,D id->s2.heap id=s1.heap id)/\Rel P B io w tmps s2 U F (fp++fl1)/\Ft P w (AG s U w) (DB s1 s2 U F) ms us xs ys fp/\Wg s1 s2:=by
 intro xs
 induction xs with
 | nil=>
  intro us p ts ms sa s1 fl1 ys h J4 NT hx XE hg;cases NT;simp only[St.outs,AB] at hg;subst hg;exact⟨s1,[],λ_ _=>rfl,h,.nil,.refl _⟩
 | cons x xs ih=>
  intro us p ts ms sa s1 fl1 ys h J4 NT hx XE hg;cases NT with
  | @cons _ _ u us _ _ hp Tr=>
   simp only[St.outs] at hg XE;obtain⟨⟨y,s3⟩,h1,hg⟩:=A8.1 hg;obtain⟨zs,h2,rfl⟩:=AL.1 hg;obtain⟨⟨ya,sa3⟩,CV,XE⟩:=A8.1 XE;obtain⟨zsa,DM,Dy⟩:=AL.1 XE;simp only at h2 DM;injection Dy with w7 Dy;have w7:=w7.symm;have Dy:=Dy.symm;subst w7;subst Dy;obtain⟨s3',k1,k2⟩:=hx.IM CV;rw[h1] at k1;simp only[AB,A6,true_and] at k1;subst k1;have Yf:∀g,AG s U w g->AG s1 U w g:=λg hg=>PO J4 hg;have one:∃fp,Rel P B io w tmps s3 U F (fp++fl1)/\Mu P w (AG s U w) (DB s1 s3 U F) (ms.headD .rd) u x y fp/\Wg s1 s3:=by
    unfold St.out at h1;split at h1
    .rename_i hm
     simp only[AB,A6] at h1;obtain⟨rfl,rfl⟩:=h1;rw[hm];exact⟨[],h,rfl,.refl _⟩
    .rename_i hm
     simp only[AB,A6] at h1;obtain⟨rfl,rfl⟩:=h1;rw[hm];exact⟨[],h,rfl,.refl _⟩
    .rename_i hm
     rw[hm] at hp ⊢;split at h1
     .rename_i cs
      obtain⟨⟨GA,s4⟩,h3,h1⟩:=A8.1 h1;simp only at h1;split at h1
      .rename_i Yo
       simp only[AB,A6] at h1;obtain⟨rfl,rfl⟩:=h1;obtain⟨fp,a,b,c,_⟩:=Ygt h (hp w (AG s U w)) Yf (h0.CJ.less J4) h3;exact⟨fp,a,⟨cs,GA,rfl,rfl,Yo,b⟩,c⟩
      .cases h1
     .cases h1
    .rename_i hm
     rw[hm] at hp ⊢;unfold Pl at hp;simp only at hp;split at h1
     .rename_i cs
      obtain⟨⟨ns,s4⟩,h3,he⟩:=AL.1 h1;simp only[A6] at he;obtain⟨rfl,rfl⟩:=he;obtain⟨vs,rfl,Ww,X7⟩:=hp;obtain⟨fp,a,b,c⟩:=Ygi (p:=p) cs (us:=vs.toList) (k:=0) h (by simpa using Ww) (λj v e rows hv hc w' ok'=>by
       have:=X7 j v e rows (by simpa using hv) hc w' ok';rw[Pq];exact this) h3
      exact⟨fp,a,.inl ⟨vs,cs,ns,rfl,rfl,rfl,b⟩,c⟩
     .rename_i Yg
      obtain⟨⟨ns,s4⟩,h3,h1⟩:=A8.1 h1;obtain⟨z,hz,he⟩:=AL.1 h1;simp only[A6] at he;obtain⟨rfl,rfl⟩:=he;split at hp
      .rename_i cs;exact absurd rfl (Yg cs)
      .obtain⟨fp,a,b,c⟩:=Ygi (p:=p) [x] (us:=[u]) (k:=0) h rfl (λj v e rows hv hc w' ok'=>by
        cases j with
        | zero=>
         have e1:u=v:=by simpa using hv
         have e2:x=.own e rows:=by simpa using hc
         subst e1;have:=hp e rows e2 w' ok';simpa using this
        | succ j=>simp at hc) h3
       have PZ:ns=[z]:=by
        cases b with
        | own _ _ hs=>cases hs;simp at hz;rw[hz]
        | skip _ hs=>cases hs;simp at hz;rw[hz]
       subst PZ;exact⟨fp,a,.inr ⟨Yg,b⟩,c⟩
   obtain⟨f1,r1,a1,l1⟩:=one;obtain⟨s5,f2,d2,r2,a2,l2⟩:=ih r1 (J4.trans l1) Tr k2.1 DM h2;refine⟨s5,f1++f2,λid hd=>(d2 id hd).trans (k2.2.1 id hd),r2.perm ?_,.cons (a1.top λg hg=>hg.left l2) (a2.top λg hg=>hg.right l1),l1.trans l2⟩;rw[List.append_assoc];exact (Ph _ _ _)
theorem Yxl {t:TypeId} {g n:Nat} {us:List Value} {cs:List V} {v:V} (hl:us.length=Z4 P t) (W8:us.length=cs.length) (G5:∀x∈cs,AD x=true)
  (hc:∀j u,us[j]?=some u->w.cell? ⟨g,n+j,none⟩=some u) (he:KO P t cs=some v) (X7:∀(j:Nat) (u:Value) (x:V),us[j]?=some u->cs[j]?=some x->En w (AG s U w) U u x):
  ∃u,(loadVar t ⟨g,n,none⟩).run P w=.ok u w/\En w (AG s U w) U u v:=by
 unfold KO at he;split at he
 .rename_i VA
  obtain⟨d,hu⟩:=EY.1 VA;split at he
  .rename_i Pw
   simp only[AB] at he;subst he;obtain⟨ti,CM⟩:∃ti,P.info? t=some ti:=by
    unfold Program.underlying at hu;split at hu
    .rename_i h;exact⟨_,h⟩
    .rename_i h;exact⟨_,h⟩
    .cases hu
   have Ww:ti.size=us.length:=by rw[hl];simp[Z4,Program.cellsOf,CM]
   have Xt:=run_loadCells_list (P:=P) (w:=w) ⟨g,n,none⟩ us (λj u hj=>by rw[HK];exact hc j u hj);rw[<-Ww] at Xt;refine⟨.agg us.toArray,?_,(.agg (by simpa using W8) G5 (λj u x hj hx=>X7 j u x (by simpa using hj) hx))⟩;cases d<;>simp[HH,hu] at Pw<;>simp[loadVar,isAgg,underlying,hu,Go.sizeOf,typeInfo,CM,Xt]
  .rename_i Pw
   split at he
   .rename_i y
    simp only[AB] at he;subst he
    match us,W8 with
    | [u],_=>
     refine⟨u,?_,X7 0 u y rfl rfl⟩;have h0:=hc 0 u rfl;simp only[He] at h0;cases d<;>simp[HH,hu] at Pw<;>simp[loadVar,isAgg,underlying,hu,load,Sem.run,h0]
   .cases he
 .cases he
def QA (tmps:Array Value):ResultVar->Sem Value
 | .tmp t=>pure (tmps.getD t undef)
 | .cell a t=>do loadVar t (<-asAddr (tmps.getD a undef))
theorem Xaw (h:Rel P B io w tmps s U F fl):∀(l:List ResultVar) {vs:List V},G3 P s l=some vs->∃us:List Value,us.length=vs.length/\
  (l.mapM (QA tmps)).run P w=.ok us w/\∀(j:Nat) (u:Value) (x:V),us[j]?=some u->vs[j]?=some x->En w (AG s U w) U u x:=by
 intro l
 induction l with
 | nil=>
  intro vs hr;simp only[G3,AB] at hr;subst hr;exact⟨[],rfl,by simp,λj u x hu=>by simp at hu⟩
 | cons r l ih=>
  intro vs hr;have tm:∀t,s.env t≠.undef->t < tmps.size:=λt Yg=>by
   rcases KN t tmps.size with h'|h'
   .exact h'
   .exact absurd (h.out t h') Yg
  have fin:∀{u:Value} {x:V} {ys:List V},(QA tmps r).run P w=.ok u w->En w (AG s U w) U u x->G3 P s l=some ys->x::ys=vs->
    ∃us:List Value,us.length=vs.length/\((r::l).mapM (QA tmps)).run P w=.ok us w/\∀(j:Nat) (u:Value) (x:V),us[j]?=some u->vs[j]?=some x->En w (AG s U w) U u x:=by
   rintro u x ys Xt X7 C6 rfl;obtain⟨us,h1,h2,h3⟩:=ih C6;refine⟨u::us,by simp[h1],?_,λj v z hv hz=>?_⟩
   .rw[List.mapM_cons]
    simp only[Sem.run_bind,Xt,h2,Result.andThen_ok,Sem.run_pure]
   .cases j with
    | zero=>
     have e1:u=v:=by simpa using hv
     have e2:x=z:=by simpa using hz
     subst e1;subst e2;exact X7
    | succ j=>exact h3 j v z (by simpa using hv) (by simpa using hz)
  cases r with
  | tmp t=>
   simp only[G3] at hr;split at hr
   .cases hr
   .rename_i Yg
    obtain⟨ys,h1,h2⟩:=AL.1 hr;have Z7:=tm t Yg;have hv:tmps[t]?=some tmps[t]:=Var Z7;exact fin (u:=tmps.getD t undef) (by simp[QA]) (by rw[Pg,hv];exact h.env t _ hv) h1 h2
  | cell ad t=>
   simp only[G3] at hr;split at hr
   .rename_i i j n hx
    obtain⟨b,hb,hr⟩:=A8.1 hr;obtain⟨row,Xg,hr⟩:=A8.1 hr;split at hr
    .rename_i Yo
     obtain⟨x,hxe,hr⟩:=A8.1 hr;obtain⟨ys,h1,h2⟩:=AL.1 hr;have Z7:=tm ad (by rw[hx];simp);have hv:tmps[ad]?=some tmps[ad]:=Var Z7;have X7:=h.env ad _ hv;rw[hx] at X7;generalize hq:tmps[ad]=q at X7 hv;generalize hpp:V.ptr i j n=pp at X7;cases X7<;>cases hpp;rename_i g o' c sz hU;have cell:∀(m:Nat) (y:V),row[m]?=some y->∃u,w.cell? ⟨g,o'+j*sz+m,none⟩=some u/\En w (AG s U w) U u y/\AD y=true:=λm y hy=>by
      obtain⟨u,k1,k2,k3⟩:=h.cell hb hU Xg hy;cases Xl:b.box with
      | true=>exact⟨u,k1,k2 Xl,h.Fh hb Xl Xg y (Eh hy)⟩
      | false=>exact⟨u,k1,(k3 Xl).en,(k3 Xl).AD⟩
     have each:∀m,∃u:Value,∀y,row[m]?=some y->w.cell? ⟨g,o'+j*sz+m,none⟩=some u/\En w (AG s U w) U u y:=λm=>by
      cases hm:row[m]? with
      | none=>exact⟨undef,λy hy=>by cases hy⟩
      | some z=>
       obtain⟨u,k1,k2,_⟩:=cell m z hm;exact⟨u,λy hy=>by injection hy with hy;subst hy;exact⟨k1,k2⟩⟩
     obtain⟨uf,NH⟩:=tY each;obtain⟨u,Xt,hue⟩:=Yxl (P:=P) (s:=s) (U:=U) (w:=w) (t:=t) (g:=g) (n:=o'+j*sz+n) (us:=(List.range (Z4 P t)).map λm=>uf (n+m)) (cs:=(row.drop n).take (Z4 P t)) (by simp) (by simp;omega) (λx hx=>by
      obtain⟨m,hm⟩:=HF hx;rw[Dg] at hm;split at hm
      .rw[D7] at hm
       obtain⟨_,_,_,k4⟩:=cell _ x hm;exact k4
      .cases hm) (λm u hm=>by
      simp only[Dt,AL] at hm;obtain⟨m',DA,rfl⟩:=hm;obtain⟨jC,rfl⟩:=CZ.1 DA;simp only[uJ,uG] at jC ⊢;rw[Nat.add_assoc];exact (NH (n+m) _ (CB (by omega))).1) hxe (λm u y hm hy=>by
      simp only[Dt,AL] at hm;obtain⟨m',DA,rfl⟩:=hm;obtain⟨jC,rfl⟩:=CZ.1 DA;simp only[uJ,uG] at jC ⊢;rw[Dg,Aj jC,D7] at hy;exact (NH (n+m) y hy).2)
     refine fin (u:=u) ?_ hue h1 h2;simp only[QA,Sem.run_bind];rw[Pg,hv];simp[asAddr,Xt]
    .cases hr
   .cases hr
end
def Fu (P:Program) (w:World) (ok top:Nat->Prop) (v:Value):V->List Nat->Prop
 | .AZ rs,fp=>∃us:Array Value,v=.tuple us/\Gk P w ok top us.toList rs fp
 | x,fp=>Dz P w ok top v x fp
structure QB (P:Program) (ms:List Yu) (w:World) (us:Array Value) (xs:List V) (G:List Nat) (T X:Nat->Prop) (r:V) (os:List V) (v:Value) (w':World):Prop where
 left:J5 w.heap.size T w w'
 ex:∃(ok' top':Nat->Prop) (fr fo:List Nat),Fu P w' ok' top' v r fr/\Ft P w' ok' top' ms us.toList xs os fo/\(fr++fo).Nodup/\(∀g∈fr++fo,g < w'.heap.size/\(g∈G\/w.heap.size<=g))/\(∀g,top' g->T g\/w.heap.size<=g)/\(∀g,ok' g->g < w'.heap.size/\¬top' g/\¬X g)
def Ob (P:Program) (ms:List Yu) (f:FuncId) (xs:List V) (r:V) (os:List V):Prop:=
 ∀(w:World) (us:Array Value) (G:List Nat) (T X ok:Nat->Prop),Md w T->NW P w ok T ms us.toList xs G->G.Nodup->(∀g∈G,g < w.heap.size/\¬X g)->(∀g,ok g->g < w.heap.size/\¬T g/\¬X g)->
  (∀g,X g->∃cur e,w.heap[g]?=some (.cells cur e (0,0)))->Calls P f us w (λe w'=>∃v,e=.returned v/\QB P ms w us xs G T X r os v w')
def Mv (b:Nat) (id:Id):Prop:=id.1=0/\b<=id.2
def Lj (w:World) (g:Nat):Bc:=match w.heap[g]? with|some (.cells _ e _)=>⟨false,true,false,e,[]⟩|_=>⟨false,true,false,0,[]⟩
def XF (P:Program) (w:World) (g:Nat):G4:=match w.heap[g]? with|some (.cells cur e _)=>.Bl g cur.size 0 (P.cellsOf e)|_=>.emp
open Classical in
noncomputable def DD (b:Nat) (w:World) (X:Nat->Prop):St:=⟨λ_=>.undef,λid=>if id.1=0/\b<=id.2/\X (id.2 - b) then some (Lj w (id.2 - b)) else none,0⟩
open Classical in
noncomputable def CE (b:Nat) (P:Program) (w:World) (X:Nat->Prop):AX:=λid=>if id.1=0/\b<=id.2/\X (id.2 - b) then some (XF P w (id.2 - b)) else none
theorem QC (b:Nat) (w:World) (X:Nat->Prop):Qy (Mv b) ⟨λ_=>.undef,λ_=>none,0⟩ (DD b w X):=by
 refine⟨⟨rfl,λid Zt=>?_,λ_ _=>rfl⟩,rfl,λid bk hd hb=>?_⟩
 .simp only[DD]
  rw[Ak (λh=>Zt ⟨h.1,h.2.1⟩)]
 .simp only[DD] at hb
  split at hb
  .injection hb with hb
   subst hb;unfold Lj;split<;>rfl
  .cases hb
section
variable {P:Program} {M:X6} {C:Ki}
theorem QD {b:Nat} {w:World} {X T ok:Nat->Prop} {tmps:Array Value} {fl:List Nat} (hT:Md w T) (hX:∀g,X g->∃cur e,w.heap[g]?=some (.cells cur e (0,0))) (BM:∀g∈fl,g < w.heap.size/\¬X g) (Cu:fl.Nodup):
  Jn P w.heap.size T w tmps (DD b w X) (CE b P w X) (λid=>[id.2 - b]) fl ok:=by
 have key:∀id k,(DD b w X).heap id=some k->id.1=0/\b<=id.2/\X (id.2 - b)/\k=Lj w (id.2 - b):=λid k hb=>by
  simp only[DD] at hb;split at hb
  .rename_i h;injection hb with hb;exact⟨h.1,h.2.1,h.2.2,hb.symm⟩
  .cases hb
 have lt:∀g,X g->g < w.heap.size:=λg hg=>by
  obtain⟨cur,e,h⟩:=hX g hg;exact (HE.1 h).1
 refine⟨λt v hv=>.undef,λt ht=>rfl,λid k hb=>?_,λid k hb ho g hg=>?_,λid k hb ho hc g hg=>?_,λid Av k k' hb ho Yx BP Yg g hg Yc=>?_,λid k hb ho=>by simp,λid Zt=>?_,⟨B2 _,hT.1,hT.2.1,λg hg=>hg.elim (hT.2.2 g) (λhh=>LX hT.1 hh)⟩,λg hg=>(BM g hg).1,λid k hb ho g hg Yc=>?_,Cu⟩
 .obtain⟨h1,h2,h3,rfl⟩:=key id _ hb
  obtain⟨cur,e,h⟩:=hX _ h3;have hU:CE b P w X id=some (.Bl (id.2 - b) cur.size 0 (P.cellsOf e)):=by
   simp only[CE];rw[Aj ⟨h1,h2,h3⟩];simp only[XF,h]
  have DN:Lj w (id.2 - b)=⟨false,true,false,e,[]⟩:=by simp only[Lj,h]
  rw[hU,DN];exact .Cr rfl rfl rfl h (B2 _) (Cf _) (by simp) (by simp) rfl (λhf=>by cases hf) (λ_=>⟨rfl,λk x hx=>by simp at hx⟩)
 .obtain⟨h1,h2,h3,rfl⟩:=key id _ hb
  rw[List.mem_singleton.1 hg];exact lt _ h3
 .obtain⟨h1,h2,h3,rfl⟩:=key id _ hb
  obtain⟨cur,e,h⟩:=hX _ h3;obtain⟨g1,o1,c1,z1,hi,hc⟩:=hc;simp only[CE] at hi;rw[Aj ⟨h1,h2,h3⟩] at hi;simp only[XF,h] at hi;injection hi with hi;injection hi with _ _ hi _;omega
 .obtain⟨h1,h2,h3,_⟩:=key id _ hb
  obtain⟨Lh,P3,h3',_⟩:=key Av _ Yx;have e1:=List.mem_singleton.1 hg;have e2:=List.mem_singleton.1 Yc;apply Yg;obtain⟨i1,i2⟩:=id;obtain⟨j1,j2⟩:=Av;simp only at*;rw[h1,Lh,show i2=j2 by omega]
 .simp only[CE] at Zt
  split at Zt
  .rename_i h;simp only[DD];omega
  .simp at Zt
 .obtain⟨h1,h2,h3,rfl⟩:=key id _ hb
  rw[List.mem_singleton.1 hg] at Yc;exact (BM _ Yc).2 h3
structure Wb (P:Program):Prop where
 mixed:P.follows .mixedOrders=true
 dst:∀(f:FuncId) (fn:Func) (c:Code),P.funcs[f]?=some fn->fn.body=some c->EJ fn.ntmps c=true
 name:∀(f:FuncId) (fn:Func),P.funcs[f]?=some fn->(fn.name == "runtime.NumGoroutine")=false
def Yv3:List Value->Value
 | [u]=>u
 | l=>.tuple l.toArray
theorem Yzr {fn:Func} {tmps:Array Value} {w:World} {us:List Value} (h:(fn.results.toList.mapM (QA tmps)).run P w=.ok us w):
  (results fn tmps).run P w=.ok (Yv3 us) w:=by
 have e:results fn tmps=(fn.results.mapM (QA tmps)) >>=λvs=>pure (if h:vs.size=1 then vs[0] else .tuple vs):=by
  unfold results
  congr 1
 rw[e,Array.mapM_eq_mapM_toList];simp only[Sem.run_bind,Sem.run_map,h,Result.andThen_ok,Sem.run_pure]
 match us with
 | []=>rfl
 | [u]=>rfl
 | u::v::l=>rfl
theorem Y5l {n m:Nat} (h:n<=m) {l:List Oper} (hl:Ms n l=true):Ms m l=true:=by
 unfold Ms at hl ⊢;rw[Cd] at hl ⊢;intro o ho;have:=hl o ho;cases hd:o.dst with
 | none=>rfl
 | some d=>
  rw[hd] at this;simp only[Bj] at this ⊢;exact Hc this h
theorem Y2w {n m:Nat} (h:n<=m):∀(c:Code),EJ n c=true->EJ m c=true:=by
 intro c
 induction c with
 | region id ops d=>exact Y5l h
 | seq a b xA xB=>intro hc;simp only[EJ,Bg] at hc ⊢;exact⟨xA hc.1,xB hc.2⟩
 | cond x a b xA xB=>intro hc;simp only[EJ,Bg] at hc ⊢;exact⟨xA hc.1,xB hc.2⟩
 | block i c ih=>intro hc;simp only[EJ] at hc ⊢;exact ih hc
 | loop c ih=>intro hc;simp only[EJ] at hc ⊢;exact ih hc
 | _=>intro _;rfl
theorem Gk.C2 {w:World} {ok ok' top:Nat->Prop} {v:List Value} {x:List V} {fp:List Nat} (h:Gk P w ok top v x fp) (ht:∀g,ok g->ok' g):Gk P w ok' top v x fp:=by
 induction h with
 | nil=>exact .nil
 | cons h _ ih=>exact .cons (h.C2 ht) ih
theorem Dz.QE {w:World} {ok top:Nat->Prop} {u:Value} {x:V} {fp:List Nat} (h:Dz P w ok top u x fp):∀rs,x≠.AZ rs:=by
 rintro rs rfl;cases h
theorem Fu.of {w:World} {ok top:Nat->Prop} {us:List Value} {ys:List V} {fp:List Nat} (h:Gk P w ok top us ys fp):Fu P w ok top (Yv3 us) (V1 ys) fp:=by
 cases h with
 | nil=>exact⟨#[],rfl,.nil⟩
 | @cons u x us xs f1 f2 h hs=>
  cases hs with
  | nil=>
   rw[Gb];have:=h.QE;cases x<;>first|exact h|exact absurd rfl (this _)
  | @cons v y Mw xs' f3 f4 h2 DX=>exact⟨(u::v::Mw).toArray,rfl,.cons h (.cons h2 DX)⟩
end
def QF (P:Program) (U:AX) (u:Value) (x y:V):Prop:=∀id len,x=.sl id 0 len->∃g o c e rows,y=.own e rows/\U id=some (.Bl g o c (P.cellsOf e))/\u=.slice (some ⟨g,o,none⟩) len c/\0 < len
def Bk (P:Program) (U:AX) (m:Yu) (u:Value) (x y:V):Prop:=
 match m with
 | .io=>∀id,x=.ptr id 0 0->∃cs g,y=.agg cs/\U id=some (.Bl g 0 1 cs.length)/\u=.pointer (some ⟨g,0,none⟩)
 | .Ey=>(∃(us:Array Value) (xs ys:List V),thin x=.agg xs/\y=.agg ys/\u=.agg us/\us.size=xs.length/\ys.length=xs.length/\∀(j:Nat) (v:Value) (a b:V),us[j]?=some v->xs[j]?=some a->ys[j]?=some b->QF P U v a b)\/((∀cs,thin x≠.agg cs)/\(∀cs,y≠.agg cs)/\QF P U u (thin x) y)
 | _=>True
inductive Mx (P:Program) (U:AX):List Yu->List Value->List V->List V->Prop
 | nil {ms:List Yu}:Mx P U ms [] [] []
 | cons {ms:List Yu} {u:Value} {us:List Value} {x y:V} {xs ys:List V} (h:Bk P U (ms.headD .rd) u x y) (hs:Mx P U ms.tail us xs ys):Mx P U ms (u::us) (x::xs) (y::ys)
def Ed:V->List Id
 | .sl id 0 _=>[id]
 | _=>[]
def QG:V->List Id
 | .agg cs=>cs.flatMap Ed
 | x=>Ed x
def GH (m:Yu) (x:V):List Id:=match m with
 | .io=>match x with|.ptr id 0 0=>[id]|_=>[]
 | .Ey=>QG (thin x)
 | _=>[]
def EL:List Yu->List V->List Id
 | _,[]=>[]
 | ms,x::r=>GH (ms.headD .rd) x++EL ms.tail r
section
variable {P:Program} {B:Nat} {io:Nat->Prop} {w w':World} {tmps:Array Value} {s s' s1:St} {U U':AX} {F F':Id->List Nat} {fl fl':List Nat} {ok ok' top:Nat->Prop}
theorem Yte {t:Option TypeId} {x y:V} (h:s.A9 t x=some (y,s')):(Ed x).Nodup/\∀id∈Ed x,s'.heap id=none/\∃b,s.heap id=some b:=by
 unfold Ed;split
 .rename_i id len
  refine⟨by simp,λAv Zt=>?_⟩;rw[List.mem_singleton.1 Zt];simp only[St.A9] at h;obtain⟨er,hw,he⟩:=AL.1 h;simp only[A6] at he;obtain⟨_,rfl⟩:=he;unfold St.whole at hw;obtain⟨b,hb,_⟩:=A8.1 hw;exact⟨Ka,b,hb⟩
 .exact⟨by simp,λid Zt=>by simp at Zt⟩
theorem XG {t:Option TypeId} {x y:V} (h:s.A9 t x=some (y,s')):Wg s s':=by
 unfold St.A9 at h;split at h
 .obtain⟨e,h1,he⟩:=AL.1 h
  simp only[A6] at he;rw[<-he.2];exact .refl _
 .simp only[AB,A6] at h;rw[<-h.2];exact .refl _
 .simp only[AB,A6] at h;rw[<-h.2];exact .refl _
 .simp only[AB,A6] at h;rw[<-h.2];exact .refl _
 .obtain⟨er,hw,he⟩:=AL.1 h
  simp only[A6] at he;rw[<-he.2];exact .kill _ _
 .cases h
theorem Ymi {a b:List Id} {x z y:St} (ha:a.Nodup/\∀id∈a,z.heap id=none/\∃k,x.heap id=some k) (hb:b.Nodup/\∀id∈b,y.heap id=none/\∃k,z.heap id=some k) (h1:Wg x z) (h2:Wg z y):(a++b).Nodup/\∀id∈a++b,y.heap id=none/\∃k,x.heap id=some k:=by
 refine⟨EE.2 ⟨ha.1,hb.1,λi hi j hj e=>?_⟩,λid Zt=>?_⟩
 .subst e
  obtain⟨k,hk⟩:=(hb.2 i hj).2;rw[(ha.2 i hi).1] at hk;cases hk
 .rcases BU.1 Zt with h|h
  .exact⟨h2.none (ha.2 id h).1,(ha.2 id h).2⟩
  .obtain⟨k,hk⟩:=(hb.2 id h).2
   exact⟨(hb.2 id h).1,k,h1.sub id k hk⟩
theorem Yc7:∀{xs:List V} {s s':St} {ts:List (Option TypeId)} {ys:List V},s.AK ts xs=some (ys,s')->((xs.flatMap Ed).Nodup/\∀id∈xs.flatMap Ed,s'.heap id=none/\∃b,s.heap id=some b)/\Wg s s':=by
 intro xs
 induction xs with
 | nil=>
  intro s s' ts ys h;simp only[St.AK,AB,A6] at h;rw[<-h.2];exact⟨⟨by simp,λid Zt=>by simp at Zt⟩,.refl _⟩
 | cons x xs ih=>
  intro s s' ts ys h;simp only[St.AK] at h;obtain⟨⟨y1,s1⟩,h1,h⟩:=A8.1 h;obtain⟨⟨y2,s2⟩,h2,h⟩:=AL.1 h;simp only[A6] at h;obtain⟨_,rfl⟩:=h;obtain⟨i1,l1⟩:=ih h2;rw[Fa];exact⟨Ymi (Yte h1) i1 (XG h1) l1,(XG h1).trans l1⟩
theorem Yr6 {ts:List (Option TypeId)} {id:Id} {ys:List V} (h:s.Bv ts id=some (ys,s')):(s'.heap id=none/\∃b,s.heap id=some b)/\Wg s s':=by
 unfold St.Bv at h;obtain⟨b,hb,h⟩:=A8.1 h;split at h
 .split at h
  .have:=(Yc7 h).2
   exact⟨⟨this.none Ka,b,hb⟩,(Wg.kill s id).trans this⟩
  .cases h
 .cases h
theorem Z6w:∀{xs:List V} {s s':St} {ts:List (Option TypeId)} {ys:List V},s.AQ ts xs=some (ys,s')->ys.length=xs.length/\Wg s s':=by
 intro xs
 induction xs with
 | nil=>
  intro s s' ts ys h;simp only[St.AQ,AB,A6] at h;rw[<-h.1,<-h.2];exact⟨rfl,.refl _⟩
 | cons x xs ih=>
  intro s s' ts ys h;simp only[St.AQ] at h;obtain⟨⟨y1,s1⟩,h1,h⟩:=A8.1 h;obtain⟨⟨y2,s2⟩,h2,h⟩:=AL.1 h;simp only[A6] at h;obtain⟨rfl,rfl⟩:=h;obtain⟨i1,l1⟩:=ih h2;refine⟨by simp[i1],Wg.trans ?_ l1⟩;unfold St.Bh at h1;split at h1
  .obtain⟨⟨cs,s4⟩,h3,he⟩:=AL.1 h1
   simp only[A6] at he;obtain⟨_,rfl⟩:=he;exact (Yr6 h3).2
  .exact XG h1
theorem Yrg {ts:List (Option TypeId)} {id:Id} {ys:List V} (h:s.Bd ts id=some (ys,s')):(s'.heap id=none/\∃b,s.heap id=some b)/\Wg s s':=by
 unfold St.Bd at h;obtain⟨b,hb,h⟩:=A8.1 h;split at h
 .split at h
  .have:=(Z6w h).2
   exact⟨⟨this.none Ka,b,hb⟩,(Wg.kill s id).trans this⟩
  .cases h
 .cases h
theorem Ydv {ts:List (Option TypeId)} {x y:V} (h:s.Ba ts x=some (y,s')):((QG x).Nodup/\∀id∈QG x,s'.heap id=none/\∃b,s.heap id=some b)/\Wg s s':=by
 unfold St.Ba at h;split at h
 .obtain⟨⟨ys,s2⟩,h1,he⟩:=AL.1 h
  simp only[A6] at he;obtain⟨_,rfl⟩:=he;exact Yc7 h1
 .rename_i Yg
  refine⟨?_,XG h⟩;unfold QG;split
  .rename_i cs;exact absurd rfl (Yg cs)
  .exact Yte h
theorem xC:∀{xs:List V} {s s':St} {ts:List TypeId} {ms:List Yu} {ys:List V},s.Bs P ts ms xs=some (ys,s')->((EL ms xs).Nodup/\∀id∈EL ms xs,s'.heap id=none/\∃b,s.heap id=some b)/\Wg s s':=by
 intro xs
 induction xs with
 | nil=>
  intro s s' ts ms ys h;simp only[St.Bs,AB,A6] at h;rw[<-h.2];exact⟨⟨by simp[EL],λid Zt=>by simp[EL] at Zt⟩,.refl _⟩
 | cons x xs ih=>
  intro s s' ts ms ys h;simp only[St.Bs] at h;obtain⟨⟨y1,s1⟩,h1,h⟩:=A8.1 h;obtain⟨⟨y2,s2⟩,h2,h⟩:=AL.1 h;simp only[A6] at h;obtain⟨_,rfl⟩:=h;obtain⟨i1,l1⟩:=ih h2;have one:((GH (ms.headD .rd) x).Nodup/\∀id∈GH (ms.headD .rd) x,s1.heap id=none/\∃b,s.heap id=some b)/\Wg s s1:=by
   unfold St.Dd at h1;unfold GH;split at h1
   .rename_i hm
    rw[hm];simp only[AB,A6] at h1;rw[<-h1.2];exact⟨⟨by simp,λid Zt=>by simp at Zt⟩,.refl _⟩
   .rename_i hm
    rw[hm];split at h1
    .obtain⟨⟨cs,s4⟩,h3,he⟩:=AL.1 h1
     simp only[A6] at he;obtain⟨_,rfl⟩:=he;have:=Yrg h3;exact⟨⟨by simp,λid Zt=>by rw[List.mem_singleton.1 Zt];exact this.1⟩,this.2⟩
    .cases h1
   .rename_i hm
    rw[hm];exact⟨⟨by simp,λid Zt=>by simp at Zt⟩,(Ydv h1).2⟩
   .rename_i hm
    rw[hm];exact Ydv h1
  unfold EL;exact⟨Ymi one.1 i1 one.2 l1,one.2.trans l1⟩
theorem Y4s (h:Rel P B io w tmps s U F fl) (hl:Wg s s1) {u:Value} {x y:V} {t:Option TypeId} (hu:En w (AG s U w) U u x) (hx:∀id,x≠.sl id 0 0) (hg:s1.A9 t x=some (y,s')):QF P U u x y:=by
 rintro id len rfl;simp only[St.A9] at hg;obtain⟨⟨e,rows⟩,hw,he⟩:=AL.1 hg;simp only[A6] at he;obtain⟨rfl,_⟩:=he;unfold St.whole at hw;obtain⟨b,hb,hw⟩:=A8.1 hw;split at hw
 .rename_i hc
  simp only[AB,A6] at hw;obtain⟨rfl,rfl⟩:=hw;have hB:=h.heap id b (hl.sub id b hb);cases hu with
  | sle=>exact absurd rfl (hx id)
  | @sl _ g o c sz _ _ hU Cm=>
   have Yo:0 < len:=uH λe=>by subst e;exact hx id rfl
   rw[hU] at hB;unfold Xs at hB;rw[hc.1,hc.2.1] at hB;rcases hB with⟨hi,_⟩|⟨g',o',c',cur,hi,_⟩
   .cases hi
   .cases hi
    exact⟨g,o,c,b.el,_,rfl,hU,by simp,Yo⟩
 .cases hw
theorem Ys0 (x:V):∀id,BV x≠.sl id 0 0:=λid e=>by
 unfold BV at e;split at e
 .cases e
 .rename_i Yg;subst e;exact Yg id 0 rfl
theorem Yri:∀{xs:List V} {s s':St} {ts:List (Option TypeId)} {ys:List V},s.AK ts xs=some (ys,s')->ys.length=xs.length/\∀(j:Nat) (a b:V),xs[j]?=some a->ys[j]?=some b->∃s1 s2 t,Wg s s1/\s1.A9 t a=some (b,s2):=by
 intro xs
 induction xs with
 | nil=>
  intro s s' ts ys h;simp only[St.AK,AB,A6] at h;rw[<-h.1];exact⟨rfl,λj a b ha=>by simp at ha⟩
 | cons x xs ih=>
  intro s s' ts ys h;simp only[St.AK] at h;obtain⟨⟨y1,s1⟩,h1,h⟩:=A8.1 h;obtain⟨⟨y2,s2⟩,h2,h⟩:=AL.1 h;simp only[A6] at h;obtain⟨rfl,rfl⟩:=h;obtain⟨i1,i2⟩:=ih h2;refine⟨by simp[i1],λj a b ha hb=>?_⟩;cases j with
  | zero=>
   have e1:x=a:=by simpa using ha
   have e2:y1=b:=by simpa using hb
   subst e1;subst e2;exact⟨s,s1,_,.refl _,h1⟩
  | succ j=>
   obtain⟨s3,s4,t,k1,k2⟩:=i2 j a b (by simpa using ha) (by simpa using hb);exact⟨s3,s4,t,(XG h1).trans k1,k2⟩
theorem Y7v (h:Rel P B io w tmps s U F fl):∀{xs:List V} {us:List Value} {s1 s':St} {ts:List TypeId} {ms:List Yu} {ys:List V},Wg s s1->us.length=xs.length->(∀(j:Nat) (u:Value) (x:V),us[j]?=some u->xs[j]?=some x->En w (AG s U w) U u x)->
  s1.Bs P ts ms xs=some (ys,s')->Mx P U ms us xs ys:=by
 intro xs
 induction xs with
 | nil=>
  intro us s1 s' ts ms ys hl Yo X7 hg;have:us=[]:=Gz (by simpa using Yo);subst this;simp only[St.Bs,AB,A6] at hg;rw[<-hg.1];exact .nil
 | cons x xs ih=>
  intro us s1 s' ts ms ys hl Yo X7 hg
  match us,Yo with
  | u::us,Yo=>
   have K3:=xC hg;simp only[St.Bs] at hg;obtain⟨⟨y,s2⟩,h1,hg⟩:=A8.1 hg;obtain⟨⟨zs,s3⟩,h2,hg⟩:=AL.1 hg;simp only[A6] at hg;obtain⟨rfl,rfl⟩:=hg;have hu:=X7 0 u x rfl rfl;have CI:Wg s1 s2:=by
    have:=(xC (P:=P) (xs:=[x]) (s:=s1) (s':=s2) (ts:=ts) (ms:=ms) (ys:=[y]) (by simp only[St.Bs];rw[h1];rfl)).2;exact this
   refine .cons ?_ (ih (hl.trans CI) (by simpa using Yo) (λj v z hv hz=>X7 (j+1) v z (by simpa using hv) (by simpa using hz)) h2);unfold St.Dd at h1;unfold Bk;split at h1
   .rename_i hm;rw[hm];exact trivial
   .rename_i hm
    rw[hm];rintro id rfl;simp only at h1;obtain⟨⟨cs,s4⟩,h3,he⟩:=AL.1 h1;simp only[A6] at he;obtain⟨rfl,rfl⟩:=he;unfold St.Bd at h3;obtain⟨b,hb,h3⟩:=A8.1 h3;split at h3
    .rename_i hc
     split at h3
     .rename_i row hr
      have hB:=h.heap id b (hl.sub id b hb);unfold Xs at hB;rw[hc.1] at hB;obtain⟨_,g,cur,e,Ci,hi,Ea,Cj,hs,_⟩:=hB;rw[hr] at Cj;injection Cj with Cj _;subst Cj;generalize hq:V.ptr id 0 0=q at hu;cases hu<;>cases hq;rename_i g' o' c' sz hU;rw[hi] at hU;injection hU with hU;injection hU with e1 e2 e3 e4;subst e1;subst e2;exact⟨cs,g,rfl,by rw[hi,(Z6w h3).1],by simp⟩
     .cases h3
    .cases h3
   .rename_i hm;rw[hm];exact trivial
   .rename_i hm
    rw[hm];have QH:=hu.thin;have Yg:∀cs,thin x=.agg cs->∀c∈cs,∀id,c≠.sl id 0 0:=λcs BO c hc id=>by
     unfold thin at BO;split at BO
     .injection BO with BO
      subst BO;obtain⟨z,_,rfl⟩:=Dx.1 hc;exact Ys0 z id
     .rename_i I1
      unfold BV at BO;split at BO
      .cases BO
      .exact absurd BO (I1 cs)
    have XH:(∀cs,thin x≠.agg cs)->∀id,thin x≠.sl id 0 0:=λI1 id=>by
     unfold thin at I1 ⊢;split
     .simp
     .exact Ys0 x id
    generalize thin x=tx at h1 QH Yg XH;unfold St.Ba at h1;split at h1
    .rename_i cs
     obtain⟨⟨ys,s4⟩,h3,he⟩:=AL.1 h1;simp only[A6] at he;obtain⟨rfl,rfl⟩:=he;cases QH with
     | @agg vs _ Ww Cm hr=>
      obtain⟨g1,g2⟩:=Yri h3;refine .inl ⟨vs,cs,ys,rfl,rfl,rfl,Ww,g1,λj v a b hv ha hb=>?_⟩;obtain⟨s5,s6,t,k1,k2⟩:=g2 j a b ha hb;exact Y4s h (hl.trans k1) (hr j v a hv ha) (Yg cs rfl a (Eh ha)) k2
    .rename_i I1
     refine .inr ⟨I1,λcs e=>?_,Y4s h hl QH (XH I1) h1⟩;subst e;unfold St.A9 at h1;split at h1<;>simp at h1
end
section
variable {P:Program} {B:Nat} {io:Nat->Prop} {w w':World} {tmps:Array Value} {s s' s1:St} {U U':AX} {F F':Id->List Nat} {fl fl':List Nat} {ok ok' top:Nat->Prop}
theorem Xbd {f1:List Nat} (h:Jn P B io w tmps s U F (f1++fl) ok) {id:Id} {len:Nat} {u:Value} {y:V} {e:TypeId} {rows Bt:List (List V)} (hb:QF P U u (.sl id 0 len) (.own e rows)) (hO:NG P w e u Bt f1) (ht:∀g,f1.head?=some g->top g) (Wc:∀g,top g->io g\/B<=g) (hn:s.heap id=none):
  ∃F',C3 P B io w tmps s U fl ok top (λAv=>Av=id) (s.A5 id ⟨false,true,true,e,Bt⟩) U F':=by
 obtain⟨g,o,c,e',r,hy,hU,hu,Yo⟩:=hb id len rfl;injection hy with hy _;subst hy;rcases hO with⟨A,rfl,rfl,rfl⟩|⟨g',o',c',cur,BQ,hv,hg,hl,hm,BX,hz,Tl,rfl⟩
 .injection hu with _ hu _;omega
 .rw[hu] at hv
  injection hv with hv CI hc;injection hv with hv;injection hv with e1 e2 _;subst e1;subst e2;subst hc;have Yk:id.1<=s.ep:=h.C4 id (by rw[hU];rfl);refine⟨_,h.add hn Yk (λ_ _ h=>h) (λ_ _=>rfl) (by rw[hU];exact .Cr rfl rfl rfl hg hl hm BX hz rfl (λ_=>Tl) (λhf=>by cases hf)) (λ_ g' Yc=>Wc g' (ht g' Yc)),λ_ _ h=>h,λ_ h=>.inl h,rfl,rfl,λAv e=>X2 e,λg' Yc=>?_⟩;rcases WO (λ_ _=>rfl) Yc with h1|⟨_,o2,c2,z2,h1⟩
  .exact .inl h1
  .rw[hU] at h1
   injection h1 with h1;injection h1 with h1;subst h1;exact .inr (ht _ rfl)
theorem Ydi:∀(xs:List V) {us:List Value} {ys ns:List V} {s s':St} {F:Id->List Nat} {fo fl:List Nat},Jn P B io w tmps s U F (fo++fl) ok->Ho P w top us ys ns fo->us.length=xs.length->ys.length=xs.length->
  (∀(j:Nat) (v:Value) (a b:V),us[j]?=some v->xs[j]?=some a->ys[j]?=some b->QF P U v a b)->(∀g,top g->io g\/B<=g)->(xs.flatMap Ed).Nodup->(∀id∈xs.flatMap Ed,s.heap id=none)->s.AO xs ns=some s'->
  ∃F',C3 P B io w tmps s U fl ok top (λid=>id∈xs.flatMap Ed) s' U F':=by
 intro xs
 induction xs with
 | nil=>
  intro us ys ns s s' F fo fl h ho hl hly _ _ _ _ hs;simp only[St.AO,AB] at hs;subst hs;have:us=[]:=Gz (by simpa using hl);subst this;cases ho;exact⟨F,(C3.refl h).mono (λ_ h=>h.elim)⟩
 | cons x xs ih=>
  intro us ys ns s s' F fo fl h ho hl hly DN Wc CU EM hs;rw[Fa] at CU EM;have Tx:=EE.1 CU;have rest:∀{u:Value} {Mw:List Value} {y:V} {PW:List V} {n:V} {XI:List V} {s2:St} {F2:Id->List Nat} {f2:List Nat},us=u::Mw->ys=y::PW->Jn P B io w tmps s2 U F2 (f2++fl) ok->Ho P w top Mw PW XI f2->(∀id∈xs.flatMap Ed,s2.heap id=none)->s2.AO xs XI=some s'->
    ∃F',C3 P B io w tmps s2 U fl ok top (λid=>id∈xs.flatMap Ed) s' U F':=by
   intro u Mw y PW n XI s2 F2 f2 e1 e2 h2 HN PN DX;subst e1;subst e2;exact ih h2 HN (by simpa using hl) (by simpa using hly) (λj v a b hv ha hb=>DN (j+1) v a b (by simpa using hv) (by simpa using ha) (by simpa using hb)) Wc Tx.2.1 PN DX
  have xD:∀id∈xs.flatMap Ed,s.heap id=none:=λid Zt=>EM id (Ds _ Zt);cases ho with
  | nil=>simp at hl
  | @own u e rows Bt Mw PW XI f1 f2 hO ht DX=>
   rw[List.append_assoc] at h;unfold St.AO at hs;split at hs
   .rename_i heq;cases heq
   .rename_i id len os1 e2 r2 ns2 Le QI
    injection Le with a1 a2;subst a1;subst a2;injection QI with b1 b2;injection b1 with b1 b3;subst b1;subst b3;subst b2;obtain⟨F1,t1⟩:=Xbd (fl:=f2++fl) (y:=.undef) h (DN 0 u _ _ rfl rfl rfl) hO ht Wc (EM id (CC _ (by simp[Ed])));obtain⟨F2,t2⟩:=rest (n:=.undef) rfl rfl t1.rel DX (λAv Hp=>by
     rw[t1.heap Av (λe=>by
      subst e;exact Tx.2.2 _ (by simp[Ed]) _ Hp rfl)]
     exact xD Av Hp) hs
    refine⟨F2,(t1.trans t2).mono (λAv Hp=>?_)⟩;rw[Fa];rcases Hp with rfl|Hp
    .exact CC _ (by simp[Ed])
    .exact Ds _ Hp
   .rename_i Le QI
    injection Le with a1 a2;subst a1;subst a2;injection QI with b1 b2;subst b2;obtain⟨F2,t2⟩:=rest (n:=.undef) rfl rfl (h.less (Im _ _)) DX xD hs;exact⟨F2,t2.mono (λAv Hp=>by rw[Fa];exact Ds _ Hp)⟩
   .cases hs
  | @skip u y Mw PW XI f hx DX=>
   unfold St.AO at hs;split at hs
   .rename_i heq;cases heq
   .rename_i Le QI
    injection QI with b1 b2;cases b1
   .rename_i Le QI
    injection Le with a1 a2;subst a1;subst a2;injection QI with b1 b2;subst b2;obtain⟨F2,t2⟩:=rest (n:=.undef) rfl rfl h DX xD hs;exact⟨F2,t2.mono (λAv Hp=>by rw[Fa];exact Ds _ Hp)⟩
   .cases hs
theorem Xb9 {fo:List Nat} (h:Jn P B io w tmps s U F (fo++fl) ok) {m:Yu} {e k:Nat} {u:Value} {x y o:V} (hb:Bk P U m u x y) (ho:Mu P w ok top m u y o fo) (Wc:∀g,top g->io g\/B<=g) (Yk:e<=s.ep) (Y4:∀j,64*k<=j->j < 64*k+64->U (e,j)=none/\s.heap (e,j)=none)
  (CU:(GH m x).Nodup) (EM:∀id∈GH m x,s.heap id=none) (hs:s.back m e k x o=some s'):
  ∃U' F',C3 P B io w tmps s U fl ok top (λid=>(id.1=e/\64*k<=id.2/\id.2 < 64*k+64)\/id∈GH m x) s' U' F':=by
 unfold St.back at hs;split at hs
 .simp only[AB] at hs
  subst hs;have:fo=[]:=ho;subst this;exact⟨U,F,(C3.refl h).mono (λ_ h=>h.elim)⟩
 .simp only[AB] at hs
  subst hs;have:fo=[]:=ho;subst this;exact⟨U,F,(C3.refl h).mono (λ_ h=>h.elim)⟩
 .split at hs
  .rename_i id GA
   split at hs
   .rename_i hl62
    obtain⟨⟨zs,s2⟩,h1,rfl⟩:=AL.1 hs;obtain⟨cs,g,rfl,hU,hu⟩:=hb id rfl;obtain⟨cs0,cs1,e1,e2,Yo,g',cur,et,BQ,Cl,Ea,GB,rfl,II⟩:=ho;injection e1 with e1;injection e2 with e2;subst e1;subst e2;rw[hu] at Cl;injection Cl with Cl;injection Cl with Cl;injection Cl with Cl _ _;subst Cl;have wF:((BQ++([g]++fl)):List Nat).Perm (g::BQ++fl):=Td;obtain⟨U1,F1,t,l,c,en⟩:=Yao GA (fl:=[g]++fl) (h.perm wF) GB Wc Yk (λj hj Z7=>Y4 j hj (by omega)) h1;have xE:s.heap id=none:=EM id (by simp[GH]);have hidJ:¬(id.1=e/\64*k<=id.2/\id.2 < 64*k+wt GA):=λhh=>by
     have:=(Y4 id.2 hh.2.1 (by omega)).1;rw[<-hh.1] at this;rw[show (id.1,id.2)=id from rfl,hU] at this;cases this
    have E3:U1 id=some (.Bl g 0 1 zs.length):=by
     rw[t.ext id _ hU];have:zs.length=cs.length:=by rw[<-l,<-Yo];exact GB.length
     rw[this]
    have HO:=t.rel.add (fp:=[g]) (fl:=fl) (id:=id) (U':=U1) (b:=⟨true,true,true,0,[zs]⟩) (by rw[t.heap _ hidJ];exact xE) (by rw[t.ep];exact h.C4 id (by rw[hU];rfl)) (λ_ _ h=>h) (λ_ _=>rfl) (by
     rw[E3];exact .Iz rfl rfl rfl Ea rfl (by simpa using l) (λj v z hv hz=>en j v z (by simpa using hv) hz) c rfl) (λ_ g' Yc=>by
     have:g=g':=by simpa using Yc
     subst this;exact Wc g II)
    refine⟨U1,_,⟨HO,t.ext,λAv hi=>?_,t.env,t.ep,λAv Hp=>?_,λg' Yc=>?_⟩⟩
    .rcases t.C4 Av hi with hh|hh
     .exact .inl hh
     .exact .inr (.inl ⟨hh.1,hh.2.1,by omega⟩)
    .rw[X2 (λe=>Hp (.inr (by rw[e];simp[GH])))]
     exact t.heap Av (λhh=>Hp (.inl ⟨hh.1,hh.2.1,by omega⟩))
    .rcases WO (λ_ _=>rfl) Yc with h3|⟨_,o2,c2,z2,h3⟩
     .exact t.AJ g' h3
     .rw[E3] at h3
      injection h3 with h3;injection h3 with h3;subst h3;exact .inr II
   .cases hs
  .cases hs
 .unfold Bk at hb
  unfold Mu at ho;unfold GH at CU EM ⊢;simp only at hb ho CU EM ⊢;rcases hb with⟨us,xs,ys,ht,rfl,rfl,Ww,Tn,DN⟩|⟨xF,hny,DN⟩
  .rw[ht] at hs CU EM ⊢
   simp only[QG] at CU EM ⊢;rcases ho with⟨Mw,cs,ns,e1,e2,rfl,hO⟩|⟨Yg,_⟩
   .injection e1 with e1
    injection e2 with e2;subst e1;subst e2;simp only at hs;obtain⟨F',t⟩:=Ydi xs h hO (by simpa using Ww) Tn (λj v a b hv ha hb=>DN j v a b (by simpa using hv) ha hb) Wc CU EM hs;exact⟨U,F',t.mono (λid Zt=>.inr Zt)⟩
   .exact absurd rfl (Yg ys)
  .rcases ho with⟨Mw,cs,ns,e1,_⟩|⟨_,hO⟩
   .exact absurd e1 (hny cs)
   .generalize thin x=tx at hs CU EM xF DN
    have HJ:s.AO [tx] [o]=some s':=by
     split at hs
     .rename_i cs ns;exact absurd rfl (xF cs)
     .exact hs
    have xG:([tx].flatMap Ed)=Ed tx:=by simp
    have hm:QG tx=Ed tx:=by
     cases tx<;>first|rfl|exact absurd rfl (xF _)
    rw[hm] at CU EM;obtain⟨F',t⟩:=Ydi [tx] h hO rfl rfl (λj v a b hv ha hb=>by
     cases j with
     | zero=>
      have e1:u=v:=by simpa using hv
      have e2:tx=a:=by simpa using ha
      have e3:y=b:=by simpa using hb
      subst e1;subst e2;subst e3;exact DN
     | succ j=>simp at hv) Wc (by rw[xG];exact CU) (by rw[xG];exact EM) HJ
    exact⟨U,F',t.mono (λid Zt=>.inr (by rw[hm];rw[xG] at Zt;exact Zt))⟩
theorem Y0u {m:Yu} {u:Value} {x y:V} (hb:Bk P U m u x y) {w:World} (hu:En w ok U u x):∀id∈GH m x,(U id).isSome=true:=by
 intro id Zt;unfold GH at Zt;split at Zt
 .split at Zt
  .rename_i Av
   rw[List.mem_singleton.1 Zt];obtain⟨cs,g,_,hU,_⟩:=hb Av rfl;rw[hU];rfl
  .simp at Zt
 .have QH:=hu.thin
  have one:∀{v:Value} {c:V},En w ok U v c->id∈Ed c->(U id).isSome=true:=λ{v c} hv hc=>by
   unfold Ed at hc;split at hc
   .rw[List.mem_singleton.1 hc]
    cases hv with
    | sl h=>rw[h];rfl
    | sle h=>exact h
   .simp at hc
  unfold QG at Zt;split at Zt
  .rename_i cs BO
   rw[BO] at QH;obtain⟨c,hc,Zt⟩:=List.mem_flatMap.1 Zt;cases QH with
   | @agg vs _ hl _ hr=>
    obtain⟨j,hj⟩:=HF hc;have Z7:=(CZ.1 hj).1;exact one (hr j _ c (Var (by omega)) hj) Zt
  .exact one QH Zt
 .simp at Zt
theorem Y8c {e:Nat}:∀(xs:List V) {us:List Value} {ys os:List V} {ms:List Yu} {k:Nat} {s s':St} {U:AX} {F:Id->List Nat} {fo fl:List Nat},Jn P B io w tmps s U F (fo++fl) ok->Mx P U ms us xs ys->Ft P w ok top ms us ys os fo->
  (∀(j:Nat) (u:Value) (x:V),us[j]?=some u->xs[j]?=some x->∃w ok,En w ok U u x)->(∀g,top g->io g\/B<=g)->e<=s.ep->(∀j,64*k<=j->j < 64*(k+xs.length)->U (e,j)=none/\s.heap (e,j)=none)->
  (EL ms xs).Nodup->(∀id∈EL ms xs,s.heap id=none)->s.BE e ms k xs os=some s'->
  ∃U' F',C3 P B io w tmps s U fl ok top (λid=>(id.1=e/\64*k<=id.2/\id.2 < 64*(k+xs.length))\/id∈EL ms xs) s' U' F':=by
 intro xs
 induction xs with
 | nil=>
  intro us ys os ms k s s' U F fo fl h hb ho X7 Wc Yk Y4 CU EM hs;cases hb;cases ho;simp only[St.BE,AB] at hs;subst hs;exact⟨U,F,(C3.refl h).mono (λ_ h=>h.elim)⟩
 | cons x xs ih=>
  intro us ys os ms k s s' U F fo fl h hb ho X7 Wc Yk Y4 CU EM hs;simp only[AU] at Y4;cases hb with
  | @cons _ u us _ y _ ys hb Lc=>
   cases ho with
   | @cons _ _ _ _ o _ os f1 f2 ho xH=>
    simp only[St.BE] at hs;obtain⟨s1,h1,hs⟩:=A8.1 hs;unfold EL at CU EM;have Tx:=EE.1 CU;rw[List.append_assoc] at h;obtain⟨U1,F1,t1⟩:=Xb9 h hb ho Wc Yk (λj hj Z7=>Y4 j hj (by omega)) Tx.1 (λid Zt=>EM id (CC _ Zt)) h1;have VA:∀id∈EL ms.tail xs,(U id).isSome=true:=by
     have key:∀{xs:List V} {ms:List Yu} {us:List Value} {ys:List V},Mx P U ms us xs ys->(∀(j:Nat) (u:Value) (x:V),us[j]?=some u->xs[j]?=some x->∃w ok,En w ok U u x)->∀id∈EL ms xs,(U id).isSome=true:=by
      intro xs ms us ys hb
      induction hb with
      | nil=>intro _ id Zt;simp[EL] at Zt
      | cons h _ ih=>
       intro X7 id Zt;unfold EL at Zt;rcases BU.1 Zt with Zt|Zt
       .obtain⟨w',QJ,hu⟩:=X7 0 _ _ rfl rfl
        exact Y0u h hu id Zt
       .exact ih (λj u x hu hx=>X7 (j+1) u x (by simpa using hu) (by simpa using hx)) id Zt
     exact key Lc (λj u x hu hx=>X7 (j+1) u x (by simpa using hu) (by simpa using hx))
    have Xcg:∀id∈GH (ms.headD .rd) x,(U id).isSome=true:=λid Zt=>by
     obtain⟨w',QJ,hu⟩:=X7 0 _ _ rfl rfl;exact Y0u hb hu id Zt
    have XJ:∀j,64*(k+1)<=j->j < 64*(k+1+xs.length)->U1 (e,j)=none/\s1.heap (e,j)=none:=λj hj Z7=>by
     obtain⟨a1,a2⟩:=Y4 j (by omega) (by omega);have XK:¬((((e,j):Id).1=e/\64*k<=((e,j):Id).2/\((e,j):Id).2 < 64*k+64)\/(e,j)∈GH (ms.headD .rd) x):=λhh=>by
      rcases hh with hh|hh
      .have:=hh.2.2;simp only at this;omega
      .have:=Xcg _ hh;rw[a1] at this;cases this
     refine⟨?_,by rw[t1.heap _ XK];exact a2⟩;cases hr:U1 (e,j) with
     | none=>rfl
     | some i=>
      rcases t1.C4 (e,j) (by rw[hr];rfl) with hh|hh
      .rw[a1] at hh;cases hh
      .exact absurd hh XK
    have XL:Mx P U1 ms.tail us xs ys:=by
     have ce:∀{v:Value} {a b:V},QF P U v a b->QF P U1 v a b:=λhb id len hx=>by
      obtain⟨g,o,c,e,rows,h1,h2,h3⟩:=hb id len hx;exact⟨g,o,c,e,rows,h1,t1.ext _ _ h2,h3⟩
     have one:∀{m:Yu} {u:Value} {x y:V},Bk P U m u x y->Bk P U1 m u x y:=λ{m u x y} hb=>by
      cases m
      .exact trivial
      .intro id hx
       obtain⟨cs,g,h1,h2,h3⟩:=hb id hx;exact⟨cs,g,h1,t1.ext _ _ h2,h3⟩
      .exact trivial
      .rcases hb with⟨us,xs,ys,h1,h2,h3,h4,h5,h6⟩|⟨h1,h2,h3⟩
       .exact .inl ⟨us,xs,ys,h1,h2,h3,h4,h5,λj v a b hv ha hb=>ce (h6 j v a b hv ha hb)⟩
       .exact .inr ⟨h1,h2,ce h3⟩
     have key:∀{xs:List V} {ms:List Yu} {us:List Value} {ys:List V},Mx P U ms us xs ys->Mx P U1 ms us xs ys:=by
      intro xs ms us ys hb
      induction hb with
      | nil=>exact .nil
      | cons h _ ih=>exact .cons (one h) ih
     exact key Lc
    obtain⟨U2,F2,t2⟩:=ih t1.rel XL xH (λj u x hu hx=>by
     obtain⟨w',QJ,Cl⟩:=X7 (j+1) u x (by simpa using hu) (by simpa using hx);exact⟨w',QJ,Cl.ext (λ_ h=>h) t1.ext⟩) Wc (by rw[t1.ep];exact Yk) XJ Tx.2.1 (λid Zt=>by
     rw[t1.heap id (λhh=>by
      rcases hh with hh|hh
      .have:=(Y4 id.2 hh.2.1 (by omega)).1
       rw[<-hh.1,show (id.1,id.2)=id from rfl] at this;have h2:=VA id Zt;rw[this] at h2;cases h2
      .exact Tx.2.2 id hh id Zt rfl)]
     exact EM id (Ds _ Zt)) hs
    refine⟨U2,F2,(t1.trans t2).mono (λid Zt=>?_)⟩;rcases Zt with (Zt|Zt)|(Zt|Zt)
    .exact .inl ⟨Zt.1,Zt.2.1,by simp only[AU];omega⟩
    .exact .inr (by unfold EL;exact CC _ Zt)
    .exact .inl ⟨Zt.1,by omega,by simp only[AU];omega⟩
    .exact .inr (by unfold EL;exact Ds _ Zt)
theorem Y3o {e:Nat}:∀(xs:List V) {us:List Value} {k:Nat} {fp fl:List Nat} {s s':St} {U:AX} {F:Id->List Nat} {ys:List V},Jn P B io w tmps s U F (fp++fl) ok->Gk P w ok top us xs fp->(∀g,top g->io g\/B<=g)->e<=s.ep->
  (∀j,64*k<=j->j < 64*(k+xs.length)->U (e,j)=none/\s.heap (e,j)=none)->s.Bw e k xs=some (ys,s')->
  ∃U' F',C3 P B io w tmps s U fl ok top (λid=>id.1=e/\64*k<=id.2/\id.2 < 64*(k+xs.length)) s' U' F'/\us.length=ys.length/\(∀(j:Nat) (u:Value) (y:V),us[j]?=some u->ys[j]?=some y->En w ok U' u y):=by
 intro xs
 induction xs with
 | nil=>
  intro us k fp fl s s' U F ys h hg Wc Yk Y4 ht;cases hg;simp only[St.Bw,AB,A6] at ht;obtain⟨rfl,rfl⟩:=ht;exact⟨U,F,(C3.refl h).mono (λ_ h=>h.elim),rfl,λj u y hu=>by simp at hu⟩
 | cons x xs ih=>
  intro us k fp fl s s' U F ys h hg Wc Yk Y4 ht;simp only[AU] at Y4;cases hg with
  | @cons u _ us _ f1 f2 hg WQ=>
   simp only[St.Bw] at ht;obtain⟨⟨y,s1⟩,h1,ht⟩:=A8.1 ht;obtain⟨⟨zs,s2⟩,h2,ht⟩:=AL.1 ht;simp only[A6] at ht;obtain⟨rfl,rfl⟩:=ht;simp only at h2;obtain⟨U1,F1,t1,e1⟩:=wE (fl:=f2++fl) (by rw[<-List.append_assoc];exact h) hg Wc Yk (λj hj Z7=>Y4 j hj (by omega)) h1;obtain⟨U2,F2,t2,l2,e2⟩:=ih t1.rel WQ Wc (by rw[t1.ep];exact Yk) (λj hj Z7=>by
    obtain⟨a1,a2⟩:=Y4 j (by omega) (by omega);have Yg:¬(((e,j):Id).1=e/\64*k<=((e,j):Id).2/\((e,j):Id).2 < 64*k+64):=λhh=>by have:=hh.2.2;simp only at this;omega
    refine⟨?_,by rw[t1.heap _ Yg];exact a2⟩;cases hr:U1 (e,j) with
    | none=>rfl
    | some i=>
     rcases t1.C4 (e,j) (by rw[hr];rfl) with hh|hh
     .rw[a1] at hh;cases hh
     .exact absurd hh Yg) h2
   refine⟨U2,F2,(t1.trans t2).mono (λid Zt=>?_),by simp[l2],λj u' z hu hz=>?_⟩
   .rcases Zt with⟨a,b,c⟩|⟨a,b,c⟩
    .exact⟨a,b,by simp only[AU];omega⟩
    .exact⟨a,by omega,by simp only[AU];omega⟩
   .cases j with
    | zero=>
     have a1:u=u':=by simpa using hu
     have a2:y=z:=by simpa using hz
     subst a1;subst a2;exact e1.ext (λ_ h=>h) t2.ext
    | succ j=>exact e2 j u' z (by simpa using hu) (by simpa using hz)
theorem Y14 {fp:List Nat} (h:Jn P B io w tmps s U F (fp++fl) ok) {u:Value} {x y:V} (hg:Fu P w ok top u x fp) (Wc:∀g,top g->io g\/B<=g) {e k:Nat} (Yk:e<=s.ep) (Y4:∀j,64*k<=j->j < 64*(k+8)->U (e,j)=none/\s.heap (e,j)=none) (ht:s.BB e k x=some (y,s')):
  ∃U' F',C3 P B io w tmps s U fl ok top (λid=>id.1=e/\64*k<=id.2/\id.2 < 64*(k+8)) s' U' F'/\En w ok U' u y:=by
 unfold St.BB at ht;split at ht
 .rename_i vs
  split at ht
  .rename_i hl
   obtain⟨⟨ys,s1⟩,h1,he⟩:=AL.1 ht;simp only[A6] at he;obtain⟨rfl,rfl⟩:=he;obtain⟨us,rfl,GB⟩:=hg;obtain⟨U',F',t,l,en⟩:=Y3o vs h GB Wc Yk (λj hj Z7=>Y4 j hj (by omega)) h1;exact⟨U',F',t.mono (λid Zt=>⟨Zt.1,Zt.2.1,by omega⟩),.AZ (by simpa using l) (λj v z hv hz=>en j v z (by simpa using hv) hz)⟩
  .cases ht
 .rename_i Yg
  have Yc:Dz P w ok top u x fp:=by
   cases x<;>first|exact hg|exact absurd rfl (Yg _)
  obtain⟨U',F',t,en⟩:=wE h Yc Wc Yk (λj hj Z7=>Y4 j hj (by omega)) ht;exact⟨U',F',t.mono (λid Zt=>⟨Zt.1,Zt.2.1,by omega⟩),en⟩
end
section
variable {P:Program} {M:X6} {C:Ki}
theorem Yyw:∀{xs:List V} {s s':St} {ts:List TypeId} {ms:List Yu} {ys:List V},s.Bs P ts ms xs=some (ys,s')->Iv ms xs=true->Iv ms ys=true:=by
 intro xs
 induction xs with
 | nil=>
  intro s s' ts ms ys h _;simp only[St.Bs,AB,A6] at h;rw[<-h.1];rfl
 | cons x xs ih=>
  intro s s' ts ms ys h hp;simp only[St.Bs] at h;obtain⟨⟨y1,s1⟩,h1,h⟩:=A8.1 h;obtain⟨⟨y2,s2⟩,h2,h⟩:=AL.1 h;simp only[A6] at h;obtain⟨rfl,rfl⟩:=h;simp only[Iv,Bg] at hp ⊢;refine⟨?_,ih h2 hp.2⟩;unfold St.Dd at h1;unfold uS at hp ⊢;split at h1
  .rename_i hm
   rw[hm] at hp ⊢;simp only[AB,A6] at h1;rw[<-h1.1];exact hp.1
  all_goals (rename_i hm;rw[hm])
theorem xI {w:World} {ok ok' top:Nat->Prop} {v:Value} {x:V} {fp:List Nat} (h:Da P w ok top v x fp) (ht:Ps x=false):Da P w ok' top v x fp:=by
 cases h with
 | lit h=>exact .lit h
 | tr h=>simp[Ps] at ht
 | own h k=>exact .own h k
theorem xJ {w:World} {ok ok' top:Nat->Prop} {v:List Value} {x:List V} {fp:List Nat} (h:Fq P w ok top v x fp) (ht:x.any Ps=false):Fq P w ok' top v x fp:=by
 induction h with
 | nil=>exact .nil
 | cons h _ ih=>
  simp only[N8,Pj] at ht;exact .cons (xI h ht.1) (ih ht.2)
theorem xK {x:V} (h:Iu x=false):Ps x=false:=by
 cases x<;>first|exact h|rfl
theorem Yvd {xs:List V} (h:xs.any Iu=false):xs.any Ps=false:=by
 rw[List.any_eq_false] at h ⊢;exactλx hx=>by rw[xK (by simpa using h x hx)];decide
theorem Y5j {w:World} {ok ok' top:Nat->Prop} {v:List Value} {x:List V} {fp:List Nat} (h:FI P w ok top v x fp) (ht:x.any Iu=false):FI P w ok' top v x fp:=by
 induction h with
 | nil=>exact .nil
 | cons h _ ih=>
  simp only[N8,Pj] at ht;refine .cons ?_ (ih ht.2);cases h with
  | one h=>exact .one (xI h (xK ht.1))
  | box h=>
   obtain⟨g,cur,e,BQ,h1,h2,h3,h4,h5⟩:=h;exact .box ⟨g,cur,e,BQ,h1,h2,xJ h3 ht.1,h4,h5⟩
theorem Ylt {w:World} {ok ok' top:Nat->Prop} {v:Value} {x:V} {fp:List Nat} (h:Dz P w ok top v x fp) (ht:HI x=false):Dz P w ok' top v x fp:=by
 cases x
 case agg cs=>obtain⟨us,h1,h2⟩:=h;exact⟨us,h1,xJ h2 (Yvd ht)⟩
 case CL cs=>obtain⟨g,cur,e,BQ,h1,h2,h3,h4,h5⟩:=h;exact⟨g,cur,e,BQ,h1,h2,xJ h3 (Yvd ht),h4,h5⟩
 all_goals exact xI h (xK ht)
theorem Y1x {w:World} {ok ok' top:Nat->Prop} {v:List Value} {x:List V} {fp:List Nat} (h:Gk P w ok top v x fp) (ht:x.any HI=false):Gk P w ok' top v x fp:=by
 induction h with
 | nil=>exact .nil
 | cons h _ ih=>
  simp only[N8,Pj] at ht;exact .cons (Ylt h ht.1) (ih ht.2)
theorem Y6j {w:World} {ok ok' top:Nat->Prop} {v:Value} {x:V} {fp:List Nat} (h:Fu P w ok top v x fp) (ht:Pt x=false):Fu P w ok' top v x fp:=by
 cases x
 case AZ rs=>obtain⟨us,h1,h2⟩:=h;exact⟨us,h1,Y1x h2 ht⟩
 all_goals (simp only[Fu] at h ⊢;exact Ylt h ht)
theorem Y82 {w:World} {ok ok' top:Nat->Prop} {m:Yu} {u:Value} {x o:V} {fp:List Nat} (h:Mu P w ok top m u x o fp) (ht:(∀g,ok g->ok' g)\/HI o=false):Mu P w ok' top m u x o fp:=by
 cases m
 .exact h
 .obtain⟨cs,GA,h1,rfl,h3,h4⟩:=h
  refine⟨cs,GA,h1,rfl,h3,?_⟩;rcases ht with ht|ht
  .exact h4.C2 ht
  .obtain⟨g,cur,e,BQ,e1,e2,e3,e4,e5⟩:=h4
   exact⟨g,cur,e,BQ,e1,e2,Y5j e3 ht,e4,e5⟩
 .exact h
 .exact h
theorem Y5n {w:World} {ok ok' top:Nat->Prop} {ms:List Yu} {us:List Value} {xs os:List V} {fp:List Nat} (h:Ft P w ok top ms us xs os fp) (ht:(∀g,ok g->ok' g)\/os.any HI=false):Ft P w ok' top ms us xs os fp:=by
 induction h with
 | nil=>exact .nil
 | cons h _ ih=>
  refine .cons (Y82 h (ht.imp (λh=>h) (λh=>by simp only[N8,Pj] at h;exact h.1))) (ih (ht.imp (λh=>h) (λh=>by simp only[N8,Pj] at h;exact h.2)))
theorem Y8p {w:World} {ok ok' top:Nat->Prop} {v:Value} {x:V} {fp:List Nat} (h:Fu P w ok top v x fp) (ht:∀g,ok g->ok' g):Fu P w ok' top v x fp:=by
 cases x
 case AZ rs=>obtain⟨us,h1,h2⟩:=h;exact⟨us,h1,h2.C2 ht⟩
 all_goals (simp only[Fu] at h ⊢;exact Dz.C2 h ht)
theorem Y71 {w:World} {ok top:Nat->Prop}:∀{ys:List V} {ms:List Yu} {us:List Value} {xs os:List V} {fp:List Nat} {s:St},s.BL ms ys=some xs->Ft P w ok top ms us xs os fp->Ft P w ok top ms us ys os fp:=by
 intro ys
 induction ys with
 | nil=>
  intro ms us xs os fp s hr h;simp only[St.BL,AB] at hr;subst hr;exact h
 | cons y ys ih=>
  intro ms us xs os fp s hr h;simp only[St.BL] at hr;obtain⟨z,h1,hr⟩:=A8.1 hr;obtain⟨zs,h2,rfl⟩:=AL.1 hr;cases h with
  | cons h hs=>
   refine .cons ?_ (ih h2 hs);unfold St.Cn at h1;cases hm:ms.headD .rd with
   | rd=>rw[hm] at h;exact h
   | io=>rw[hm] at h h1;simp only[AB] at h1;subst h1;exact h
   | mv=>rw[hm] at h;exact h
   | Ey=>rw[hm] at h h1;simp only[AB] at h1;subst h1;exact h
theorem Ysn (hP:Wb P) (xL:∀(f:FuncId) (xs:List V) (r:V) (os:List V),C f xs=some (r,os)->(∃fn,P.funcs[f]?=some fn/\fn.body.isSome=true)/\Ob P (M.AV f) f xs r os):HP P M C:=by
 intro B io w tmps s U F fl k v s' h Y4 g args us Ww X7 he;unfold KR at he;split at he
 case isFalse=>cases he
 rename_i xM;obtain⟨⟨ys,s1⟩,jD,he⟩:=A8.1 he;obtain⟨xs,Ej,he⟩:=A8.1 he;obtain⟨⟨r,os⟩,hc,he⟩:=A8.1 he;simp only at Ej he;split at he
 case isTrue=>cases he
 rename_i Xch;obtain⟨s2,XM,Ty⟩:=A8.1 he;obtain⟨⟨fn,CK,XN⟩,Yqe⟩:=xL g xs r os hc;have Mg:∀(j:Nat) (u:Value) (x:V),us.toList[j]?=some u->args[j]?=some x->En w (AG s U w) U u x:=λj u x hu hx=>X7 j u x (by simpa using hu) hx;obtain⟨G,D1,Y7e,J4⟩:=Y8n h args (us:=us.toList) h (.refl _) (by simpa using Ww) Mg jD;have DN:=Y7v h (.refl _) (by simpa using Ww) Mg jD;have jE:=xC jD;refine⟨fn,CK,XN,hP.name g fn CK,?_⟩;have Oc:=(EE.1 D1.AT).1;have XO:∀x∈G,x < w.heap.size:=λx hx=>D1.AR x (CC _ hx)
 let T:Nat->Prop:=DB s s1 U F
 have hTA:Md w T:=⟨h.Cs.Fg.1,h.Cs.Fg.2.1,λx ⟨id,b,h1,h2,h3,h4,h5⟩=>h.Cs.Fg.2.2 x (h.top id b h1 h2 h5 x h4)⟩;have XP:∀x,T x->AJ s U x:=λx ⟨id,b,h1,h2,h3,h4,_⟩=>h.Ek h1 h2 h4;have Y7f:∀x,AJ s1 U x->AJ s U x:=λx ⟨id,b,o,c,sz,h1,h2,h3⟩=>⟨id,b,o,c,sz,J4.sub id b h1,h2,h3⟩;have WT:∀id b,s1.heap id=some b->b.own=true->∀x∈F id,¬T x:=λid b hb ho x hx ⟨Gf,b2,h1,h2,h3,h4,_⟩=>by
  have Yg:id≠Gf:=λe=>by subst e;rw[hb] at h3;cases h3
  have Ec:x∈F Gf:=by
   cases hf:F Gf with
   | nil=>rw[hf] at h4;simp at h4
   | cons y l=>
          rw[hf] at h4;have:y=x:=by simpa using h4
          subst this;exact BJ
  exact h.apart id Gf b b2 (J4.sub id b hb) ho h1 h2 Yg x hx Ec
 have Xcd:∀x,AJ s1 U x->¬T x/\x ∉ G:=λx ⟨id,b,o,c,sz,h1,h2,h3⟩=>by
  have hx:x∈F id:=by
   have:=D1.heap id b h1;rw[h3] at this;exact this.top h2
  exact⟨WT id b h1 h2 x hx,λhg=>D1.A7 id b h1 h2 x hx (CC _ hg)⟩
 have behind:∀(X:Nat->Prop) (xN:Nat->Prop),(∀x,AG s U w x->xN x)->(∀x,xN x->x < w.heap.size/\¬T x)->(Pt r=false/\os.any HI=false\/(∀x,AJ s1 U x->X x))->∀(val:Value) (w':World),QB P (M.AV g) w us xs G T X r os val w'->Ch P B io w tmps s U fl k v s' val w':=by
  intro X xN _ _ xO val w' hd;obtain⟨FH,ok',top',fr,fo,Y96,jF,CU,jG,Y97,VI⟩:=hd;have KZ:∀x,AG s U w x->w'.heap[x]?=w.heap[x]?:=λx hx=>FH.block x hx.2 (λht=>hx.1 (XP x ht));have Xci:∀id b,s1.heap id=some b->∀x∈F id,w'.heap[x]?=w.heap[x]?:=λid b hb x hx=>by
   refine FH.block x (D1.I4 hb x hx) ?_;cases ho:b.own with
   | true=>exact WT id b hb ho x hx
   | false=>
    have hB:=h.heap id b (J4.sub id b hb);unfold Xs at hB;rw[ho] at hB;split at hB
    .cases hB.1
    .rename_i h2;cases h2
    .rw[hB.1] at hx;cases hx
  have XQ:∀x∈fl,x < w.heap.size:=λx hx=>h.AR x hx
  let okc:Nat->Prop:=λx=>AG s U w x\/(ok' x/\¬AJ s1 U x)
  have hRG:Jn P B io w' tmps s1 U F (fo++(fr++fl)) (λx=>AG s U w x\/(ok' x/\¬AJ s1 U x)):=by
   refine⟨λt u hu=>?_,λt ht=>by rw[J4.env];exact h.out t ht,λid b hb=>?_,λid b hb ho x hx=>Hc (D1.CH id b hb ho x hx) FH.size,λid b hb ho Fm x hx=>D1.top id b hb ho Fm x hx,D1.apart,D1.once,λid Zt=>D1.C4 id Zt,h.Cs.step FH.size (λk hk Hi=>FH.block k (Hc hk h.base) (λ⟨id,b,h1,h2,h3,h4,h5⟩=>by
    rcases h.top id b h1 h2 h5 k h4 with h6|h6
    .exact Hi h6
    .omega)),λx hx=>?_,λid b hb ho x hx Ec=>?_,?_⟩
   .rw[J4.env]
    exact ((h.env t u hu).world KZ).ext (λx hx=>.inl hx) (λ_ _ h=>h)
   .exact ((h.heap id b (J4.sub id b hb)).world KZ (Xci id b hb)).ext (λx hx=>.inl hx) (λ_ _ h=>h)
   .rcases BU.1 hx with hx|hx
    .exact (jG x (Ds _ hx)).1
    .rcases BU.1 hx with hx|hx
     .exact (jG x (CC _ hx)).1
     .exact Hc (XQ x hx) FH.size
   .have Z7:=D1.CH id b hb ho x hx
    have nf:x ∉ fr++fo:=λhm=>by
     rcases (jG x hm).2 with hG|NQ
     .exact D1.A7 id b hb ho x hx (CC _ hG)
     .omega
    rcases BU.1 Ec with Ec|Ec
    .exact nf (Ds _ Ec)
    .rcases BU.1 Ec with Ec|Ec
     .exact nf (CC _ Ec)
     .exact D1.A7 id b hb ho x hx (Ds _ Ec)
   .have n1:((fr++fo)++fl).Nodup:=EE.2 ⟨CU,h.AT,λx hx y hy e=>by
     subst e;rcases (jG x hx).2 with hG|NQ
     .exact (EE.1 D1.AT).2.2 x hG x hy rfl
     .have:=XQ x hy;omega⟩
    have p1:(fo++(fr++fl)).Perm ((fr++fo)++fl):=by
     rw[<-List.append_assoc];exact Vee _ gF
    exact p1.nodup_iff.2 n1
  have Y7g:∀x,top' x->io x\/B<=x:=λx hx=>by
   rcases Y97 x hx with⟨id,b,h1,h2,h3,h4,h5⟩|NQ
   .exact h.top id b h1 h2 h5 x h4
   .have:=h.base;exact .inr (by omega)
  have Y98:Pt r=false/\os.any HI=false\/∀x,ok' x->(AG s U w x\/(ok' x/\¬AJ s1 U x)):=by
   rcases xO with h1|h1
   .exact .inl h1
   .exact .inr λx hx=>.inr ⟨hx,λht=>(VI x hx).2.2 (h1 x ht)⟩
  have Xcj:Ft P w' (λx=>AG s U w x\/(ok' x/\¬AJ s1 U x)) top' (M.AV g) us.toList ys os fo:=
   Y5n (Y71 Ej jF) (Y98.symm.imp (λh=>h) (λh=>h.2))
  have Xck:Fu P w' (λx=>AG s U w x\/(ok' x/\¬AJ s1 U x)) top' val r fr:=by
   rcases Y98 with h1|h1
   .exact Y6j Y96 h1.1
   .exact Y8p Y96 h1
  have Y99:∀id:Id,id.1=s.ep->id.2 / 1024=k->U id=none/\s1.heap id=none:=λid h1 h2=>by
   have hn:=Y4 id h1 h2;refine⟨hn,?_⟩;cases hb:s1.heap id with
   | none=>rfl
   | some b=>
    exfalso;have hB:=D1.heap id b hb;rw[hn] at hB;unfold Xs at hB;split at hB
    .obtain⟨_,_,_,_,_,hi,_⟩:=hB;cases hi
    .rcases hB with⟨hi,_⟩|⟨_,_,_,_,hi,_⟩<;>cases hi
    .obtain⟨_,hB⟩:=hB
     rcases hB with⟨hi,_⟩|⟨_,_,_,_,hi,_⟩<;>cases hi
  obtain⟨U2,F2,t2⟩:=Y8c (e:=s.ep) (k:=16*k+8) args hRG DN Xcj (λj u x hu hx=>⟨w,AG s U w,Mg j u x hu hx⟩) Y7g (by rw[J4.ep];exact B2 _) (λj hj Z7=>Y99 _ rfl (by simp only;omega)) jE.1.1 (λid Zt=>(jE.1.2 id Zt).1) XM;have xP:∀id∈EL (M.AV g) args,∀j,64*(16*k)<=j->j < 64*(16*k+8)->id≠(s.ep,j):=λid Zt j hj Z7 e=>by
   subst e;obtain⟨b,hb⟩:=(jE.1.2 _ Zt).2;have hB:=h.heap _ b hb;rw[Y4 (s.ep,j) rfl (by simp only;omega)] at hB;unfold Xs at hB;split at hB
   .obtain⟨_,_,_,_,_,hi,_⟩:=hB;cases hi
   .rcases hB with⟨hi,_⟩|⟨_,_,_,_,hi,_⟩<;>cases hi
   .obtain⟨_,hB⟩:=hB
    rcases hB with⟨hi,_⟩|⟨_,_,_,_,hi,_⟩<;>cases hi
  obtain⟨U3,F3,t3,en3⟩:=Y14 (e:=s.ep) (k:=16*k) t2.rel Xck Y7g (by rw[t2.ep,J4.ep];exact B2 _) (λj hj Z7=>by
   obtain⟨a1,a2⟩:=Y99 (s.ep,j) rfl (by simp only;omega);have XK:¬((((s.ep,j):Id).1=s.ep/\64*(16*k+8)<=((s.ep,j):Id).2/\((s.ep,j):Id).2 < 64*(16*k+8+args.length))\/(s.ep,j)∈EL (M.AV g) args):=λhh=>by
    rcases hh with hh|hh
    .have:=hh.2.1;simp only at this;omega
    .exact xP _ hh j hj Z7 rfl
   refine⟨?_,by rw[t2.heap _ XK];exact a2⟩;cases hr:U2 (s.ep,j) with
   | none=>rfl
   | some i=>
    rcases t2.C4 _ (by rw[hr];rfl) with hh|hh
    .rw[a1] at hh;cases hh
    .exact absurd hh XK) Ty
  have XR:∀x,(AG s U w x\/(ok' x/\¬AJ s1 U x))->AG s' U3 w' x:=λx hx=>by
   have Xaa:AJ s' U3 x->AJ s1 U x\/top' x:=λht=>by
    rcases t3.AJ x ht with h1|h1
    .exact t2.AJ x h1
    .exact .inr h1
   rcases hx with hx|hx
   .refine⟨λht=>?_,Hc hx.2 FH.size⟩
    rcases Xaa ht with h1|h1
    .exact hx.1 (Y7f x h1)
    .rcases Y97 x h1 with h2|h2
     .exact hx.1 (XP x h2)
     .have:=hx.2;omega
   .refine⟨λht=>?_,(VI x hx.1).1⟩
    rcases Xaa ht with h1|h1
    .exact hx.2 h1
    .exact (VI x hx.1).2.1 h1
  refine⟨by rw[t3.env,t2.env,J4.env],by rw[t3.ep,t2.ep,J4.ep],⟨FH.os,FH.tape,FH.output,FH.size,λx hx Hi=>FH.block x (by have:=h.base;omega) (λ⟨id,b,h1,h2,h3,h4,h5⟩=>?_)⟩,U3,F3,t3.rel.IG XR,en3.ext XR (λ_ _ h=>h),λid i hi=>t3.ext id i (t2.ext id i hi),λid Zt=>?_⟩
  .rcases h.top id b h1 h2 h5 x h4 with h6|h6
   .exact Hi h6
   .omega
  .rcases t3.C4 id Zt with h1|h1
   .rcases t2.C4 id h1 with h2|h2
    .exact .inl h2
    .rcases h2 with h2|h2
     .exact .inr ⟨h2.1,by omega⟩
     .left
      obtain⟨b,hb⟩:=(jE.1.2 id h2).2;have hB:=h.heap id b hb;cases hr:U id with
      | some i=>rfl
      | none=>
       exfalso;rw[hr] at hB;unfold Xs at hB;split at hB
       .obtain⟨_,_,_,_,_,hi,_⟩:=hB;cases hi
       .rcases hB with⟨hi,_⟩|⟨_,_,_,_,hi,_⟩<;>cases hi
       .obtain⟨_,hB⟩:=hB
        rcases hB with⟨hi,_⟩|⟨_,_,_,_,hi,_⟩<;>cases hi
   .exact .inr ⟨h1.1,by omega⟩
 by_cases jH:Pt r=false/\os.any HI=false
 .have jI:∀x,AG s U w x->x < w.heap.size/\¬T x/\¬False:=λx hx=>⟨hx.2,λht=>hx.1 (XP x ht),λh=>h⟩
  refine (Yqe w us G T (λ_=>False) (λx=>x < w.heap.size/\¬T x) hTA ?_ Oc (λx hx=>⟨XO x hx,λh=>h⟩) (λx hx=>⟨hx.1,hx.2,λh=>h⟩) (λx hx=>hx.elim)).mono (λe w' ⟨val,he,hd⟩=>⟨val,he,behind _ (λx=>x < w.heap.size/\¬T x) (λx hx=>⟨(jI x hx).1,(jI x hx).2.1⟩) (λx hx=>hx) (.inl jH) val w' hd⟩);refine Yt4 h J4 (λx hx=>⟨(jI x hx).1,(jI x hx).2.1⟩) Y7e (.inr λid b x o c sz hb ho hU=>?_) Ej;have hx:x∈F id:=by
   have:=D1.heap id b hb;rw[hU] at this;exact this.top ho
  exact⟨D1.CH id b hb ho x hx,WT id b hb ho x hx⟩
 .have NT:Iv (M.AV g) args=true:=by
   cases hp:Iv (M.AV g) args with
   | true=>rfl
   | false=>
    exfalso;apply Xch;rw[hp];cases h1:Pt r<;>cases h2:os.any HI<;>simp;exact jH ⟨h1,h2⟩
  refine (Yqe w us G T (AJ s1 U) (AG s U w) hTA ?_ Oc (λx hx=>⟨XO x hx,λht=>(Xcd x ht).2 hx⟩) (λx hx=>⟨hx.2,λht=>hx.1 (XP x ht),λht=>hx.1 (Y7f x ht)⟩) (λx hx=>?_)).mono (λe w' ⟨val,he,hd⟩=>⟨val,he,behind _ (AG s U w) (λx hx=>hx) (λx hx=>⟨hx.2,λht=>hx.1 (XP x ht)⟩) (.inr λx hx=>hx) val w' hd⟩)
  .exact Yt4 h J4 (λx hx=>hx) Y7e (.inl (Yyw jD NT)) Ej
  .obtain⟨id,b,o,c,sz,h1,h2,h3⟩:=hx
   have hB:=D1.heap id b h1;rw[h3] at hB;unfold Xs at hB;split at hB
   .obtain⟨_,g',cur,e,row,hi,hg,_⟩:=hB
    cases hi;exact⟨cur,e,hg⟩
   .rcases hB with⟨hi,_⟩|⟨g',o',c',cur,hi,hg,_⟩
    .cases hi
    .cases hi;exact⟨cur,_,hg⟩
   .rename_i hh;rw[h2] at hh;cases hh
end
end Go.Proofs.YthdljdelfgofdaaGreatDoor.Ev
namespace Go.Proofs.YthdljdelfgofdaaGreatDoor.Ev
open Go
variable [Anchor]
def My (op:BinOp) (k k':IntKind) (a b:Int):Option V:=
 match op with
 | .shl=>if b < 0 then none else some (.lit (.int k (k.wrap (a*2^min b.toNat k.bits))))
 | .shr=>if b < 0 then none else some (.lit (.int k (a.fdiv (2^min b.toNat k.bits))))
 | op=>if k=k' then match op with
  | .add=>some (.lit (.int k (k.wrap (a+b))))
  | .sub=>some (.lit (.int k (k.wrap (a - b))))
  | .mul=>some (.lit (.int k (k.wrap (a*b))))
  | .quo=>if b=0 then none else some (.lit (.int k (k.wrap (a.tdiv b))))
  | .rem=>if b=0 then none else some (.lit (.int k (a.tmod b)))
  | .and=>some (.lit (.int k (k.wrap ((BitVec.ofInt k.bits a &&& BitVec.ofInt k.bits b).toNat))))
  | .or=>some (.lit (.int k (k.wrap ((BitVec.ofInt k.bits a ||| BitVec.ofInt k.bits b).toNat))))
  | .xor=>some (.lit (.int k (k.wrap ((BitVec.ofInt k.bits a ^^^ BitVec.ofInt k.bits b).toNat))))
  | .andNot=>some (.lit (.int k (k.wrap ((BitVec.ofInt k.bits a &&& ~~~BitVec.ofInt k.bits b).toNat))))
  | .eql=>some (.lit (.bool (decide (a=b))))
  | .neq=>some (.lit (.bool (decide (a≠b))))
  | .lss=>some (.lit (.bool (decide (a < b))))
  | .leq=>some (.lit (.bool (decide (a<=b))))
  | .gtr=>some (.lit (.bool (decide (a > b))))
  | .geq=>some (.lit (.bool (decide (a≥b))))
  | _=>none
  else none
def IN (op:BinOp) (a b:ByteArray):Option V:=
 match op with
 | .add=>if ((a.size+b.size:Nat):Int) > IntKind.i64.max then none else some (.lit (.string (a++b)))
 | .eql=>some (.lit (.bool (a.toList == b.toList)))
 | .neq=>some (.lit (.bool (!(a.toList == b.toList))))
 | .lss=>some (.lit (.bool (Go.Op.bytesLess a.toList b.toList)))
 | .leq=>some (.lit (.bool (Go.Op.bytesLess a.toList b.toList||a.toList == b.toList)))
 | .gtr=>some (.lit (.bool (!(Go.Op.bytesLess a.toList b.toList||a.toList == b.toList))))
 | .geq=>some (.lit (.bool (!(Go.Op.bytesLess a.toList b.toList))))
 | _=>none
section
variable {P:Program} {v:Operand->V}
theorem Xo {α β:Type} (x:Sem α) (f:α->Sem β):eval? P (x >>= f)=(eval? P x).bind λa=>eval? P (f a):=by
 induction x with
 | pure a=>rfl
 | program k ih=>exact ih P
 | _=>rfl
theorem XS {α β:Type} (x:Sem α) (f:α->β):eval? P (f <$> x)=(eval? P x).map f:=by
 induction x with
 | pure a=>rfl
 | program k ih=>exact ih P
 | _=>rfl
def EN (P:Program) (op:BinOp) (t:TypeId) (x y:Operand) (X Y:V):Option V:=
 if (Qp X).isSome&&(Qp Y).isSome then (eval? P (do eqGuard op t x y ((Qp X).getD undef) ((Qp Y).getD undef);binOp op t ((Qp X).getD undef) ((Qp Y).getD undef))).bind G2 else none
theorem xQ {x:Sem Value}:(match eval? P (Next.value <$> x) with|some (.value v)=>G2 v|_=>none)=(eval? P x).bind G2:=by
 rw[XS];cases eval? P x<;>rfl
theorem Y6i {d:Option Tmp} {op:BinOp} {t yt ty:TypeId} {x y:Operand} {p:String} {af:Array Edge} {g:Option (Nat×Bool)}:Qc P v ⟨d,.binOp op t x y yt,ty,p,af,g⟩=EN P op t x y (v x) (v y):=by
 unfold Qc EN;rw[<-xQ];simp only[N9,Op.operands,Hd,DW,Vx,KK];rfl
theorem Yyq {op:BinOp} {t:TypeId} {x y:Operand} {k k':IntKind} {a b:Int}:eqGuard op t x y (.int k a) (.int k' b)=pure ():=by
 unfold eqGuard;cases op<;>rfl
theorem Yx2 {op:BinOp} {t:TypeId} {x y:Operand} {a b:ByteArray}:eqGuard op t x y (.string a) (.string b)=pure ():=by
 unfold eqGuard;cases op<;>rfl
theorem Yb6 {op:BinOp} {t:TypeId} {x y:Operand} {a b:Bool}:eqGuard op t x y (.bool a) (.bool b)=pure ():=by
 unfold eqGuard;cases op<;>rfl
theorem Y7k {op:BinOp} {t:TypeId} {x y:Operand} {k k':IntKind} {a b:Int}:EN P op t x y (.lit (.int k a)) (.lit (.int k' b))=My op k k' a b:=by
 have e:EN P op t x y (.lit (.int k a)) (.lit (.int k' b))=(eval? P (binOp op t (.int k a) (.int k' b))).bind G2:=by
  simp only[EN,Qp,Pn,LW,if_true,Ga,Yyq];rfl
 rw[e];unfold binOp;by_cases hk:k=k'
 .subst hk
  cases op<;>simp only[ne_eq,not_true,if_false,if_true,My]<;>first|rfl|skip
  .unfold Go.Op.intDiv;by_cases hb:b=0<;>simp only[hb,if_true,if_false]<;>rfl
  .unfold Go.Op.intDiv;by_cases hb:b=0<;>simp only[hb,if_true,if_false]<;>rfl
  .unfold Go.Op.shift;by_cases hb:b < 0<;>simp only[hb,if_true,if_false]<;>rfl
  .unfold Go.Op.shift;by_cases hb:b < 0<;>simp only[hb,if_true,if_false]<;>rfl
  .simp only[Go.Op.intCmp,bne];exact congrArg (λc=>some (V.lit (.bool c))) (by by_cases h:a=b<;>simp[h])
 .cases op<;>simp only[ne_eq,hk,not_false_eq_true,if_true,if_false,My]<;>first|rfl|skip
  .unfold Go.Op.shift;by_cases hb:b < 0<;>simp only[hb,if_true,if_false]<;>rfl
  .unfold Go.Op.shift;by_cases hb:b < 0<;>simp only[hb,if_true,if_false]<;>rfl
theorem Y7w {op:BinOp} {t:TypeId} {x y:Operand} {a b:ByteArray}:EN P op t x y (.lit (.string a)) (.lit (.string b))=IN op a b:=by
 have e:EN P op t x y (.lit (.string a)) (.lit (.string b))=(eval? P (binOp op t (.string a) (.string b))).bind G2:=by
  simp only[EN,Qp,Pn,LW,if_true,Ga,Yx2];rfl
 rw[e];unfold binOp;cases op<;>simp only[IN]<;>first|rfl|skip
 unfold Go.Op.stringOp;simp only[];by_cases hb:((a.size+b.size:Nat):Int) > IntKind.i64.max<;>simp only[hb,if_true,if_false]<;>rfl
theorem Yl2 {t:TypeId} {a b:Bool} (ht:P.underlying t=some .bool):eval? P (Go.Op.equal t (.bool a) (.bool b))=some (a == b):=by
 have hu:eval? P (underlying t)=some .bool:=by
  unfold underlying;rw[Xo];show eval? P (match P.underlying t with|some d=>pure d|none=>stuck "no such type" : Sem TypeDesc)=some .bool;rw[ht];rfl
 show eval? P (Go.Op.equalIn (9999+1) t (.bool a) (.bool b))=_;unfold Go.Op.equalIn;rw[Xo,hu];rfl
theorem Y9a {t:TypeId} {x y:Operand} {a b:Bool} (ht:P.underlying t=some .bool):EN P .eql t x y (.lit (.bool a)) (.lit (.bool b))=some (.lit (.bool (a == b))):=by
 simp only[EN,Qp,Pn,LW,if_true,Ga,Yb6];have e:(pure () >>=λ_=>binOp .eql t (.bool a) (.bool b):Sem Value)=((λb=>Value.bool b) <$> Go.Op.equal t (.bool a) (.bool b)):=rfl;rw[e,XS,Yl2 ht];rfl
theorem Y75 {t:TypeId} {x y:Operand} {a b:Bool} (ht:P.underlying t=some .bool):EN P .neq t x y (.lit (.bool a)) (.lit (.bool b))=some (.lit (.bool (a != b))):=by
 simp only[EN,Qp,Pn,LW,if_true,Ga,Yb6];have e:(pure () >>=λ_=>binOp .neq t (.bool a) (.bool b):Sem Value)=((λb=>Value.bool (!b)) <$> Go.Op.equal t (.bool a) (.bool b)):=rfl;rw[e,XS,Yl2 ht];rfl
end
def IP (b:ByteArray) (i:V):Option Int:=(Wz i).bind λn=>(b[n]?).map λc=>(c.toNat:Int)
def QK (b:ByteArray) (lo hi:Option V):Option ByteArray:=
 (match hi with|some v=>Wz v|none=>some b.size).bind λh=>(match lo with|some v=>Wz v|none=>some 0).bind λl=>if l<=h/\h<=b.size then some (b.extract l h) else none
def Mz (rows:List (List V)):Option ByteArray:=(NC rows).map λbs=>⟨bs.toArray⟩
section
variable {P:Program} {v:Operand->V} {d:Option Tmp} {t ty:TypeId} {x ix:Operand} {p:String} {af:Array Edge} {g:Option (Nat×Bool)} {b:ByteArray}
theorem xR {t:TypeId} {d:TypeDesc} (ht:P.underlying t=some d):eval? P (underlying t)=some d:=by
 unfold underlying;rw[Xo];show eval? P (match P.underlying t with|some d=>pure d|none=>stuck "no such type" : Sem TypeDesc)=some d;rw[ht];rfl
theorem XT {x:V} {n:Nat} (h:Wz x=some n):∃k i,x=.lit (.int k i)/\0<=i/\n=i.toNat:=by
 unfold Wz at h;split at h
 .rename_i k i
  split at h
  .rename_i h0;injection h with h;exact⟨k,i,rfl,h0,h.symm⟩
  .cases h
 .cases h
theorem Y9h {m:Int} (ht:P.underlying t=some .string) (hx:v x=.lit (.string b)) (h:IP b (v ix)=some m):Qc P v ⟨d,.index t x ix,ty,p,af,g⟩=some (.lit (.int .u8 m)):=by
 unfold IP at h;obtain⟨n,hn,h⟩:=A8.1 h;obtain⟨c,hc,rfl⟩:=AL.1 h;obtain⟨k,i,hi,h0,rfl⟩:=XT hn;have key:Qc P v ⟨d,.index t x ix,ty,p,af,g⟩=if (Qp (v x)).isSome&&(Qp (v ix)).isSome then (eval? P (Instr.index t ((Qp (v x)).getD undef) ((Qp (v ix)).getD undef))).bind G2 else none:=by
  unfold Qc;rw[<-xQ];simp only[N9,Op.operands,Hd,DW,Vx,KK];rfl
 rw[key,hx,hi];show (eval? P (Instr.index t (.string b) (.int k i))).bind G2=_;have e:eval? P (Instr.index t (.string b) (.int k i))=some (.int .u8 c.toNat):=by
  unfold Instr.index;rw[Xo];show eval? P (underlying t >>= _)=_;rw[Xo,xR ht,Ag];show eval? P (match (if 0<=i then b[i.toNat]? else none:Option UInt8) with|some b=>(pure (Value.int .u8 b.toNat):Sem Value)|none=>boundsPanic k i b.size .index)=_;rw[Aj h0,hc];rfl
 rw[e];rfl
theorem xS {k:IntKind} {i:Int} {y:Nat} {code:BoundsCode} (h0:0<=i) (h:i.toNat<=y):eval? P (Instr.sliceBound (.int k i) y code)=some i.toNat:=by
 unfold Instr.sliceBound;rw[Xo];show eval? P (if 0<=i/\i<=y then pure i.toNat else boundsPanic k i y code)=_;rw[Aj ⟨h0,by omega⟩];rfl
theorem Yy3 {n l h:Nat} {lo hi:Option V} (hh:(match hi with|some v=>Wz v|none=>some n)=some h) (hl:(match lo with|some v=>Wz v|none=>some 0)=some l) (h1:l<=h) (h2:h<=n):
  eval? P (Instr.sliceBounds false n n (lo.map λv=>(Qp v).getD undef) (hi.map λv=>(Qp v).getD undef) none)=some (l,h,n):=by
 have pu:∀{α:Type} (a:α),eval? P (pure a:Sem α)=some a:=λ_=>rfl;unfold Instr.sliceBounds;cases hi with
 | none=>
  simp only[AB] at hh;subst hh;cases lo with
  | none=>
   simp only[AB] at hl;subst hl;simp only[gS,Xo,pu,Ag]
  | some u=>
   obtain⟨k,i,rfl,h0,rfl⟩:=XT hl;have e2:=λc=>xS (P:=P) (k:=k) (code:=c) h0 h1;simp only[gS,D8,Qp,Ga,Xo,pu,Ag,e2]
 | some z=>
  obtain⟨k',i',rfl,jJ,rfl⟩:=XT hh;have e1:=λc=>xS (P:=P) (k:=k') (code:=c) jJ h2;cases lo with
  | none=>
   simp only[AB] at hl;subst hl;simp only[gS,D8,Qp,Ga,Xo,pu,Ag,e1]
  | some u=>
   obtain⟨k,i,rfl,h0,rfl⟩:=XT hl;have e2:=λc=>xS (P:=P) (k:=k) (code:=c) h0 h1;simp only[gS,D8,Qp,Ga,Xo,pu,Ag,e1,e2]
theorem Y46 {lo hi:Option Operand} {c:ByteArray} (ht:P.underlying t=some .string) (hx:v x=.lit (.string b)) (h:QK b (lo.map v) (hi.map v)=some c):Qc P v ⟨d,.slice t x lo hi none,ty,p,af,g⟩=some (.lit (.string c)):=by
 unfold QK at h;obtain⟨h',hh,h⟩:=A8.1 h;obtain⟨l,hl,h⟩:=A8.1 h;split at h
 case isFalse=>cases h
 rename_i h1;injection h with h;subst h;have jK:∀{z:Operand} {m:Nat},Wz (v z)=some m->(Qp (v z)).isSome=true:=λ{z m} ho=>by
  obtain⟨k,i,e,_⟩:=XT ho;rw[e];rfl
 have key:Qc P v ⟨d,.slice t x lo hi none,ty,p,af,g⟩=(eval? P (Instr.sliceAt t ((Qp (v x)).getD undef) (lo.map λy=>(Qp (v y)).getD undef) (hi.map λy=>(Qp (v y)).getD undef) none)).bind G2:=by
  unfold Qc;rw[<-xQ];rw[Aj (by
   simp only[N9,Hd,Cd];intro y hy;cases lo with
   | none=>cases hi with
    | none=>
     have:y=x:=by simpa [Op.operands] using hy
     subst this;rw[hx];rfl
    | some z=>
     have:y=x\/y=z:=by simpa [Op.operands] using hy
     rcases this with e|e
     .subst e;rw[hx];rfl
     .subst e;exact jK (m:=h') hh
   | some u=>cases hi with
    | none=>
     have:y=x\/y=u:=by simpa [Op.operands] using hy
     rcases this with e|e
     .subst e;rw[hx];rfl
     .subst e;exact jK (m:=l) hl
    | some z=>
     have:y=x\/y=u\/y=z:=by simpa [Op.operands] using hy
     rcases this with e|e|e
     .subst e;rw[hx];rfl
     .subst e;exact jK (m:=l) hl
     .subst e;exact jK (m:=h') hh)]
  rfl
 rw[key,hx];have em:∀o:Option Operand,(o.map λy=>(Qp (v y)).getD undef)=(o.map v).map λz=>(Qp z).getD undef:=λo=>by cases o<;>rfl
 rw[em,em];have e:eval? P (Instr.sliceAt t (.string b) ((lo.map v).map λz=>(Qp z).getD undef) ((hi.map v).map λz=>(Qp z).getD undef) none)=some (.string (b.extract l h')):=by
  unfold Instr.sliceAt;rw[Xo,xR ht];show eval? P (Instr.slice t (.string b) _ _ none)=_;unfold Instr.slice;rw[Xo,xR ht];show eval? P (Instr.sliceBounds false b.size b.size _ _ none >>= _)=_;rw[Xo,Yy3 hh hl h1.1 h1.2];rfl
 show (eval? P (Instr.sliceAt t (.string b) _ _ none)).bind G2=_;rw[e];rfl
end
end Go.Proofs.YthdljdelfgofdaaGreatDoor.Ev
namespace Go.Proofs.YthdljdelfgofdaaGreatDoor.Ev
open Go Go.RowKit Go.ChangeShapes Go.WideShapes
section
variable {H:Type} {enc:TypeId×Value->H} {P:Program} {w:World}
def okW (w:World) (g:Nat):Prop:=g < w.heap.size
def M0 (w:World) (cs:List Value) (xs:List V):Prop:=cs.length=xs.length/\∀(k:Nat) (v:Value) (x:V),cs[k]?=some v->xs[k]?=some x->Rd w (okW w) v x
theorem M0.one {v:Value} {x:V} (h:Rd w (okW w) v x):M0 w [v] [x]:=by
 refine⟨rfl,λk u y h1 h2=>?_⟩;cases k with
 | zero=>simp at h1 h2;subst h1;subst h2;exact h
 | succ k=>simp at h1
theorem M0.append {cs ds:List Value} {xs ys:List V} (h:M0 w cs xs) (k:M0 w ds ys):M0 w (cs++ds) (xs++ys):=by
 refine⟨by rw[Cy,Cy,h.1,k.1],λi v x h1 h2=>?_⟩;rcases KN i cs.length with hi|hi
 .rw[EX hi] at h1
  rw[EX (by rw[<-h.1];exact hi)] at h2;exact h.2 i v x h1 h2
 .rw[FE hi] at h1
  rw[FE (by rw[<-h.1];exact hi),<-h.1] at h2;exact k.2 _ v x h1 h2
def IQ {α:Type} (enc:TypeId×Value->H) (P:Program) (w:World) (t:TypeId) (e:α->List V) (Q:α->Prop):Prop:=
 ∀(fuel:Nat) (cs:List Value) (x:DataW H×List MemPlace),DataW.trod enc P w 0 (λ_=>true) true fuel t cs=some x->∃a,M0 w cs (e a)/\Q a
theorem Xbj {t:TypeId} {k:IntKind} (ht:P.underlying t=some (.int k)):IQ enc P w t (λn:Int=>[.lit (.int k n)]) (λn=>(Lit.int k n).wf=true):=by
 intro fuel cs x h;obtain⟨n,rfl,_,hw⟩:=DataW.trod_int ht h;exact⟨n,.one (.lit rfl),hw⟩
theorem XU {t:TypeId} (ht:P.underlying t=some .bool):IQ enc P w t (λb:Bool=>[.lit (.bool b)]) (λ_=>True):=by
 intro fuel cs x h;obtain⟨n,rfl,_⟩:=DataW.trod_bool ht h;exact⟨n,.one (.lit rfl),trivial⟩
theorem jL {α β:Type} {t:TypeId} {e:α->List V} {e':β->List V} {Q:α->Prop} {Q':β->Prop} (h:IQ enc P w t e Q) (f:α->β) (he:∀a,Q a->e' (f a)=e a) (hq:∀a,Q a->Q' (f a)):IQ enc P w t e' Q':=by
 intro fuel cs x hx;obtain⟨a,h1,h2⟩:=h fuel cs x hx;exact⟨f a,by rw[he a h2];exact h1,hq a h2⟩
theorem Y5x {α:Type} {t el:TypeId} {e:α->List V} {Q:α->Prop} (ht:P.underlying t=some (.slice el)) (hs:∀a,(e a).length=P.cellsOf el) (hz:P.cellsOf el≠0) (he:IQ enc P w el e Q):
  IQ enc P w t (λxs:List α=>[.tr (xs.map e)]) (λxs=>xs.length<=maxLen/\∀x∈xs,Q x):=by
 intro fuel cs x h;rcases DataW.trod_slice ht h with⟨rfl,_⟩|⟨a,len,cap,elems,rest,n,_,rfl,rfl,hb,hl,hm,Yo,PF,_,_⟩
 .exact⟨[],.one .emp,by simp,by simp⟩
 .have each:∀i:Fin len,∃p,∃c:List Value,M0 w c (e p)/\Q p/\c.length=P.cellsOf el/\∀(j:Nat) (u:Value),c[j]?=some u->w.cell? (a.add (i.1*P.cellsOf el+j))=some u:=by
   intro i;have h1:=PF i.1 i.2;have h2:elems[i.1]?=some elems[i.1]:=CB (by omega);rw[h2] at h1;obtain⟨c,hc,hy⟩:=A8.1 h1;obtain⟨p,hK,hQ⟩:=he _ _ _ hy;obtain⟨_,W8,Cm⟩:=World.cells?_some hc;refine⟨p,c,hK,hQ,W8,λj u hj=>?_⟩;have KU:j < P.cellsOf el:=by
    have:=(CZ.1 hj).1;omega
   have h3:=Cm j KU;rw[hj] at h3;rw[<-h3]
   congr 1
   simp only[Addr.add];split<;>split<;>split<;>simp_all<;>omega
  refine⟨List.ofFn λi=>Classical.choose (each i),.one ?_,by simp;omega,?_⟩
  .rcases uI len with rfl|M1
   .exact .emp
   .have NN:∀(k:Nat) (x:V),((List.ofFn λi=>Classical.choose (each i)).map e).flatten[k]?=some x->∃v,w.cell? (a.add k)=some v/\Rd w (okW w) v x:=by
     intro k x hk
     haveI:Anchor:=⟨w⟩
     obtain⟨i,j,row,h1,h2,rfl⟩:=u4 (sz:=P.cellsOf el) (λr hr=>by
      obtain⟨p,_,rfl⟩:=Dx.1 hr;exact hs p) hk
     rw[Dt] at h1;obtain⟨p,h3,rfl⟩:=AL.1 h1;obtain⟨hi,rfl⟩:=CZ.1 h3;rw[List.length_ofFn] at hi;obtain⟨c,hK,hQ,W8,Cm⟩:=Vm (each ⟨i,hi⟩);rw[List.getElem_ofFn] at h2;have KU:j < c.length:=by
      have:=(CZ.1 h2).1;rw[hK.1];exact this
     exact⟨c[j],Cm j _ (CB KU),hK.2 j _ _ (CB KU) h2⟩
    have Xab:a.spot=none:=by
     obtain⟨c,hK,hQ,W8,Cm⟩:=Vm (each ⟨0,M1⟩);have h0:=Cm 0 c[0] (CB (by omega));simp only[gV,He,Addr.add,if_true] at h0;exact World.cell?_spot h0
    obtain⟨g,o,sp⟩:=a;simp only at Xab;subst Xab;have HO:∀k,(Addr.mk g o none).add k=⟨g,o+k,none⟩:=λk=>by
     unfold Addr.add;split
     .rename_i h;rw[h];rfl
     .rfl
    refine .tr (u:=λk=>(w.cell? ⟨g,o+k,none⟩).getD undef) (by simp) hl hm (sz:=P.cellsOf el) (λr hr=>by
      obtain⟨p,_,rfl⟩:=Dx.1 hr;exact hs p) ?_ (λk x hk=>?_) (λk x hk=>?_)
    .obtain⟨c,hK,hQ,W8,Cm⟩:=Vm (each ⟨0,M1⟩)
     have h0:=Cm 0 c[0] (CB (by omega));rw[HO] at h0;exact gX h0
    .obtain⟨v,hv,_⟩:=NN k x hk
     rw[HO] at hv;rw[hv];rfl
    .obtain⟨v,hv,hr⟩:=NN k x hk
     rw[HO] at hv;rw[hv];exact hr
  .intro p hp
   obtain⟨i,rfl⟩:=List.mem_ofFn.1 hp;obtain⟨c,hK,hQ,_⟩:=Vm (each i);exact hQ
def M3 {α:Type} (enc:TypeId×Value->H) (P:Program) (w:World) (fs:List Field) (off sz:Nat) (e:α->List V) (Q:α->Prop):Prop:=
 ∀(n:Nat) (cs:List Value) (xs:List (DataW H×List MemPlace)),cs.length=off+sz->xs.length=fs.length->
  (∀(i:Nat) (f:Field),fs[i]?=some f->DataW.trod enc P w 0 (λ_=>true) true n f.type ((cs.drop f.offset).take (P.cellsOf f.type))=xs[i]?)->∃a,M0 w (cs.drop off) (e a)/\Q a
theorem XV {α:Type} {f:Field} {off sz:Nat} {e:α->List V} {Q:α->Prop} (ho:f.offset=off) (hs:P.cellsOf f.type=sz) (h:IQ enc P w f.type e Q):M3 enc P w [f] off sz e Q:=by
 intro n cs xs hl hx hf;have h0:=hf 0 f rfl
 match xs,hx with
 | [y],_=>
  obtain⟨a,hK,hQ⟩:=h _ _ _ h0;refine⟨a,?_,hQ⟩;rw[ho,hs,D6 (by rw[gN];omega)] at hK;exact hK
theorem Tz {α β:Type} {f:Field} {fs:List Field} {off sa sb:Nat} {a:α->List V} {b:β->List V} {Qa:α->Prop} {Qb:β->Prop} (ho:f.offset=off) (hs:P.cellsOf f.type=sa) (ha:IQ enc P w f.type a Qa)
  (hb:M3 enc P w fs (off+sa) sb b Qb):M3 enc P w (f::fs) off (sa+sb) (λx:α×β=>a x.1++b x.2) (λx=>Qa x.1/\Qb x.2):=by
 intro n cs xs hl hx hf
 match xs,hx with
 | y::ys,hx=>
  have h0:=hf 0 f rfl;obtain⟨x0,hK,hQ⟩:=ha _ _ _ h0;obtain⟨x1,hK1,hQ1⟩:=hb n cs ys (by omega) (by simpa using hx) (λi g hg=>by simpa using hf (i+1) g (by simpa using hg));refine⟨(x0,x1),?_,hQ,hQ1⟩;rw[ho,hs] at hK;have e:cs.drop off=(cs.drop off).take sa++cs.drop (off+sa):=by rw[<-List.drop_drop,gH]
  rw[e];exact hK.append hK1
theorem Xcp {α:Type} {t:TypeId} {fs:Array Field} {e:α->List V} {Q:α->Prop} {sz:Nat} (ht:P.underlying t=some (.struct fs)) (hs:P.cellsOf t=sz) (h:M3 enc P w fs.toList 0 sz e Q):IQ enc P w t e Q:=by
 intro fuel cs x hx;obtain⟨xs,n,_,rfl,hl,jM,hf⟩:=DataW.trod_struct ht hx;obtain⟨a,hK,hQ⟩:=h n cs xs (by omega) (by simpa using jM) (λi f jN=>hf i f (by simpa using jN));exact⟨a,by simpa using hK,hQ⟩
theorem Rd.IS {ok:Nat->Prop} {v:Value} {x:V} (h:Rd w ok v x):Ev.AD x=true:=by
 cases h<;>rfl
theorem Y2v {α:Type} {t el:TypeId} {e:α->V} {Q:α->Prop} {r:Reach} {b0:Nat} {v:Value} {x:DataW H} {p:List MemPlace} (ht:P.underlying t=some (.slice el)) (ho:IQ enc P w t (λa=>[e a]) Q)
  (hv:Value.okWide P w r b0 t v) (h:DataW.Trod enc P w 0 (λ_=>true) true t v x p):∃a:α,Q a/\∀U,En w (okW w) U v (e a):=by
 obtain⟨A0,len,cap,rfl⟩:=okWide_slice ht hv;obtain⟨n,hn⟩:=h;obtain⟨a,hK,hQ⟩:=ho _ _ _ hn
 haveI:Anchor:=⟨w⟩
 exact⟨a,hQ,λU=>(hK.2 0 _ _ rfl rfl).en⟩
theorem Xco {α:Type} {t:TypeId} {fs:Array Field} {e:α->List V} {Q:α->Prop} {r:Reach} {b0:Nat} {v:Value} {x:DataW H} {p:List MemPlace} (ht:P.underlying t=some (.struct fs)) (ho:IQ enc P w t e Q)
  (hv:Value.okWide P w r b0 t v) (h:DataW.Trod enc P w 0 (λ_=>true) true t v x p):∃a:α,Q a/\∀U,En w (okW w) U v (.agg (e a)):=by
 obtain⟨cs,rfl,_⟩:=okWide_struct ht hv;obtain⟨n,hn⟩:=h;obtain⟨a,hK,hQ⟩:=ho _ _ _ hn;simp only[Value.cells] at hK
 haveI:Anchor:=⟨w⟩
 refine⟨a,hQ,λU=>.agg (by rw[<-Array.length_toList];exact hK.1) (λy hy=>?_) (λk u y h1 h2=>(hK.2 k u y (by simpa using h1) h2).en)⟩;obtain⟨k,hk,rfl⟩:=Pm hy;exact (hK.2 k _ _ (CB (by rw[hK.1];exact hk)) (CB hk)).IS
inductive QL (w:World):List Value->List V->Prop
 | nil:QL w [] []
 | cons {u:Value} {x:V} {us:List Value} {xs:List V} (h:∀U,En w (okW w) U u x) (hs:QL w us xs):QL w (u::us) (x::xs)
theorem Xbe:QL w [] []:=.nil
theorem Y7o {u:Value} {x:V} {us:List Value} {xs:List V} (h:∀U,En w (okW w) U u x) (hs:QL w us xs):QL w (u::us) (x::xs):=.cons h hs
theorem Xav {us:List Value} {xs:List V} (h:QL w us xs):∀(j:Nat) (u:Value) (x:V),us[j]?=some u->xs[j]?=some x->∀U,En w (okW w) U u x:=by
 induction h with
 | nil=>intro j u x h1;simp at h1
 | cons h hs ih=>
  intro j u x h1 h2;cases j with
  | zero=>simp at h1 h2;subst h1;subst h2;exact h
  | succ j=>exact ih j u x (by simpa using h1) (by simpa using h2)
theorem Y9t [Anchor] {M:X6} {f:FuncId} {us:List Value} {xs os:List V} (XW:Anchor.w=w) (hm:M.AV f=[]) (hc:Ob P (M.AV f) f xs (.lit (.bool true)) os) (ha:us.length=xs.length) (he:∀(j:Nat) (u:Value) (x:V),us[j]?=some u->xs[j]?=some x->∀U,En w (okW w) U u x):
  Calls P f us.toArray w (λe w'=>e=.returned (.bool true)/\Below w.heap.size w w'):=by
 have hA:∀(us:List Value) (xs:List V),us.length=xs.length->(∀(j:Nat) (u:Value) (x:V),us[j]?=some u->xs[j]?=some x->∀U,En w (okW w) U u x)->NW P w (okW w) (λ_=>False) [] us xs []:=by
  intro us
  induction us with
  | nil=>intro xs hl _;cases xs with
   | nil=>exact .nil
   | cons x xs=>simp at hl
  | cons u us ih=>intro xs hl he;cases xs with
   | nil=>simp at hl
   | cons x xs=>exact .cons (f1:=[]) (f2:=[]) ⟨he 0 u x rfl rfl,rfl⟩ (ih xs (by simpa using hl) (λj v y h1 h2=>he (j+1) v y (by simpa using h1) (by simpa using h2)))
 refine (hc w us.toArray [] (λ_=>False) (λ_=>False) (okW w) ⟨by rw[XW];exact B2 _,λk _=>by rw[XW],λg hg=>hg.elim⟩ (by rw[hm];exact hA us xs ha he) List.nodup_nil (λg hg=>by simp at hg) (λg hg=>⟨hg,λh=>h,λh=>h⟩) (λg hg=>hg.elim)).mono (λe w' ⟨v,hv,hd⟩=>?_);obtain⟨FH,ok',top',fr,fo,Ty,_⟩:=hd;have:v=.bool true:=by
  simp only[Fu] at Ty;cases Ty with
  | lit h=>rfl
 subst this;exact⟨hv,FH.below⟩
end
end Go.Proofs.YthdljdelfgofdaaGreatDoor.Ev
namespace Go.Proofs.YthdljdelfgofdaaGreatDoor.Ev
open Go Go.RowKit
variable [Anchor]
def Lw (P:Program) (c:Code) (Q:Exit->Act->World->Prop) (a:Act) (w:World):Prop:=
 ∀(b:Frame) (k:List Item) (cs:List Frame),∃e a' w',Q e a' w'/\Arrives P (lone (b.at a (.code c::.inLoop c::k)) cs w) b k cs e a' w'
def wpL (P:Program) (c:Code) (Q:Exit->Act->World->Prop) (a:Act) (w:World):Prop:=
 match c with
 | .loop c=>Lw P c Q a w
 | c=>c.wp P Q a w
section
variable {P:Program} {c:Code} {Q:Exit->Act->World->Prop} {a:Act} {w:World}
theorem T0 (h:wpL P c Q a w):c.wp P Q a w:=by
 cases c with
 | loop c=>
  intro b k cs;obtain⟨e,a',w',hq,Z0a⟩:=h b k cs;exact⟨e,a',w',hq,.of_steps (.one step_loop) Z0a⟩
 | _=>exact h
theorem Y80 (h:c.wp P (Exit.then (λa' w'=>Lw P c Q a' w') Q) a w):Lw P c Q a w:=by
 intro b k cs;obtain⟨e,a₁,w₁,hq,Z0a⟩:=h b (.inLoop c::k) cs;cases e with
 | normal=>
  obtain⟨e₂,a₂,w₂,hq₂,Z0a₂⟩:=hq b k cs;exact⟨e₂,a₂,w₂,hq₂,.of_steps (Steps.trans Z0a (.one step_inLoop)) Z0a₂⟩
 | exit id=>exact⟨_,a₁,w₁,hq,.pass (x:=.inLoop c) rfl (λ_ _=>.inl (by simp)) Z0a⟩
 | goto l=>exact⟨_,a₁,w₁,hq,.pass (x:=.inLoop c) rfl (λ_ _=>.inl (by simp)) Z0a⟩
 | ret=>exact⟨_,a₁,w₁,hq,.pass (x:=.inLoop c) rfl (λ_ _=>.inl (by simp)) Z0a⟩
 | panic ch=>exact⟨_,a₁,w₁,hq,.pass (x:=.inLoop c) rfl (λ_ _=>.inl (by simp)) Z0a⟩
 | outgrown=>exact⟨_,a₁,w₁,hq,.pass (x:=.inLoop c) rfl (λ_ _=>.inl (by simp)) Z0a⟩
end
def D0:Id->Prop:=Mv 64000
theorem D0.zero {id:Id} (h:D0 id):id.1=0:=h.1
def XX (P:Program) (B:Nat) (io:Nat->Prop) (fl:List Nat) (w:World) (a:Act) (U:AX) (t':St) (a':Act) (w':World):Prop:=
 ∃U' F',Rel P B io w' a'.tmps t' U' F' fl/\J5 B io w w'/\(∀id i,id.1=0->U id=some i->U' id=some i)/\a'.tmps.size=a.tmps.size/\a'.defers=a.defers
def Cx (P:Program) (c:Code) (S:St) (R:Ex->St->Prop):Prop:=
 ∀(t:St) (B:Nat) (io:Nat->Prop) (w:World) (a:Act) (U:AX) (F:Id->List Nat) (fl:List Nat) (Q:Exit->Act->World->Prop),Qy D0 S t->Rel P B io w a.tmps t U F fl->EJ a.tmps.size c=true->
  (∀ex S' t' a' w',R ex S'->EK D0 t S' t'->XX P B io fl w a U t' a' w'->Q ex.to a' w')->wpL P c Q a w
section
variable {P:Program} {M:X6} {C:Ki} {S:St} {R:Ex->St->Prop} {B:Nat} {io:Nat->Prop} {w w1:World} {a a1 a':Act} {w':World} {U U1:AX} {F F1:Id->List Nat} {fl:List Nat} {t t':St}
theorem GC.x (h:GC P B io fl w a U t' a' w'):XX P B io fl w a U t' a' w':=by
 obtain⟨U',F',h1,h2,h3,h4,h5⟩:=h;exact⟨U',F',h1,h2,λid i _ h=>h3 id i h,h4,h5⟩
theorem XX.trans (hl:J5 B io w w1) (hU:∀id i,id.1=0->U id=some i->U1 id=some i) (ht:a1.tmps.size=a.tmps.size) (hd:a1.defers=a.defers) (h:XX P B io fl w1 a1 U1 t' a' w'):XX P B io fl w a U t' a' w':=by
 obtain⟨U',F',h1,h2,h3,h4,h5⟩:=h;exact⟨U',F',h1,hl.trans h2,λid i h0 h=>h3 id i h0 (hU id i h0 h),h4.trans ht,h5.trans hd⟩
theorem Xb1 (h:R .normal S):Cx P .skip S R:=λt B io w a U F fl Q hE hR hd hQ=>wp_skip (hQ _ _ _ _ _ h hE.three (GC.refl hR).x)
theorem QM (h:R .ret S):Cx P .ret S R:=λt B io w a U F fl Q hE hR hd hQ=>wp_ret (hQ _ _ _ _ _ h hE.three (GC.refl hR).x)
theorem Xat {i:Nat} (h:R (.exit i) S):Cx P (.exit i) S R:=λt B io w a U F fl Q hE hR hd hQ=>wp_exit (hQ _ _ _ _ _ h hE.three (GC.refl hR).x)
def Od (K:St->Prop) (R:Ex->St->Prop):Ex->St->Prop
 | .normal,s=>K s
 | e,s=>R e s
theorem QN {x y:Code} (h:Cx P x S (Od (λs=>Cx P y s R) R)):Cx P (.seq x y) S R:=by
 intro t B io w a U F fl Q hE hR hd hQ;simp only[EJ,Bg] at hd;refine wp_seq (T0 (h t B io w a U F fl _ hE hR hd.1 (λex S' t' a' w' hr hx hA=>?_)));cases ex with
 | normal=>
  obtain⟨U',F',r1,r2,r3,r4,r5⟩:=hA;show y.wp P Q a' w';exact T0 (hr t' B io w' a' U' F' fl Q hx.1 r1 (by rw[r4];exact hd.2) (λex2 S2 t2 a2 w2 C6 Ec xT=>hQ _ _ _ _ _ C6 (hx.trans Ec) (.trans r2 r3 r4 r5 xT)))
 | ret=>exact hQ _ _ _ _ _ hr hx hA
 | exit i=>exact hQ _ _ _ _ _ hr hx hA
theorem Y0i {c:Operand} {x y:Code} {b:Bool} (hc:S.AP c=.lit (.bool b)) (h:Cx P (if b then x else y) S R):Cx P (.cond c x y) S R:=by
 intro t B io w a U F fl Q hE hR hd hQ;simp only[EJ,Bg] at hd;have hv:=hR.AP c;rw[hE.AP,hc] at hv;generalize hq:a.eval c=q at hv;cases hv;refine wp_cond hq (T0 ?_);refine h t B io w a U F fl Q hE hR ?_ hQ;cases b
 .exact hd.2
 .exact hd.1
def inX (i:Nat) (R:Ex->St->Prop):Ex->St->Prop
 | .exit j,s=>if j=i then R .normal s else R (.exit j) s
 | e,s=>R e s
theorem Y83 {i:Nat} {c:Code} (h:Cx P c S (inX i R)):Cx P (.block i c) S R:=by
 intro t B io w a U F fl Q hE hR hd hQ;simp only[EJ] at hd;refine wp_block (T0 (h t B io w a U F fl _ hE hR hd (λex S' t' a' w' hr hx hA=>?_)));cases ex with
 | exit j=>
  show Exit.inBlock i Q (.exit j) a' w';simp only[inX] at hr;by_cases hj:j=i
  .subst hj
   rw[Aj rfl] at hr;simp only[Exit.inBlock,if_true];exact hQ _ _ _ _ _ hr hx hA
  .rw[Ak hj] at hr
   simp only[Exit.inBlock,Ak hj];exact hQ _ _ _ _ _ hr hx hA
 | normal=>exact hQ _ _ _ _ _ hr hx hA
 | ret=>exact hQ _ _ _ _ _ hr hx hA
theorem Xa4 {c:Code} (h:Cx P c S (Od (λs=>Cx P (.loop c) s R) R)):Cx P (.loop c) S R:=by
 intro t B io w a U F fl Q hE hR hd hQ;refine Y80 (T0 (h t B io w a U F fl _ hE hR hd (λex S' t' a' w' hr hx hA=>?_)));cases ex with
 | normal=>
  obtain⟨U',F',r1,r2,r3,r4,r5⟩:=hA;show Lw P c Q a' w';exact hr t' B io w' a' U' F' fl Q hx.1 r1 (by rw[r4];exact hd) (λex2 S2 t2 a2 w2 C6 Ec xT=>hQ _ _ _ _ _ C6 (hx.trans Ec) (.trans r2 r3 r4 r5 xT))
 | ret=>exact hQ _ _ _ _ _ hr hx hA
 | exit i=>exact hQ _ _ _ _ _ hr hx hA
theorem xU {c:Code} {R':Ex->St->Prop} (h:Cx P c S R) (hR:∀e s,R e s->R' e s):Cx P c S R':=λt B io w a U F fl Q hE xV hd hQ=>h t B io w a U F fl Q hE xV hd (λex S' t' a' w' hr=>hQ ex S' t' a' w' (hR _ _ hr))
abbrev xW:=FuncId×List V×V×List V
open Classical in
noncomputable def one (q:xW):Ki:=λf xs=>if f=q.1/\xs=q.2.1 then some q.2.2 else none
def X0:Ki:=λ_ _=>none
def Zq (P:Program) (M:X6) (q:xW):Prop:=(∃fn,P.funcs[q.1]?=some fn/\fn.body.isSome=true)/\Ob P (M.AV q.1) q.1 q.2.1 q.2.2.1 q.2.2.2
theorem QO (hP:Wb P) {q:xW} (h:Zq P M q):HP P M (one q):=Ysn hP λf xs r os hc=>by
 obtain⟨q1,q2,q3,q4⟩:=q;unfold one at hc;split at hc
 .rename_i hh
  obtain⟨rfl,rfl⟩:=hh;injection hc with hc;injection hc with h1 h2;subst h1;subst h2;exact h
 .cases hc
theorem Wl (hP:Wb P):HP P M X0:=Ysn hP λf xs r os hc=>by cases hc
theorem QP (hP:Wb P) (C:Nat->Ki) (hC:∀k,HP P M (C k)) {i:Nat} {ops:Array Oper} {S':St} (he:FG P M C ops ⟨S.env,S.heap,S.ep+1⟩ 0 ops.toList=some S') (h:R .normal S'):Cx P (.region i ops false) S R:=by
 intro t B io w a U F fl Q hE hR hd hQ;have ht:=hE.tick;obtain⟨t',g,x,_⟩:=Qy.XD (D:=D0) (λid h=>h.zero) ops.toList ht.1 (by simp) he;have Y4:∀id:Id,id.1=t.ep+1->U id=none:=λid Zt=>by
  cases hr:U id with
  | none=>rfl
  | some x=>have:=hR.C4 id (by rw[hr];rfl);omega
 refine wp_region ?_;rw[uB,<-Array.length_toList];exact Y9n hC ops.toList hR.tick (by simp) hd (λid h2 _=>Y4 id h2) g (λa' w' hA=>hQ _ _ _ _ _ h (ht.trans x) hA.x)
theorem Xbz (hP:Wb P) (C:Nat->Ki) (hC:∀k,HP P M (C k)) {i:Nat} {ops:Array Oper} (hs:Region.noSelect ops=true) {S':St} (he:Ff P M C ops ⟨S.env,S.heap,S.ep+1⟩ [] 0 ops.toList=some S') (h:R .normal S'):Cx P (.region i ops true) S R:=by
 intro t B io w a U F fl Q hE hR hd hQ;have ht:=hE.tick;obtain⟨t',g,x⟩:=Qy.draw (D:=D0) (λid h=>h.zero) ops.toList ht.1 (by simp) he;have Y4:∀id:Id,id.1=t.ep+1->U id=none:=λid Zt=>by
  cases hr:U id with
  | none=>rfl
  | some x=>have:=hR.C4 id (by rw[hr];rfl);omega
 refine wp_region_any hP.mixed (Y5q hC (hR.tick.drawn _) g Y4 hd (λa' w' hA=>hQ _ _ _ _ _ h (ht.trans x) ?_));obtain⟨U',F',r1,r2,r3,r4,r5⟩:=hA;exact⟨U',F',r1,⟨r2.os,r2.tape,r2.output,r2.size,r2.block⟩,λid i _ h=>r3 id i h,r4,r5⟩
end
section
variable {P:Program} {M:X6} {B:Nat} {io:Nat->Prop} {w:World} {a:Act} {s:St} {U:AX} {F:Id->List Nat} {fl:List Nat} {k:Nat} {o:Oper}
theorem Y2b (h:Rel P B io w a.tmps s U F fl) {t yt e:TypeId} {x y:Operand} (ho:o.op=.binOp .eql t x y yt) (Q0:Qu P t=some e) (hx:s.AP x=.tr []) (hy:s.AP y=.lit (.slice none 0 0)):
  ∃b,Cg P o a w (Ch P B io w a.tmps s U fl k (.lit (.bool b)) s):=by
 have ht:=Me Q0;have WI:∃ad n c,a.eval x=.slice ad n c:=by
  have hR:=h.rowsOf (ok':=λg=>g < w.heap.size) (h.AP x) (by rw[hx];rfl) (λg hg=>hg.2) (λ_ _ _ _ _ _ _ _ _ _ _ _ hg _=>hg);generalize a.eval x=q at hR;cases hR with
  | emp=>exact⟨_,_,_,rfl⟩
  | tr=>exact⟨_,_,_,rfl⟩
 obtain⟨ad,n,c,WI⟩:=WI;have IB:a.eval y=.slice none 0 0:=by
  have:=h.AP y;rw[hy] at this;generalize a.eval y=q at this;cases this;rfl
 refine⟨ad.isNone,.value (v:=.bool ad.isNone) (w':=w) ?_ (.same h (.lit rfl))⟩;have g3:(eqGuard .eql t x y (.slice ad n c) (.slice none 0 0)).run P w=.ok () w:=by simp[eqGuard]
 have g4:(binOp .eql t (.slice ad n c) (.slice none 0 0)).run P w=.ok (.bool ad.isNone) w:=by
  have h1:∀d,(Op.equalIn (d+1) t (.slice ad n c) (.slice none 0 0)).run P w=.ok ad.isNone w:=by
   intro d;cases ad<;>simp[Op.equalIn,run_underlying ht]
  have h2:(Op.equal t (.slice ad n c) (.slice none 0 0)).run P w=.ok ad.isNone w:=h1 9999;simp[binOp,h2]
 simp only[execOp,ho,Sem.run_bind,Sem.run_pure,Result.andThen_ok,WI,IB,g3,g4]
theorem Xay (M:X6) (hP:Wb P) {S:St} {R:Ex->St->Prop} {i:Nat} {d0 d1:Tmp} {x0 y:Operand} {t yt e QQ Lk:TypeId} {p0 p1:String} {QR Ll:Array Edge} (Q0:Qu P t=some e) (hx:S.AP x0=.tr []) (hy:(({S with ep:=S.ep+1}:St).put (some d0) (.tr [])).AP y=.lit (.slice none 0 0))
  (h:∀b,R .normal ((({S with ep:=S.ep+1}:St).put (some d0) (.tr [])).put (some d1) (.lit (.bool b)))):
  Cx P (.region i #[⟨some d0,.move x0,QQ,p0,QR,none⟩,⟨some d1,.binOp .eql t (.tmp d0) y yt,Lk,p1,Ll,none⟩] false) S R:=by
 intro t1 B io w a U F fl Q hE hR hd hQ;have ht:=hE.tick;have XY:∀{s s':St} (x:Operand),s'.env=s.env->s'.AP x=s.AP x:=λ{s s'} x he=>by cases x<;>simp[St.AP,he]
 have Y4:∀id:Id,id.1=t1.ep+1->U id=none:=λid Zt=>by
  cases hr:U id with
  | none=>rfl
  | some x=>have:=hR.C4 id (by rw[hr];rfl);omega
 refine wp_region ?_;show wpOps P _ Q (List.range 2) a w;rw[show List.range 2=[0,1] from rfl,wpOps_cons];have hdd:Ms a.tmps.size [⟨some d0,.move x0,QQ,p0,QR,none⟩,⟨some d1,.binOp .eql t (.tmp d0) y yt,Lk,p1,Ll,none⟩]=true:=hd;have E0:({t1 with ep:=t1.ep+1}:St).AP x0=.tr []:=(XY (s:=S) (s':={t1 with ep:=t1.ep+1}) x0 hE.env).trans hx;refine WV (M:=M) (C:=X0) (v:=.tr []) (s1:={t1 with ep:=t1.ep+1}) (g:=true) hR.tick rfl (iU (i:=0) hdd rfl) rfl (λ_ id h1 _=>Y4 id h1) (λ_=>by simp[Iw,Xj,E0]) (λ_=>Wl hP _ _ _ _ _ _ F _ _ _ _ hR.tick (λid h1 _=>Y4 id h1)) (λa' w' U' F' D1 xX hL1 hU1 hdom1 XZ xY=>?_);simp only[if_true] at D1 xX;rw[wpOps_cons];have YA:(({t1 with ep:=t1.ep+1}:St).put (some d0) (.tr [])).env=(({S with ep:=S.ep+1}:St).put (some d0) (.tr [])).env:=by
  simp[St.put,hE.env]
 have HL:=(XY (s:=({S with ep:=S.ep+1}:St).put (some d0) (.tr [])) (s':=({t1 with ep:=t1.ep+1}:St).put (some d0) (.tr [])) y YA).trans hy;have xZ:(({t1 with ep:=t1.ep+1}:St).put (some d0) (.tr [])).AP (.tmp d0)=.tr []:=by simp[St.AP,St.put,Bi]
 obtain⟨b,hb⟩:=Y2b (k:=1) (o:=⟨some d1,.binOp .eql t (.tmp d0) y yt,Lk,p1,Ll,none⟩) D1 rfl Q0 xZ HL;unfold wpOp;rw[show (#[(⟨some d0,.move x0,QQ,p0,QR,none⟩:Oper),⟨some d1,.binOp .eql t (.tmp d0) y yt,Lk,p1,Ll,none⟩])[1]?=some ⟨some d1,.binOp .eql t (.tmp d0) y yt,Lk,p1,Ll,none⟩ from rfl];simp only;rw[Ypo D1 (o:=⟨some d1,.binOp .eql t (.tmp d0) y yt,Lk,p1,Ll,none⟩) (g:=true) rfl];simp only[if_true];refine .inl (hb.Co _ _ (λval w2 hp=>?_));obtain⟨CN,Yk,hl,U2,F2,Lb,X7,jO,hdom2⟩:=hp;have x5:=Lb.PS (dst:=some d1) (λd hd=>by rw[XZ];exact iU (i:=1) hdd rfl d hd) X7;refine hQ _ _ _ _ _ (h b) ((ht.trans (ht.1.put (some d0) (.tr []))).trans ((ht.1.put (some d0) (.tr [])).1.put (some d1) (.lit (.bool b)))) ⟨U2,F2,x5,hL1.trans hl,λid i h0 hi=>jO _ _ (hU1 _ _ hi),(wH _ _ _).trans XZ,(wI _ _ _).trans xY⟩
end
theorem En.x6 {w:World} {ok:Nat->Prop} {U U':AX} {v:Value} {id:Id} {i off:Nat} (hU:∀i,U id=some i->U' id=some i) (h:En w ok U v (.ptr id i off)):En w ok U' v (.ptr id i off):=by
 generalize hq:V.ptr id i off=q at h;cases h<;>cases hq;rename_i h;exact .ptr (hU _ h)
theorem En.sl0 {w:World} {ok:Nat->Prop} {U U':AX} {v:Value} {id:Id} {off len:Nat} (hU:∀i,U id=some i->U' id=some i) (h:En w ok U v (.sl id off len)):En w ok U' v (.sl id off len):=by
 cases h with
 | sl h hc=>exact .sl (hU _ h) hc
 | sle h=>
  obtain⟨i,hi⟩:=EY.1 h;exact .sle (by rw[hU _ hi];rfl)
theorem Pl.QS {U U':AX} (hU:∀id i,id.1=0->U id=some i->U' id=some i) {p:Nat} {m:Yu} {u:Value} {x:V} (h:Pl U p m u x):Pl U' p m u x:=by
 cases m
 .exact trivial
 .exactλw ok=>(h w ok).x6 (λi=>hU _ i rfl)
 .exact trivial
 .unfold Pl at h ⊢
  simp only at h ⊢;split
  .obtain⟨us,h1,h2,h3⟩:=h
   exact⟨us,h1,h2,λj v e rows hv hc w ok=>(h3 j v e rows hv hc w ok).sl0 (λi=>hU _ i rfl)⟩
  .rename_i Yg
   split at h
   .rename_i cs;exact absurd rfl (Yg cs)
   .exactλe rows he w ok=>(h e rows he w ok).sl0 (λi=>hU _ i rfl)
theorem Oa.QS {U U':AX} (hU:∀id i,id.1=0->U id=some i->U' id=some i) {p:Nat} {ms:List Yu} {us:List Value} {xs:List V} (h:Oa U p ms us xs):Oa U' p ms us xs:=by
 induction h with
 | nil=>exact .nil
 | cons h _ ih=>exact .cons (h.QS hU) ih
def QT (P:Program) (M:X6) (f:FuncId) (fn:Func) (xs:List V) (y:V×List V) (e:Ex) (s:St):Prop:=
 (match e with|.exit _=>False|_=>True)/\((G3 P s fn.results.toList).bind λvs=>(s.liftAll P fn.resultTypes.toList vs).bind λz=>(z.2.outs P 0 fn.params.toList (M.AV f) xs).map λos=>(V1 z.1,os))=some y
section
variable {P:Program} {M:X6}
theorem Xau (hP:Wb P) {f:FuncId} {fn:Func} {c:Code} {xs:List V} {r:V} {os:List V} {s1:St} (CK:P.funcs[f]?=some fn) (hc:fn.body=some c) (x7:St.enters ⟨λ_=>.undef,λ_=>none,0⟩ 0 (M.AV f) xs=some s1)
  (VP:Cx P c s1 (QT P M f fn xs (r,os))):Ob P (M.AV f) f xs r os:=by
 intro w us G T X ok hT M4 Oc hG Yf hX;obtain⟨b,hb⟩:∃b,b=64000:=⟨_,rfl⟩;have hD1:∀id:Id,Mv b id->64000<=id.2:=λid Zt=>by rw[<-hb];exact Zt.2
 have hD0:∀id:Id,Mv b id->id.1=0:=λid Zt=>Zt.1;obtain⟨t1,YB,e1⟩:=Qy.enters hD1 (QC b w X) x7
 let tmps:=us++Array.replicate (fn.ntmps - us.size) undef
 open Classical in
 let HQ:List Nat:=(List.range w.heap.size).filter λg=>decide (g ∉ G/\¬X g)
 have NM:∀g,g∈HQ↔g < w.heap.size/\g ∉ G/\¬X g:=λg=>by
  simp only[HQ,Pp,Vu,Bj]
 have x8:(G++HQ).Nodup:=EE.2 ⟨Oc,List.nodup_range.sublist List.filter_sublist,λx hx y hy e=>by subst e;exact ((NM x).1 hy).2.1 hx⟩;have YC:Jn P w.heap.size T w tmps (DD b w X) (CE b P w X) (λid=>[id.2 - b]) (G++HQ) ok:=
  QD hT hX (λg hg=>by
   rcases BU.1 hg with h|h
   .exact hG g h
   .exact⟨((NM g).1 h).1,((NM g).1 h).2.2⟩) x8
 obtain⟨U1,F1,c1,p1⟩:=Y5b (io:=T) (fl:=HQ) xs YC M4 (λj u hu=>by
  have Z7:=(CZ.1 hu).1;rw[Pq];simp only[tmps];rw[gD (by simpa using Z7)];simpa using hu) rfl (λj h1 h2=>by
  simp only[DD,CE];constructor
  .rw[Ak (λh=>by have:=h.2.1;omega)]
  .rw[Ak (λh=>by have:=h.2.1;omega)]) YB
 have x9:Jn P w.heap.size T w tmps t1 U1 F1 HQ ok:=c1.rel;have D1:Rel P w.heap.size T w tmps t1 U1 F1 HQ:=x9.IG λg hg=>⟨λht=>by
  obtain⟨h1,h2,h3⟩:=Yf g hg;rcases c1.AJ g ht with h4|h4
  .obtain⟨id,bk,o,cc,sz,q1,q2,q3⟩:=h4
   simp only[DD] at q1;split at q1
   .rename_i hh
    obtain⟨cur,e,PR⟩:=hX _ hh.2.2;simp only[CE] at q3;rw[Aj hh] at q3;simp only[XF,PR] at q3;injection q3 with q3;injection q3 with q3;exact h3 (q3▸hh.2.2)
   .cases q1
  .exact h2 h4,(Yf g hg).1⟩
 have hDb:D0=Mv b:=by rw[hb];rfl
 have E4:Qy D0 s1 t1:=by rw[hDb];exact e1.1
 refine calls_of_wp CK hc (T0 (VP t1 w.heap.size T w {tmps:=tmps,defers:=[]} U1 F1 HQ _ E4 D1 ?_ (λex s2 t2 a' w' Lm hx hA=>?_)))
 .refine Y2w ?_ c (hP.dst f fn c CK hc)
  simp only[tmps,uK,Array.size_replicate];omega
 have e2:EK (Mv b) t1 s2 t2:=by rw[<-hDb];exact hx
 obtain⟨yA,Lm⟩:=Lm;obtain⟨vs,Ty,Lm⟩:=A8.1 Lm;obtain⟨⟨ys,s3⟩,YD,Lm⟩:=A8.1 Lm;obtain⟨os',jF,Lm⟩:=AL.1 Lm;simp only[A6] at Lm;obtain⟨rfl,rfl⟩:=Lm;have yB:ex=.normal\/ex=.ret:=by
  cases ex with
  | normal=>exact .inl rfl
  | ret=>exact .inr rfl
  | exit i=>exact yA.elim
 have YE:=e2.1.res Ty;obtain⟨t3,Xcl,e3⟩:=Ext.liftAll e2.1.ext YD;have Xcm:=Ext.outs e3.1 jF;have YF:∀g,X g->t2.heap (0,b+g)=some (Lj w g):=λg hg=>by
  have hd:Mv b (0,b+g):=⟨rfl,by simp⟩;rw[e2.2 _ hd,e1.2 _ hd];simp only[DD];rw[Aj ⟨by trivial,by omega,by rw[Vk];exact hg⟩,Vk]
 obtain⟨U2,F2,Lb,M5,jO,GF,DZ⟩:=hA;obtain⟨rus,Dj,YG,yC⟩:=Xaw Lb fn.results.toList YE;obtain⟨fr,x5,HR,hl3⟩:=Y19 Lb vs (fl1:=HQ) Lb (.refl _) Dj yC Xcl;obtain⟨t4,fo,hd4,YH,xH,hl4⟩:=Xb8 (D:=Mv b) Lb xs x5 hl3 (p1.QS jO) e3.1 jF Xcm;have YI:∀g,X g->∃e,Lj w g=⟨false,true,false,e,[]⟩:=λg hg=>by
  obtain⟨cur,e,PR⟩:=hX g hg;exact⟨e,by simp only[Lj,PR]⟩
 have YJ:∀g,X g->∃o c sz,U2 (0,b+g)=some (.Bl g o c sz):=λg hg=>by
  obtain⟨cur,e,PR⟩:=hX g hg;have h1:CE b P w X (0,b+g)=some (.Bl g cur.size 0 (P.cellsOf e)):=by
   simp only[CE];rw[Aj ⟨by trivial,by omega,by rw[Vk];exact hg⟩,Vk];simp only[XF,PR]
  exact⟨_,_,_,jO _ _ rfl (c1.ext _ _ h1)⟩
 have YK:∀g,X g->AJ t2 U2 g:=λg hg=>by
  obtain⟨e,he⟩:=YI g hg;obtain⟨o,c,sz,hr⟩:=YJ g hg;exact⟨(0,b+g),_,o,c,sz,YF g hg,by rw[he],hr⟩
 have hkt:∀g,DB t2 t4 U2 F2 g->AJ t2 U2 g:=λg ⟨id,bk,h1,h2,h3,h4,_⟩=>Lb.Ek h1 h2 h4;have hXF:∀g,X g->∀x∈fo++(fr++HQ),x≠g:=λg hg x hx e=>by
  subst e;obtain⟨e,he⟩:=YI x hg;obtain⟨o,c,sz,hr⟩:=YJ x hg;have Ld:t4.heap (0,b+x)=some (Lj w x):=by
   have hd:Mv b (0,b+x):=⟨rfl,by simp⟩;rw[hd4 _ hd,e3.2.1 _ hd];exact YF x hg
  have Yw:(Lj w x).own=true:=by rw[he]
  have hB:=YH.heap _ _ Ld;rw[hr] at hB;exact YH.A7 _ _ Ld Yw x (hB.top Yw) hx
 have Xac:bodyPost P fn (λe w'=>∃v,e=.returned v/\QB P (M.AV f) w us xs G T X (V1 ys) os' v w') .normal a' w':=by
  refine⟨DZ,_,Yzr YG,_,rfl,M5,AG t2 U2 w',λg=>DB t2 t4 U2 F2 g,fr,fo,?_,?_,?_,?_,?_,?_⟩
  .exact Fu.of (HR.top λg hg=>hg.left hl4)
  .exact xH.top λg hg=>hg.right hl3
  .have h1:=YH.AT
   rw[<-List.append_assoc] at h1;exact (gF.nodup_iff).1 (EE.1 h1).1
  .intro g hg
   have hm:g∈fo++(fr++HQ):=by
    rcases BU.1 hg with h|h
    .exact Ds _ (CC _ h)
    .exact CC _ h
   refine⟨YH.AR g hm,?_⟩;rcases KN g w.heap.size with Z7|NQ
   .left
    rcases Classical.em (g∈G) with h|h
    .exact h
    .exfalso
     rcases Classical.em (X g) with hx|hx
     .exact hXF g hx g hm rfl
     .have hf:g∈HQ:=(NM g).2 ⟨Z7,h,hx⟩
      have h1:=YH.AT;rw[<-List.append_assoc] at h1;refine (EE.1 h1).2.2 g ?_ g hf rfl;rcases BU.1 hg with h|h
      .exact Ds _ h
      .exact CC _ h
   .exact .inr NQ
  .rintro g ⟨id,bk,h1,h2,h3,h4,h5⟩
   exact Lb.top id bk h1 h2 h5 g h4
  .exactλg hg=>⟨hg.2,λh=>hg.1 (hkt g h),λh=>hg.1 (YK g h)⟩
 rcases yB with rfl|rfl
 .exact Xac
 .exact Xac
theorem Xbw (hP:Wb P) {f:FuncId} {fn:Func} {c:Code} {xs:List V} {r:V} {os:List V} {s1:St} (CK:P.funcs[f]?=some fn) (hc:fn.body=some c) (x7:St.enters ⟨λ_=>.undef,λ_=>none,0⟩ 0 (M.AV f) xs=some s1)
  (VP:Cx P c s1 (QT P M f fn xs (r,os))):Zq P M (f,xs,r,os):=⟨⟨fn,CK,by rw[hc];rfl⟩,Xau hP CK hc x7 VP⟩
end
def T1 (l:List (Nat×V)):Nat->V:=λt=>(l.lookup t).getD .undef
def yD (l:List (Id×Bc)):Id->Option Bc:=λid=>l.lookup id
def Oe (l:List (Nat×V)) (h:List (Id×Bc)) (ep:Nat):St:=⟨T1 l,yD h,ep⟩
def Db (f:List (Id×Id)) (id:Id):Option Id:=if id.1=0 then some id else f.lookup id
def Dc (f:List (Id×Id)):V->V->Prop
 | .undef,_=>True
 | .lit v,y=>y=.lit v
 | .tr rows,y=>y=.tr rows
 | .vw rows,y=>y=.vw rows
 | .rp sh row off,y=>y=.rp sh row off
 | .ptr id i off,.ptr Av i' Fk=>Db f id=some Av/\i=i'/\off=Fk
 | .sl id off len,.sl Av Fk Mh=>Db f id=some Av/\off=Fk/\len=Mh
 | .sl id off len,.lit (.slice none 0 0)=>Db f id=none/\off=0/\len=0
 | _,_=>False
def IT (f:List (Id×Id)):List V->List V->Prop
 | [],[]=>True
 | x::xs,y::ys=>Dc f x y/\IT f xs ys
 | _,_=>False
def VR (f:List (Id×Id)):V->V->Prop
 | .agg xs,.agg ys=>IT f xs ys
 | .AZ xs,.AZ ys=>IT f xs ys
 | .fn g xs,.fn g' ys=>g=g'/\IT f xs ys
 | x,y=>Dc f x y
def BR (f:List (Id×Id)) (S:St) (id:Id) (b:Bc):Prop:=
 match Db f id with
 | none=>b.box=false/\b.own=true/\b.rows=[]
 | some Av=>∃c,S.heap Av=some c/\c.box=b.box/\c.own=b.own/\c.cl=b.cl/\(if b.box then (∃xs ys,b.rows=[xs]/\c.rows=[ys]/\IT f xs ys) else (c.el=b.el/\c.rows=b.rows))
def M6 (h:List (Id×Bc)) (id:Id):Bool:=id.1 == 0||(h.lookup id).isSome
def IU (h:List (Id×Bc)):V->Bool
 | .ptr id _ _|.sl id _ _=>M6 h id
 | .undef=>false
 | _=>true
def IV (h:List (Id×Bc)):V->Bool
 | .agg xs|.AZ xs|.fn _ xs=>xs.all (IU h)
 | x=>IU h x
def hasB (h:List (Id×Bc)) (b:Bc):Bool:=if b.box then b.rows.all (λr=>r.all (IU h)) else true
def jP (f:List (Id×Id)) (l:List (Nat×V)) (h:List (Id×Bc)) (ep:Nat):Bool:=
 decide ((h.filterMap λp=>Db f p.1).Nodup)&&decide ((h.map (·.1)).Nodup)&&h.all (λp=>decide (p.1.1<=ep)&&decide (p.1.2 < 64000))&&l.all (λp=>IV h p.2)&&h.all λp=>hasB h p.2
structure Ln (f:List (Id×Id)) (S:St) (l:List (Nat×V)) (h:List (Id×Bc)) (ep:Nat):Prop where
 env:∀p∈l,VR f p.2 (S.env p.1)
 heap:∀p∈h,BR f S p.1 p.2
 ok:jP f l h ep=true
theorem YL {α β:Type} [BEq α] [LawfulBEq α] {l:List (α×β)} {a:α} {b:β} (h:l.lookup a=some b):(a,b)∈l:=by
 induction l with
 | nil=>simp at h
 | cons p l ih=>
  obtain⟨x,y⟩:=p;simp only[List.lookup] at h;split at h
  .rename_i he
   injection h with h;subst h;rw[eq_of_beq he];exact BJ
  .exact Cp _ (ih h)
section
variable {P:Program} {B:Nat} {io:Nat->Prop} {w:World} {tmps:Array Value} {S t:St} {U:AX} {F:Id->List Nat} {fl:List Nat} {f:List (Id×Id)} {l:List (Nat×V)} {h:List (Id×Bc)} {ep:Nat}
open Classical in
noncomputable def DE (t:St) (l:List (Nat×V)) (h:List (Id×Bc)) (ep:Nat):St:=⟨T1 l,λid=>if D0 id then t.heap id else yD h id,ep⟩
noncomputable def BZ (U:AX) (f:List (Id×Id)) (h:List (Id×Bc)):AX:=λid=>if id.1=0 then U id else if (h.lookup id).isSome then (match f.lookup id with|some Av=>U Av|none=>some .emp) else none
def Of (F:Id->List Nat) (f:List (Id×Id)):Id->List Nat:=λid=>if id.1=0 then F id else match f.lookup id with|some Av=>F Av|none=>[]
theorem M7 {id Av:Id} (hh:M6 h id=true) (hr:Db f id=some Av):BZ U f h id=U Av:=by
 unfold BZ Db at*;by_cases h0:id.1=0
 .rw[Aj h0] at hr ⊢;injection hr with hr;rw[hr]
 .rw[Ak h0] at hr ⊢
  simp only[M6,N7,beq_iff_eq,h0,false_or] at hh;rw[Aj hh,hr]
theorem jQ {id Av:Id} (hr:Db f id=some Av):Of F f id=F Av:=by
 unfold Of Db at*;by_cases h0:id.1=0
 .rw[Aj h0] at hr ⊢;injection hr with hr;rw[hr]
 .rw[Ak h0] at hr ⊢;rw[hr]
theorem yE {id:Id} (hh:M6 h id=true) (hr:Db f id=none):BZ U f h id=some .emp:=by
 unfold BZ Db at*;by_cases h0:id.1=0
 .rw[Aj h0] at hr;cases hr
 .rw[Ak h0] at hr ⊢
  simp only[M6,N7,beq_iff_eq,h0,false_or] at hh;rw[Aj hh,hr]
theorem Y0m {id:Id} (hr:Db f id=none):Of F f id=[]:=by
 unfold Of Db at*;by_cases h0:id.1=0
 .rw[Aj h0] at hr;cases hr
 .rw[Ak h0] at hr ⊢;rw[hr]
theorem Dc.en {ok ok':Nat->Prop} (Yf:∀g,ok g->ok' g) {v:Value} {x y:V} (hh:IU h x=true) (hr:Dc f x y) (hv:En w ok U v y):En w ok' (BZ U f h) v x:=by
 cases x with
 | undef=>exact .undef
 | lit u=>simp only[Dc] at hr;subst hr;cases hv with|lit h=>exact .lit h
 | tr rows=>simp only[Dc] at hr;subst hr;cases hv with|tr h=>exact .tr (h.C2 Yf)
 | vw rows=>simp only[Dc] at hr;subst hr;cases hv with|vw h=>exact .vw (h.C2 Yf)
 | rp sh row off=>simp only[Dc] at hr;subst hr;cases hv with|rp h=>exact .rp (h.C2 Yf)
 | ptr id i off=>
  cases y<;>simp only[Dc] at hr;obtain⟨h1,rfl,rfl⟩:=hr;simp only[IU] at hh;generalize hq:V.ptr _ i off=q at hv;cases hv<;>cases hq;rename_i h2;exact .ptr (by rw[M7 hh h1];exact h2)
 | sl id off len=>
  simp only[IU] at hh;cases y with
  | sl Av Fk Mh=>
   simp only[Dc] at hr;obtain⟨h1,rfl,rfl⟩:=hr;cases hv with
   | sl h2 hc=>exact .sl (by rw[M7 hh h1];exact h2) hc
   | sle h2=>exact .sle (by rw[M7 hh h1];exact h2)
  | lit u=>
   unfold Dc at hr;split at hr<;>rename_i h1 h2<;>first|cases h1|skip
   all_goals first|exact hr.elim|skip
   all_goals try (cases h2)
   obtain⟨h3,rfl,rfl⟩:=hr;cases hv;exact .sle (by rw[yE hh h3];rfl)
  | _=>simp[Dc] at hr
 | agg _=>simp[Dc] at hr
 | AZ _=>simp[Dc] at hr
 | fn _ _=>simp[Dc] at hr
 | own _ _=>simp[Dc] at hr
 | CL _=>simp[Dc] at hr
theorem IT.get:∀{xs ys:List V},IT f xs ys->xs.length=ys.length/\∀(k:Nat) (x:V),xs[k]?=some x->∃y,ys[k]?=some y/\Dc f x y:=by
 intro xs
 induction xs with
 | nil=>intro ys hr;cases ys with
  | nil=>exact⟨rfl,λk x hk=>by simp at hk⟩
  | cons y ys=>exact hr.elim
 | cons x xs ih=>intro ys hr;cases ys with
  | nil=>exact hr.elim
  | cons y ys=>
   obtain⟨h1,h2⟩:=hr;obtain⟨h3,h4⟩:=ih h2;refine⟨by simp[h3],λk z hk=>?_⟩;cases k with
   | zero=>simp at hk;subst hk;exact⟨y,rfl,h1⟩
   | succ k=>simpa using h4 k z (by simpa using hk)
theorem Dc.AD {x y:V} (hr:Dc f x y) (hx:x≠.undef):Ev.AD x=true:=by
 cases x with
 | undef=>exact absurd rfl hx
 | agg _=>simp[Dc] at hr
 | AZ _=>simp[Dc] at hr
 | own _ _=>simp[Dc] at hr
 | CL _=>simp[Dc] at hr
 | fn _ _=>simp[Dc] at hr
 | _=>rfl
theorem IT.all {ok ok':Nat->Prop} (Yf:∀g,ok g->ok' g) {xs ys:List V} (hr:IT f xs ys) (hh:xs.all (IU h)=true) {vs:List Value} (hv:∀(k:Nat) (v:Value) (y:V),vs[k]?=some v->ys[k]?=some y->En w ok U v y):
  ∀(k:Nat) (v:Value) (x:V),vs[k]?=some v->xs[k]?=some x->En w ok' (BZ U f h) v x:=λk v x h1 h2=>by
 obtain⟨y,h3,h4⟩:=hr.get.2 k x h2;exact h4.en Yf (Cd.1 hh x (Eh h2)) (hv k v y h1 h3)
theorem Y0b {x:V} (hh:IU h x=true):x≠.undef:=by rintro rfl;simp[IU] at hh
theorem VR.en {ok ok':Nat->Prop} (Yf:∀g,ok g->ok' g) {v:Value} {x y:V} (hh:IV h x=true) (hr:VR f x y) (hv:En w ok U v y):En w ok' (BZ U f h) v x:=by
 unfold VR at hr;split at hr
 .rename_i xs ys
  simp only[IV] at hh;cases hv with
  | @agg us _ hl hc he=>
   refine .agg (by rw[hl,hr.get.1]) (λx hx=>?_) (λk v x h1 h2=>hr.all Yf hh (vs:=us.toList) (λk v y h1 h2=>he k v y (by simpa using h1) h2) k v x (by simpa using h1) h2);obtain⟨k,hk,rfl⟩:=Pm hx;obtain⟨y,_,h4⟩:=hr.get.2 k _ (CB hk);exact h4.AD (Y0b (Cd.1 hh _ (B5 hk)))
 .rename_i xs ys
  simp only[IV] at hh;cases hv with
  | @AZ us _ hl he=>exact .AZ (by rw[hl,hr.get.1]) (λk v x h1 h2=>hr.all Yf hh (vs:=us.toList) (λk v y h1 h2=>he k v y (by simpa using h1) h2) k v x (by simpa using h1) h2)
 .rename_i g xs g' ys
  obtain⟨rfl,hr⟩:=hr;simp only[IV] at hh;cases hv with
  | @fn _ us _ hl he=>exact .fn (by rw[hl,hr.get.1]) (λk v x h1 h2=>hr.all Yf hh (vs:=us.toList) (λk v y h1 h2=>he k v y (by simpa using h1) h2) k v x (by simpa using h1) h2)
 .have h2:IU h x=true:=by
   cases x<;>first|exact hh|(simp[Dc] at hr)
  exact hr.en Yf h2 hv
theorem Ln.ext (hw:Ln f S l h ep) (hE:Qy D0 S t):Qy D0 (Oe l h ep) (DE t l h ep):=by
 have hz:=hw.ok;simp only[jP,Bg,Bj,Cd] at hz;refine⟨⟨rfl,λid Zt=>?_,λid Zt=>?_⟩,rfl,λid b hd hb=>?_⟩
 .simp only[DE,Oe];rw[Ak Zt]
 .simp only[Oe]
  cases hb:yD h id with
  | none=>rfl
  | some b=>
   have:=(hz.1.1.2 _ (YL hb)).2;have:=Zt.2;simp only at *;omega
 .simp only[DE] at hb
  rw[Aj hd] at hb;exact hE.ph id b hd hb
theorem Ln.Bl (hw:Ln f S l h ep) (hE:Qy D0 S t) {id:Id} {b:Bc} (hb:(DE t l h ep).heap id=some b):
  (D0 id/\t.heap id=some b)\/(¬D0 id/\(id,b)∈h/\M6 h id=true/\((Db f id=none/\b.box=false/\b.own=true/\b.rows=[])\/
   ∃Av c,Db f id=some Av/\t.heap Av=some c/\¬D0 Av/\c.box=b.box/\c.own=b.own/\c.cl=b.cl/\(if b.box then (∃xs ys,b.rows=[xs]/\c.rows=[ys]/\IT f xs ys) else (c.el=b.el/\c.rows=b.rows)))):=by
 simp only[DE] at hb;split at hb
 .rename_i hd;exact .inl ⟨hd,hb⟩
 .rename_i hd
  have hm:=YL hb;refine .inr ⟨hd,hm,?_,?_⟩
  .simp only[M6,N7];right;rw[show h.lookup id=some b from hb];rfl
  .have:=hw.heap _ hm
   unfold BR at this;simp only at this;split at this
   .rename_i hr;exact .inl ⟨hr,this⟩
   .rename_i Av hr
    obtain⟨c,h1,h2⟩:=this;exact .inr ⟨Av,c,hr,hE.ext.get h1,hE.ext.De h1,h2⟩
theorem D0.M8 {id:Id} (hd:D0 id):Db f id=some id:=by unfold Db;rw[Aj hd.zero]
theorem D0.has {id:Id} (hd:D0 id):M6 h id=true:=by simp[M6,hd.zero]
theorem Ln.AJ (hw:Ln f S l h ep) (hE:Qy D0 S t) {g:Nat} (ht:Ev.AJ (DE t l h ep) (BZ U f h) g):Ev.AJ t U g:=by
 obtain⟨id,b,o,c,sz,h1,h2,h3⟩:=ht;rcases hw.Bl hE h1 with⟨hd,hb⟩|⟨hd,hm,hi,⟨hr,_⟩|⟨Av,k,hr,hk,_,_,ho,_⟩⟩
 .rw[M7 hd.has hd.M8] at h3
  exact⟨id,b,o,c,sz,hb,h2,h3⟩
 .rw[yE hi hr] at h3;cases h3
 .rw[M7 hi hr] at h3
  exact⟨Av,k,o,c,sz,hk,ho.trans h2,h3⟩
theorem Xas:∀{h:List (Id×Bc)} {id Gf Av:Id} {b b2:Bc},(h.filterMap λp=>Db f p.1).Nodup->(id,b)∈h->(Gf,b2)∈h->Db f id=some Av->Db f Gf=some Av->id=Gf:=by
 intro h
 induction h with
 | nil=>intro id Gf Av b b2 _ h1;simp at h1
 | cons p h ih=>
  intro id Gf Av b b2 hn h1 h2 hr C6;have mem:∀{i:Id} {c:Bc},(i,c)∈h->Db f i=some Av->Av∈h.filterMap λp=>Db f p.1:=λhm hi=>List.mem_filterMap.2 ⟨_,hm,hi⟩;rw[List.filterMap_cons] at hn;rcases Ce.1 h1 with e1|e1
  .rcases Ce.1 h2 with e2|e2
   .rw[<-e1] at e2;injection e2 with e2;exact e2.symm
   .rw[<-e1] at hn
    simp only[hr] at hn;exact absurd (mem e2 C6) (EF.1 hn).1
  .rcases Ce.1 h2 with e2|e2
   .rw[<-e2] at hn
    simp only[C6] at hn;exact absurd (mem e1 hr) (EF.1 hn).1
   .refine ih ?_ e1 e2 hr C6
    split at hn
    .exact hn
    .exact (EF.1 hn).2
theorem Ln.rel (hw:Ln f S l h ep) (hE:Qy D0 S t) (hR:Rel P B io w tmps t U F fl):Rel P B io w tmps (DE t l h ep) (BZ U f h) (Of F f) fl:=by
 have hz:=hw.ok;simp only[jP,Bg,Bj,Cd] at hz;have Yf:∀g,AG t U w g->AG (DE t l h ep) (BZ U f h) w g:=λg hg=>⟨λht=>hg.1 (hw.AJ hE ht),hg.2⟩;have key:∀{id:Id} {b:Bc},(DE t l h ep).heap id=some b->b.own=true->Of F f id=[]\/∃Av c,t.heap Av=some c/\c.own=true/\Of F f id=F Av/\BZ U f h id=U Av/\Db f id=some Av/\(D0 id\/(id,b)∈h/\¬D0 Av):=λ{id b} hb ho=>by
  rcases hw.Bl hE hb with⟨hd,hb⟩|⟨hd,hm,hi,⟨hr,_⟩|⟨Av,k,hr,hk,CU,_,HN,_⟩⟩
  .exact .inr ⟨id,b,hb,ho,jQ hd.M8,M7 hd.has hd.M8,hd.M8,.inl hd⟩
  .exact .inl (Y0m hr)
  .exact .inr ⟨Av,k,hk,HN.trans ho,jQ hr,M7 hi hr,hr,.inr ⟨hm,CU⟩⟩
 refine⟨λt' v hv=>?_,λt' PK=>?_,λid b hb=>?_,λid b hb ho g hg=>?_,λid b hb ho hc g hg=>?_,λid Gf b b2 hb ho E1 HN Yg g hg IH=>?_,λid b hb ho=>?_,λid Zt=>?_,hR.Cs,hR.AR,λid b hb ho g hg=>?_,hR.AT⟩
 .show En w _ _ v (T1 l t')
  unfold T1;cases hl:l.lookup t' with
  | none=>exact .undef
  | some x=>
   have hm:=YL hl;have h1:=hw.env _ hm;simp only at h1;rw[<-hE.env] at h1;exact h1.en Yf (hz.1.2 _ hm) (hR.env t' v hv)
 .show T1 l t'=.undef
  unfold T1;cases hl:l.lookup t' with
  | none=>rfl
  | some x=>
   have hm:=YL hl;have h1:=hw.env _ hm;simp only at h1;rw[<-hE.env,hR.out t' PK] at h1;simp only[Ga];cases x<;>simp[VR,Dc] at h1 ⊢
 .rcases hw.Bl hE hb with⟨hd,hb⟩|⟨hd,hm,hi,⟨hr,h1,h2,h3⟩|⟨Av,k,hr,hk,_,FJ,ho,W8,Wq⟩⟩
  .rw[M7 hd.has hd.M8,jQ hd.M8]
   have hB:=hR.heap id b hb;have hph:=hE.ph id b hd hb;unfold Xs at hB ⊢;split at hB
   .obtain⟨_,g,cur,e,row,hi,hg,hr,_⟩:=hB;rw[hph] at hr;cases hr
   .rcases hB with hB|⟨g,o,c,cur,hi,hg,hl,hm,hu,hz,fp,hF,q1,q2⟩
    .exact .inl hB
    .exact .inr ⟨g,o,c,cur,hi,hg,hl,hm,hu,hz,fp,hF,q1,λhc=>⟨(q2 hc).1,λk x hx=>by rw[hph] at hx;simp at hx⟩⟩
   .obtain⟨h0,hB⟩:=hB
    refine⟨h0,?_⟩;rcases hB with hB|⟨g,o,c,sz,hi,hu,hr⟩
    .exact .inl hB
    .exact .inr ⟨g,o,c,sz,hi,hu,hr.C2 Yf⟩
  .rw[yE hi hr,Y0m hr]
   exact .I0 h1 h2 rfl h3 rfl
  .rw[M7 hi hr,jQ hr]
   have hB:=hR.heap Av k hk;unfold Xs at hB ⊢;rw[FJ,ho] at hB;cases CA:b.box with
   | true=>
    rw[CA] at hB;simp only[CA,if_true] at Wq hB ⊢;obtain⟨q0,g,cur,e,row,Y3,hg,Cj,hs,he,hc,hF⟩:=hB;obtain⟨xs,ys,e1,e2,hv⟩:=Wq;rw[e2] at Cj;injection Cj with Cj _;subst Cj;have jM:=hv.get.1;have K3:xs.all (IU h)=true:=by
     have h7:=hz.2 _ hm;unfold hasB at h7;simp only[CA,if_true,e1,DW,Vx,KK] at h7;exact h7
    refine⟨q0,g,cur,e,xs,by rw[Y3,jM],hg,e1,by rw[hs,jM],λj v x h1 h2=>?_,λx hx=>?_,hF⟩
    .exact hv.all Yf K3 (vs:=cur.toList) (λk v y h1 h2=>he k v y (by simpa using h1) h2) j v x (by simpa using h1) h2
    .obtain⟨j,hj,rfl⟩:=Pm hx
     obtain⟨y,_,h4⟩:=hv.get.2 j _ (CB hj);exact h4.AD (Y0b (Cd.1 K3 _ (B5 hj)))
   | false=>
    rw[CA] at hB;simp only[CA,Bn,if_false] at Wq hB ⊢;obtain⟨e1,e2⟩:=Wq;cases Pz:b.own with
    | true=>
     rw[Pz] at hB;simp only at hB ⊢;rcases hB with⟨q1,q2,q3⟩|⟨g,o,c,cur,Y3,hg,hl,DA,hu,Pv,fp,hF,q1,q2⟩
     .exact .inl ⟨q1,by rw[<-e2];exact q2,q3⟩
     .refine .inr ⟨g,o,c,cur,by rw[<-e1];exact Y3,by rw[<-e1];exact hg,by rw[<-e2];exact hl,DA,by rw[<-e1,<-e2];exact hu,by rw[<-e1];exact Pv,fp,hF,λhc=>?_,λhc=>?_⟩
      .rw[<-e1,<-e2];exact q1 (by rw[W8];exact hc)
      .obtain⟨q3,q4⟩:=q2 (by rw[W8];exact hc)
       refine⟨q3,λj x hx=>?_⟩;obtain⟨v,hv,Ej⟩:=q4 j x (by rw[e2];exact hx);exact⟨v,hv,Ej.C2 Yf⟩
    | false=>
     rw[Pz] at hB;simp only at hB ⊢;obtain⟨h0,hB⟩:=hB;refine⟨h0,?_⟩;rcases hB with⟨q1,q2⟩|⟨g,o,c,sz,Y3,hu,Cj⟩
     .exact .inl ⟨q1,by rw[<-e2];exact q2⟩
     .exact .inr ⟨g,o,c,sz,Y3,by rw[<-e2];exact hu,by rw[<-e2];exact Cj.C2 Yf⟩
 .rcases key hb ho with h0|⟨Av,c,h1,h2,h3,_⟩
  .rw[h0] at hg;simp at hg
  .rw[h3] at hg;exact hR.CH Av c h1 h2 g hg
 .rcases key hb ho with h0|⟨Av,c,h1,h2,h3,h4,_⟩
  .rw[h0] at hg;simp at hg
  .rw[h3] at hg;exact hR.top Av c h1 h2 (by rw[<-h4];exact hc) g hg
 .rcases key hb ho with h0|⟨i1,c,h1,h2,h3,h4,h5,h6⟩
  .rw[h0] at hg;simp at hg
  .rcases key E1 HN with k0|⟨i2,c2,k1,k2,k3,k4,k5,k6⟩
   .rw[k0] at IH;simp at IH
   .rw[h3] at hg
    rw[k3] at IH;refine hR.apart i1 i2 c c2 h1 h2 k1 k2 (λe=>?_) g hg IH;subst e;rcases h6 with h6|⟨h6,h7⟩
    .rw[h6.M8] at h5;injection h5 with h5;subst h5
     rcases k6 with k6|⟨k6,k7⟩
     .rw[k6.M8] at k5;injection k5 with k5;exact Yg k5.symm
     .exact k7 h6
    .rcases k6 with k6|⟨k6,k7⟩
     .rw[k6.M8] at k5;injection k5 with k5;subst k5;exact h7 k6
     .exact Yg (Xas hz.1.1.1.1 h6 k6 h5 k5)
 .rcases key hb ho with h0|⟨Av,c,h1,h2,h3,_⟩
  .rw[h0];exact List.nodup_nil
  .rw[h3];exact hR.once Av c h1 h2
 .show id.1<=ep
  by_cases h0:id.1=0
  .omega
  .unfold BZ at Zt
   rw[Ak h0] at Zt;split at Zt
   .rename_i hs
    obtain⟨b,hb⟩:=EY.1 hs;exact (hz.1.1.2 _ (YL hb)).1
   .simp at Zt
 .rcases key hb ho with h0|⟨Av,c,h1,h2,h3,_⟩
  .rw[h0] at hg;simp at hg
  .rw[h3] at hg;exact hR.A7 Av c h1 h2 g hg
theorem Xbp {c:Code} {R:Ex->St->Prop} (f:List (Id×Id)) (hw:Ln f S l h ep) (hc:Cx P c (Oe l h ep) R):Cx P c S R:=by
 intro t B io w a U F fl Q hE hR hd hQ;refine hc (DE t l h ep) B io w a (BZ U f h) (Of F f) fl Q (hw.ext hE) (hw.rel hE hR) hd (λex S' t' a' w' hr hx hA=>hQ ex S' t' a' w' hr ⟨hx.1,λid Zt=>?_⟩ ?_)
 .rw[hx.2 id Zt];simp only[DE];rw[Aj Zt]
 .obtain⟨U',F',h1,h2,h3,h4,h5⟩:=hA
  exact⟨U',F',h1,h2,λid i h0 hi=>h3 id i h0 (by unfold BZ;rw[Aj h0];exact hi),h4,h5⟩
end
end Go.Proofs.YthdljdelfgofdaaGreatDoor.Ev
namespace Go.Proofs.YthdljdelfgofdaaGreatDoor.Ev
open Go
variable [Anchor]
section
variable {P:Program}
def FK:List V->List V->Option Bool
 | [],[]=>some true
 | .lit (.int k a)::xs,.lit (.int k' b)::ys=>if k=k' then (FK xs ys).map λr=>decide (a=b)&&r else none
 | .lit (.bool a)::xs,.lit (.bool b)::ys=>(FK xs ys).map λr=>(a == b)&&r
 | _,_=>none
def IW (P:Program):Nat->List Field->List V->Bool
 | _,[],[]=>true
 | i,f::fs,.lit (.int _ _)::xs=>(f.name != "_")&&(f.offset == i)&&!(HH P f.type)&&(match P.underlying f.type with|some (.int _)=>true|_=>false)&&IW P (i+1) fs xs
 | i,f::fs,.lit (.bool _)::xs=>(f.name != "_")&&(f.offset == i)&&!(HH P f.type)&&(match P.underlying f.type with|some .bool=>true|_=>false)&&IW P (i+1) fs xs
 | _,_,_=>false
theorem jR {t:TypeId} {d:TypeDesc} (ht:P.underlying t=some d):eval? P (underlying t)=some d:=by
 unfold underlying;rw[Xo];show eval? P (match P.underlying t with|some d=>pure d|none=>stuck "no such type" : Sem TypeDesc)=some d;rw[ht];rfl
theorem Y6u {n:Nat} {t:TypeId} {k0 k:IntKind} {a b:Int} (ht:P.underlying t=some (.int k0)):eval? P (Go.Op.equalIn (n+1) t (.int k a) (.int k b))=some (decide (a=b)):=by
 unfold Go.Op.equalIn;rw[Xo,jR ht];simp only[Ag,if_true];show some (a == b)=some (decide (a=b));by_cases h:a=b<;>simp[h]
theorem Yzl {n:Nat} {t:TypeId} {a b:Bool} (ht:P.underlying t=some .bool):eval? P (Go.Op.equalIn (n+1) t (.bool a) (.bool b))=some (a == b):=by
 unfold Go.Op.equalIn;rw[Xo,jR ht];rfl
theorem Y3f {t:TypeId} (h:(P.underlying t).isSome=true) (ha:HH P t=false):eval? P (isAgg t)=some false:=by
 obtain⟨d,hd⟩:=EY.1 h;unfold isAgg;rw[Xo,jR hd];unfold HH at ha;rw[hd] at ha;cases d<;>first|rfl|cases ha
theorem Yo1 {t:TypeId} {cs:Array Value} {off:Nat} {v:Value} (h:(P.underlying t).isSome=true) (ha:HH P t=false) (hv:cs[off]?=some v):eval? P (part t cs off)=some v:=by
 unfold part;rw[Xo,Y3f h ha];simp only[Ag,Bn,if_false,hv];rfl
theorem Yl6:∀{xs:List V} {l:List Value},EG xs=some l->xs=l.map V.lit:=by
 intro xs
 induction xs with
 | nil=>intro l h;simp only[EG,AB] at h;subst h;rfl
 | cons x xs ih=>
  intro l h;cases x<;>simp only[EG] at h<;>try cases h
  obtain⟨l',h1,rfl⟩:=AL.1 h;rw[ih h1];rfl
def YM (n:Nat) (X Y:Array Value) (f:Field) (s:Option Bool×Unit):Sem (ForInStep (Option Bool×Unit)):=
 if f.name ≠ "_" then do
  let a <-part f.type X f.offset
  let b <-part f.type Y f.offset
  let c <-Go.Op.equalIn (n+1) f.type a b
  if (!c)=true then pure (ForInStep.done (some false,())) else pure (ForInStep.yield (none,()))
 else pure (ForInStep.yield (none,()))
theorem Y5a {n:Nat} {X Y:Array Value} {f:Field} {s:Option Bool×Unit} {u v:Value} {c:Bool} (hn:(f.name != "_")=true) (hu:(P.underlying f.type).isSome=true) (ha:HH P f.type=false) (hx:X[f.offset]?=some u) (hy:Y[f.offset]?=some v) (hc:eval? P (Go.Op.equalIn (n+1) f.type u v)=some c):
  eval? P (YM n X Y f s)=some (if c then .yield (none,()) else .done (some false,())):=by
 unfold YM;rw[Aj (by simpa using hn),Xo,Yo1 hu ha hx,Ag,Xo,Yo1 hu ha hy,Ag,Xo,hc,Ag];cases c<;>rfl
theorem QU {n:Nat} {X Y:List Value}:∀(l:List Field) (i:Nat) (b:Bool),IW P i l ((X.drop i).map V.lit)=true->FK ((X.drop i).map V.lit) ((Y.drop i).map V.lit)=some b->
  eval? P (forIn l (none,()) (YM n X.toArray Y.toArray))=some (if b then (none,()) else (some false,())):=by
 intro l
 induction l with
 | nil=>
  intro i b hf he;cases hX:X.drop i with
  | cons v l=>rw[hX] at hf;simp[IW] at hf
  | nil=>
   rw[hX] at he;cases hY:Y.drop i with
   | cons v l=>rw[hY] at he;simp[FK] at he
   | nil=>
    rw[hY] at he;simp only[Hf,FK,AB] at he;subst he;rfl
 | cons f l ih=>
  intro i b hf he;have Og:∀{Z:List Value} {v:Value} {zs:List Value},Z.drop i=v::zs->Z.drop (i+1)=zs/\Z.toArray[i]?=some v:=λ{Z v zs} hz=>by
   constructor
   .rw[<-List.drop_drop,hz];rfl
   .have:=congrArg List.head? hz
    rw[List.head?_drop] at this;simpa using this
  have step:∀(u v:Value) (xs ys:List Value) (c b':Bool),X.drop i=u::xs->Y.drop i=v::ys->(f.name != "_")=true->f.offset=i->HH P f.type=false->(P.underlying f.type).isSome=true->eval? P (Go.Op.equalIn (n+1) f.type u v)=some c->
    IW P (i+1) l (xs.map V.lit)=true->FK (xs.map V.lit) (ys.map V.lit)=some b'->b=(c&&b')->eval? P (forIn (f::l) (none,()) (YM n X.toArray Y.toArray))=some (if b then (none,()) else (some false,())):=by
   intro u v xs ys c b' hX hY hn ho ha hu hc BM PF hb;obtain⟨dx,ax⟩:=Og hX;obtain⟨dy,ay⟩:=Og hY;rw[List.forIn_cons,Xo,Y5a hn hu ha (by rw[ho];exact ax) (by rw[ho];exact ay) hc];cases c with
   | true=>
    simp only[if_true,Ag];rw[ih (i+1) b' (by rw[dx];exact BM) (by rw[dx,dy];exact PF),hb];rfl
   | false=>
    simp only[Bn,if_false,Ag];rw[hb];rfl
  cases hX:X.drop i with
  | nil=>rw[hX] at hf;simp[IW] at hf
  | cons u xs=>
   rw[hX] at hf he;cases hY:Y.drop i with
   | nil=>rw[hY] at he;cases u<;>simp[FK] at he
   | cons v ys=>
    rw[hY] at he;simp only[C7] at hf he;cases u with
    | int k a=>
     simp only[IW,Bg,N6,beq_iff_eq] at hf;obtain⟨⟨⟨⟨h1,h2⟩,h3⟩,h4⟩,h5⟩:=hf;cases v with
     | int k' b2=>
      simp only[FK] at he;split at he
      .rename_i hk
       subst hk;obtain⟨b',h6,h7⟩:=AL.1 he;split at h4
       .rename_i k0 YN
        exact step _ _ _ _ _ _ hX hY h1 h2 h3 (by rw[YN];rfl) (Y6u YN) h5 h6 h7.symm
       .cases h4
      .cases he
     | _=>simp[FK] at he
    | bool a=>
     simp only[IW,Bg,N6,beq_iff_eq] at hf;obtain⟨⟨⟨⟨h1,h2⟩,h3⟩,h4⟩,h5⟩:=hf;cases v with
     | bool b2=>
      simp only[FK] at he;obtain⟨b',h6,h7⟩:=AL.1 he;split at h4
      .rename_i YN
       exact step _ _ _ _ _ _ hX hY h1 h2 h3 (by rw[YN];rfl) (Yzl YN) h5 h6 h7.symm
      .cases h4
     | _=>simp[FK] at he
    | _=>simp[IW] at hf
theorem Yvl {n:Nat} {t:TypeId} {fs:Array Field} {X Y:List Value} {b:Bool} (ht:P.underlying t=some (.struct fs)) (hs:P.stoodInHeld t=false) (hx:IW P 0 fs.toList (X.map V.lit)=true) (he:FK (X.map V.lit) (Y.map V.lit)=some b):
  eval? P (Go.Op.equalIn (n+2) t (.agg X.toArray) (.agg Y.toArray))=some b:=by
 unfold Go.Op.equalIn;rw[Xo,jR ht];simp only[Ag];rw[Xo];show (some P).bind _=_;simp only[Ag,hs,Bn,if_false];have key:=QU (P:=P) (n:=n) (X:=X) (Y:=Y) fs.toList 0 b (by simpa using hx) (by simpa using he);rw[Array.forIn_toList] at key;rw[Xo];show (eval? P (forIn fs (none,()) (YM n X.toArray Y.toArray))).bind _=_;rw[key];cases b<;>rfl
def QV (P:Program) (t:TypeId) (xs:List V):Bool:=match P.underlying t with
 | some (.struct fs)=>!(P.stoodInHeld t)&&!(P.eqGuardType P.depth t)&&IW P 0 fs.toList xs
 | _=>false
theorem Yp2 {t:TypeId} {xs ys:List V} {X Y:List Value} {b:Bool} (hx:EG xs=some X) (hy:EG ys=some Y) (hf:QV P t xs=true) (he:FK xs ys=some b):eval? P (Go.Op.equal t (.agg X.toArray) (.agg Y.toArray))=some b:=by
 unfold QV at hf;split at hf
 .rename_i fs ht
  simp only[Bg,N6] at hf;have e1:=Yl6 hx;have e2:=Yl6 hy;rw[e1] at hf he;rw[e2] at he;exact Yvl (n:=9998) ht hf.1.1 hf.2 he
 .cases hf
theorem Yha {op:BinOp} {t:TypeId} {x y:Operand} {xs:List V} {X Y:Array Value} (hf:QV P t xs=true):eval? P (eqGuard op t x y (.agg X) (.agg Y))=some ():=by
 unfold QV at hf;split at hf
 .simp only[Bg,N6] at hf
  unfold eqGuard;cases op<;>first
   | rfl
   | (
     simp only[Du,Bn,if_false];rw[Xo];show (some P).bind _=_;simp only[Ag];rw[Xo];show (some P).bind _=_;simp only[Ag,hf.1.2,FF,if_true];rfl)
 .cases hf
theorem Y4z {t:TypeId} {x y:Operand} {xs ys:List V} {b:Bool} (hx:(EG xs).isSome=true) (hy:(EG ys).isSome=true) (hf:QV P t xs=true) (he:FK xs ys=some b):EN P .eql t x y (.agg xs) (.agg ys)=some (.lit (.bool b)):=by
 obtain⟨X,h1⟩:=EY.1 hx;obtain⟨Y,h2⟩:=EY.1 hy;simp only[EN,Qp,h1,h2,D8,Pn,LW,if_true,Ga];rw[Xo,Yha hf,Ag];have e:(binOp .eql t (.agg X.toArray) (.agg Y.toArray):Sem Value)=((λb=>Value.bool b) <$> Go.Op.equal t (.agg X.toArray) (.agg Y.toArray)):=rfl;rw[e,XS,Yp2 h1 h2 hf he];rfl
theorem Y4v {t:TypeId} {x y:Operand} {xs ys:List V} {b:Bool} (hx:(EG xs).isSome=true) (hy:(EG ys).isSome=true) (hf:QV P t xs=true) (he:FK xs ys=some b):EN P .neq t x y (.agg xs) (.agg ys)=some (.lit (.bool (!b))):=by
 obtain⟨X,h1⟩:=EY.1 hx;obtain⟨Y,h2⟩:=EY.1 hy;simp only[EN,Qp,h1,h2,D8,Pn,LW,if_true,Ga];rw[Xo,Yha hf,Ag];have e:(binOp .neq t (.agg X.toArray) (.agg Y.toArray):Sem Value)=((λb=>Value.bool (!b)) <$> Go.Op.equal t (.agg X.toArray) (.agg Y.toArray)):=rfl;rw[e,XS,Yp2 h1 h2 hf he];rfl
end
end Go.Proofs.YthdljdelfgofdaaGreatDoor.Ev
