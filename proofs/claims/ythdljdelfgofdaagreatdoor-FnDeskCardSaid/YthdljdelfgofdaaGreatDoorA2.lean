/- A part of the proof of FnDesk: see the text YthdljdelfgofdaaGreatDoorLawFnDesk for what is proved and its conditions. Conditions here: those in each line. -/
import Derived.Test.YthdljdelfgofdaaGreatDoorA1
import Derived.ChangeOld
import Derived.OpenShut
import Derived.Orders
import Derived.ProofKit
import Derived.Tactics
import Derived.WalkKit
set_option linter.unusedSimpArgs false
set_option linter.unusedVariables false
set_option linter.unusedSectionVars false
namespace Go.Proofs.YthdljdelfgofdaaGreatDoor.Ev
open Go Go.RowKit
variable [Anchor]
def XI (P:Program) (w:World) (ok top:Nat->Prop) (m:Yw) (u:Value) (x:V) (fp:List Nat):Prop:=
 match m with
 | .rd=>(∀U,En w ok U u x)/\fp=[]
 | .io=>∃cs,x=.agg cs/\IP P w ok top u cs fp
 | .mv|.EA=>(∀cs,x≠.CQ cs)/\DD P w ok top u x fp
inductive Oc (P:Program) (w:World) (ok top:Nat->Prop):List Yw->List Value->List V->List Nat->Prop
 | nil {ms:List Yw}:Oc P w ok top ms [] [] []
 | cons {ms:List Yw} {u:Value} {us:List Value} {x:V} {xs:List V} {f1 f2:List Nat} (h:XI P w ok top (ms.headD .rd) u x f1) (hs:Oc P w ok top ms.tail us xs f2):Oc P w ok top ms (u::us) (x::xs) (f1++f2)
def IU (P:Program) (w:World) (ok top:Nat->Prop) (U:AZ) (m:Yw) (u:Value) (x:V) (fp:List Nat):Prop:=
 match m with
 | .rd=>En w ok U u x/\fp=[]
 | .io=>∃cs,x=.agg cs/\IP P w ok top u cs fp
 | .mv|.EA=>(∀cs,x≠.CQ cs)/\DD P w ok top u x fp
inductive Od (P:Program) (w:World) (ok top:Nat->Prop) (U:AZ):List Yw->List Value->List V->List Nat->Prop
 | nil {ms:List Yw}:Od P w ok top U ms [] [] []
 | cons {ms:List Yw} {u:Value} {us:List Value} {x:V} {xs:List V} {f1 f2:List Nat} (h:IU P w ok top U (ms.headD .rd) u x f1) (hs:Od P w ok top U ms.tail us xs f2):Od P w ok top U ms (u::us) (x::xs) (f1++f2)
theorem Dh.C8 {P:Program} {w:World} {ok ok' top:Nat->Prop} {v:Value} {x:V} {fp:List Nat} (h:Dh P w ok top v x fp) (ht:∀g,ok g->ok' g):Dh P w ok' top v x fp:=by
 cases h with
 | lit h=>exact .lit h
 | tr h=>exact .tr (Rd.C8 h ht)
 | own h k=>exact .own h k
theorem FC.C8 {P:Program} {w:World} {ok ok' top:Nat->Prop} {v:List Value} {x:List V} {fp:List Nat} (h:FC P w ok top v x fp) (ht:∀g,ok g->ok' g):FC P w ok' top v x fp:=by
 induction h with
 | nil=>exact .nil
 | cons h _ ih=>exact .cons (h.C8 ht) ih
theorem DD.C8 {P:Program} {w:World} {ok ok' top:Nat->Prop} {v:Value} {x:V} {fp:List Nat} (h:DD P w ok top v x fp) (ht:∀g,ok g->ok' g):DD P w ok' top v x fp:=by
 cases x
 case agg cs=>obtain⟨us,h1,h2⟩:=h;exact⟨us,h1,h2.C8 ht⟩
 case CQ cs=>obtain⟨g,cur,e,BT,h1,h2,h3,h4,h5⟩:=h;exact⟨g,cur,e,BT,h1,h2,h3.C8 ht,h4,h5⟩
 all_goals exact Dh.C8 h ht
theorem Gd.C8 {P:Program} {w:World} {ok ok' top:Nat->Prop} {v:List Value} {x:List V} {fp:List Nat} (h:Gd P w ok top v x fp) (ht:∀g,ok g->ok' g):Gd P w ok' top v x fp:=by
 induction h with
 | nil=>exact .nil
 | cons h _ ih=>
  refine .cons ?_ ih;cases h with
  | one h=>exact .one (h.C8 ht)
  | box h=>exact .box (DD.C8 h ht)
theorem IP.C8 {P:Program} {w:World} {ok ok' top:Nat->Prop} {u:Value} {cs:List V} {fp:List Nat} (h:IP P w ok top u cs fp) (ht:∀g,ok g->ok' g):IP P w ok' top u cs fp:=by
 obtain⟨g,cur,e,BT,h1,h2,h3,h4,h5⟩:=h;exact⟨g,cur,e,BT,h1,h2,h3.C8 ht,h4,h5⟩
theorem IU.top {P:Program} {w:World} {ok top top':Nat->Prop} {U:AZ} {m:Yw} {u:Value} {x:V} {fp:List Nat} (h:IU P w ok top U m u x fp) (ht:∀g,top g->top' g):IU P w ok top' U m u x fp:=by
 cases m
 .exact h
 .obtain⟨cs,h1,h2⟩:=h;exact⟨cs,h1,h2.top ht⟩
 .exact⟨h.1,h.2.top ht⟩
 .exact⟨h.1,h.2.top ht⟩
theorem Od.top {P:Program} {w:World} {ok top top':Nat->Prop} {U:AZ} {ms:List Yw} {us:List Value} {xs:List V} {fp:List Nat} (h:Od P w ok top U ms us xs fp) (ht:∀g,top g->top' g):Od P w ok top' U ms us xs fp:=by
 induction h with
 | nil=>exact .nil
 | cons h _ ih=>exact .cons (h.top ht) ih
section
variable {P:Program} {B:Nat} {io:Nat->Prop} {w w':World} {tmps:Array Value} {s s' s1:St} {U U':AZ} {F F':Id->List Nat} {fl fl':List Nat} {ok ok' top:Nat->Prop}
theorem Rel.CT (h:Rel P B io w tmps s U F fl):QG w (AI s U w) U s:=by
 intro id b row hb hr Xp j cur e g o c sz v x hU hg hv hx;have hB:=h.heap id b hb;unfold Xw at hB;rw[Xp] at hB;obtain⟨_,g',cur',e',Ck,hi,Ei,Cl,hs,he,GQ,hF⟩:=hB;rw[hr] at Cl;injection Cl with Cl _;subst Cl;rw[hU] at hi;injection hi with hi;injection hi with h1;subst h1;rw[hg] at Ei;injection Ei with Ei;injection Ei with h1;subst h1;exact he j v x hv hx
theorem Yjm {ts:List (Option TypeId)} {x y:V} (h1:s.Bb ts x=some (y,s')):∀cs,y≠.CQ cs:=λcs e=>by
 subst e;unfold St.Bb at h1;split at h1
 .obtain⟨_,_,he⟩:=AM.1 h1;simp at he
 .unfold St.AB at h1
  split at h1<;>simp at h1
theorem En.BY {u:Value} {x:V} (h:En w ok U u x):En w ok U u (Ev.BY x):=by
 unfold Ev.BY;split
 .cases h with
  | sl=>exact .tr .emp
  | sle=>exact .tr .emp
 .exact h
theorem Ytx {x:V} (h:AG x=true):AG (BY x)=true:=by
 unfold BY;split
 .rfl
 .exact h
theorem En.thin {u:Value} {x:V} (h:En w ok U u x):En w ok U u (Ev.thin x):=by
 unfold Ev.thin;split
 .rename_i cs
  cases h with
  | agg hl hc hr=>
   refine .agg (by simpa using hl) (λy hy=>?_) (λk v y hv hy=>?_)
   .obtain⟨z,hz,rfl⟩:=D7.1 hy
    exact Ytx (hc z hz)
   .rw[D5] at hy
    obtain⟨z,hz,rfl⟩:=AM.1 hy;exact (hr k v z hv hz).BY
 .exact h.BY
theorem Xbo (h0:Rel P B io w tmps s U F fl):∀(xs:List V) {us:List Value} {ts:List TypeId} {ms:List Yw} {s1 s':St} {fl1:List Nat} {ys:List V},Rel P B io w tmps s1 U F fl1->Wi s s1->us.length=xs.length->
  (∀(j:Nat) (u:Value) (x:V),us[j]?=some u->xs[j]?=some x->En w (AI s U w) U u x)->s1.Bt P ts ms xs=some (ys,s')->∃fp,Rel P B io w tmps s' U F (fp++fl1)/\Od P w (AI s U w) (DK s1 s' U F) U ms us ys fp/\Wi s1 s':=by
 intro xs
 induction xs with
 | nil=>
  intro us ts ms s1 s' fl1 ys h Da hl Wa hg;have:us=[]:=GK (by simpa using hl);subst this;simp only[St.Bt,AF,A7] at hg;obtain⟨rfl,rfl⟩:=hg;exact⟨[],h,.nil,.refl _⟩
 | cons x xs ih=>
  intro us ts ms s1 s' fl1 ys h Da hl Wa hg
  match us,hl with
  | u::us,hl=>
   simp only[St.Bt] at hg;obtain⟨⟨y,s2⟩,h1,hg⟩:=AA.1 hg;obtain⟨⟨zs,s3⟩,h2,hg⟩:=AM.1 hg;simp only[A7] at hg;obtain⟨rfl,rfl⟩:=hg;simp only at h2;have hu:=Wa 0 u x rfl rfl;have Yl:∀g,AI s U w g->AI s1 U w g:=λg hg=>QF Da hg;have one:∃fp,Rel P B io w tmps s2 U F (fp++fl1)/\IU P w (AI s U w) (DK s1 s2 U F) U (ms.headD .rd) u y fp/\Wi s1 s2:=by
    unfold St.Dl at h1;split at h1
    .rename_i hm
     simp only[AF,A7] at h1;obtain⟨rfl,rfl⟩:=h1;rw[hm];exact⟨[],h,⟨hu,rfl⟩,.refl _⟩
    .rename_i hm
     rw[hm];split at h1
     .rename_i bid _
      obtain⟨⟨cs,s4⟩,h3,he⟩:=AM.1 h1;simp only[A7] at he;obtain⟨rfl,rfl⟩:=he;obtain⟨fp,a,b,c,_⟩:=Yi8 h hu Yl (h0.CT.less Da) h3;exact⟨fp,a,⟨cs,rfl,b⟩,c⟩
     .cases h1
    .rename_i hm
     rw[hm];obtain⟨fp,a,b,c⟩:=x5 h hu Yl h1;exact⟨fp,a,⟨Yjm h1,b⟩,c⟩
    .rename_i hm
     rw[hm];obtain⟨fp,a,b,c⟩:=x5 h hu.thin Yl h1;exact⟨fp,a,⟨Yjm h1,b⟩,c⟩
   obtain⟨f1,r1,a1,l1⟩:=one;obtain⟨f2,r2,a2,l2⟩:=ih r1 (Da.trans l1) (by simpa using hl) (λj v z hv hz=>Wa (j+1) v z (by simpa using hv) (by simpa using hz)) h2;refine⟨f1++f2,r2.perm ?_,.cons (a1.top λg hg=>hg.left l2) (a2.top λg hg=>hg.right l1),l1.trans l2⟩;rw[List.append_assoc];exact (Px _ _ _)
def Mv (s1:St) (U:AZ) (ok:Nat->Prop):Prop:=∀id b g o c sz,s1.heap id=some b->b.own=true->U id=some (.Bn g o c sz)->ok g
theorem Ysq (h:Rel P B io w tmps s U F fl) (hl:Wi s s1) {u:Value} {x y:V} (hu:En w (AI s U w) U u x) (Yl:∀g,AI s U w g->ok' g) (hp:NI x=true\/Mv s1 U ok') (hr:s1.BA x=some y):Rd w ok' u y:=by
 unfold St.BA at hr;split at hr
 .simp only[AF] at hr;subst hr;cases hu;exact .emp
 .simp only[AF] at hr;subst hr;cases hu with|lit h=>exact .lit h
 .simp only[AF] at hr;subst hr;cases hu with|tr h=>exact h.C8 Yl
 .simp only[AF] at hr;subst hr;cases hu with|vw h=>exact h.C8 Yl
 .rename_i id off len
  obtain⟨rows,Wu,rfl⟩:=AM.1 hr;have Lh:Mv s1 U ok':=by
   rcases hp with hp|hp
   .simp[NI] at hp
   .exact hp
  have PS:s.rowsOf (.sl id off len)=some rows:=by
   simp only[St.rowsOf] at Wu ⊢;obtain⟨b,hb,hh⟩:=AA.1 Wu;rw[hl.sub id b hb];exact hh
  have XJ:∃b,s1.heap id=some b:=by
   unfold St.rowsOf at Wu;obtain⟨b,hb,_⟩:=AA.1 Wu;exact⟨b,hb⟩
  refine h.rowsOf hu PS Yl (λAx F6 Mm b g o c sz e hb ho hU _ _=>?_);cases e;obtain⟨b',Y1⟩:=XJ;have:=hl.sub id b' Y1;rw[hb] at this;injection this with this;subst this;exact Lh id b g o c sz Y1 ho hU
 .simp only[AF] at hr
  subst hr;cases hu with
  | rp h=>
   cases h with
   | rp hg hu hr=>exact (Rd.rp hg hu hr).C8 Yl
 .cases hr
theorem Yow (h:Rel P B io w tmps s U F fl) (hl:Wi s s1) (Yl:∀g,AI s U w g->ok' g):∀(xs:List V) {ys:List V} {us:Nat->Value},(∀(j:Nat) (x:V),xs[j]?=some x->En w (AI s U w) U (us j) x)->(xs.all NI=true\/Mv s1 U ok')->s1.B3 xs=some ys->
  ys.length=xs.length/\∀(j:Nat) (y:V),ys[j]?=some y->Rd w ok' (us j) y:=by
 intro xs
 induction xs with
 | nil=>
  intro ys us _ _ hr;simp only[St.B3,AF] at hr;subst hr;exact⟨rfl,λj y hy=>by simp at hy⟩
 | cons x xs ih=>
  intro ys us Wa hp hr;simp only[St.B3] at hr;obtain⟨y,h1,hr⟩:=AA.1 hr;obtain⟨zs,h2,rfl⟩:=AM.1 hr;obtain⟨l,e⟩:=ih (us:=λj=>us (j+1)) (λj z hz=>Wa (j+1) z (by simpa using hz)) (hp.imp (λh=>by simp only[Ef,Bh] at h;exact h.2) (λh=>h)) h2;refine⟨by simp[l],λj z hz=>?_⟩;cases j with
  | zero=>
   have:y=z:=by simpa using hz
   subst this;exact Ysq h hl (Wa 0 x rfl) Yl (hp.imp (λh=>by simp only[Ef,Bh] at h;exact h.1) (λh=>h)) h1
  | succ j=>exact e j z (by simpa using hz)
theorem Ynq (h:Rel P B io w tmps s U F fl) (hl:Wi s s1) {u:Value} {x y:V} (hu:En w (AI s U w) U u x) (Yl:∀g,AI s U w g->ok' g) (hp:NI x=true\/Mv s1 U ok') (hr:s1.Bs x=some y):Rd w ok' u y:=by
 unfold St.Bs at hr;split at hr
 .rename_i id i off
  obtain⟨b,hb,hr⟩:=AA.1 hr;split at hr
  case isFalse=>cases hr
  rename_i Yz;obtain⟨row,Xj,hr⟩:=AA.1 hr;obtain⟨cs,BQ,rfl⟩:=AM.1 hr;have Lh:Mv s1 U ok':=by
   rcases hp with hp|hp
   .simp[NI] at hp
   .exact hp
  have hb0:=hl.sub id b hb;generalize hq:V.ptr id i off=q at hu;cases hu<;>cases hq;rename_i g o c sz hU;have QH:∀(j:Nat) (x:V),row[j]?=some x->∃u,w.cell? ⟨g,o+i*sz+j,none⟩=some u/\En w (AI s U w) U u x:=λj x hx=>by
   obtain⟨u,h1,h2,h3⟩:=h.cell hb0 hU Xj hx;cases Xp:b.box with
   | true=>exact⟨u,h1,h2 Xp⟩
   | false=>exact⟨u,h1,(h3 Xp).en⟩
  have each:∀j,∃u:Value,∀x,row[j]?=some x->w.cell? ⟨g,o+i*sz+j,none⟩=some u/\En w (AI s U w) U u x:=λj=>by
   cases hj:row[j]? with
   | none=>exact⟨undef,λx hx=>by cases hx⟩
   | some z=>
    obtain⟨u,h1,h2⟩:=QH j z hj;exact⟨u,λx hx=>by injection hx with hx;subst hx;exact⟨h1,h2⟩⟩
  obtain⟨uf,NL⟩:=vH each;obtain⟨l,e⟩:=Yow h hl Yl row (us:=uf) (λj x hx=>(NL j x hx).2) (.inr Lh) BQ;refine .rp (u:=uf) (Lh id b g o c sz hb Yz hU) (λj y hy=>?_) (λj y hy=>e j y hy);have Ya:=(Dg.1 hy).1;exact (NL j _ (C6 (by omega))).1
 .exact Ysq h hl hu Yl hp hr
theorem Y0p (h:Rel P B io w tmps s U F fl) (hl:Wi s s1) (Yl:∀g,AI s U w g->ok' g):∀(xs:List V) {ys:List V} {us:Nat->Value},(∀(j:Nat) (x:V),xs[j]?=some x->En w (AI s U w) U (us j) x)->(xs.all NI=true\/Mv s1 U ok')->s1.Bz xs=some ys->
  ys.length=xs.length/\∀(j:Nat) (y:V),ys[j]?=some y->Rd w ok' (us j) y:=by
 intro xs
 induction xs with
 | nil=>
  intro ys us _ _ hr;simp only[St.Bz,AF] at hr;subst hr;exact⟨rfl,λj y hy=>by simp at hy⟩
 | cons x xs ih=>
  intro ys us Wa hp hr;simp only[St.Bz] at hr;obtain⟨y,h1,hr⟩:=AA.1 hr;obtain⟨zs,h2,rfl⟩:=AM.1 hr;obtain⟨l,e⟩:=ih (us:=λj=>us (j+1)) (λj z hz=>Wa (j+1) z (by simpa using hz)) (hp.imp (λh=>by simp only[Ef,Bh] at h;exact h.2) (λh=>h)) h2;refine⟨by simp[l],λj z hz=>?_⟩;cases j with
  | zero=>
   have:y=z:=by simpa using hz
   subst this;exact Ynq h hl (Wa 0 x rfl) Yl (hp.imp (λh=>by simp only[Ef,Bh] at h;exact h.1) (λh=>h)) h1
  | succ j=>exact e j z (by simpa using hz)
theorem Xbn (h:Rel P B io w tmps s U F fl) (hl:Wi s s1) {u:Value} {x y:V} (hu:En w (AI s U w) U u x) (Yl:∀g,AI s U w g->ok' g) (hp:plain x=true\/Mv s1 U ok') (hr:s1.C7 x=some y) (U':AZ):En w ok' U' u y:=by
 unfold St.C7 at hr;split at hr
 .rename_i cs
  obtain⟨ys,h1,rfl⟩:=AM.1 hr;cases hu with
  | @agg vs _ Yp hc hr=>
   obtain⟨l,e⟩:=Yow h hl Yl cs (us:=λj=>vs.getD j undef) (λj x hx=>by
    have Ya:=(Dg.1 hx).1;have hv:vs[j]?=some vs[j]:=Var (by omega);rw[Pw,hv];exact hr j _ x hv hx) hp h1
   refine .agg (by omega) (λy hy=>?_) (λj v y hv hy=>?_)
   .obtain⟨j,hj⟩:=HN hy
    exact (e j y hj).AG
   .have:=e j y hy
    rw[Pw,hv] at this;exact this.en
 .rename_i f Bv
  obtain⟨ys,h1,rfl⟩:=AM.1 hr;cases hu with
  | @fn _ vs _ Yp hr=>
   obtain⟨l,e⟩:=Y0p h hl Yl Bv (us:=λj=>vs.getD j undef) (λj x hx=>by
    have Ya:=(Dg.1 hx).1;have hv:vs[j]?=some vs[j]:=Var (by omega);rw[Pw,hv];exact hr j _ x hv hx) hp h1
   refine .fn (by omega) (λj v y hv hy=>?_);have:=e j y hy;rw[Pw,hv] at this;exact this.en
 .rename_i h1 h2
  refine (Ynq h hl hu Yl (hp.imp (λhp=>?_) (λh=>h)) hr).en;cases x<;>first|exact hp|exact absurd rfl (h1 _)|exact absurd rfl (h2 _ _)
theorem Yu5 (h:Rel P B io w tmps s U F fl) (hl:Wi s s1) (Yl:∀g,AI s U w g->ok' g):∀{ms:List Yw} {us:List Value} {xs ys:List V} {fp:List Nat},Od P w (AI s U w) top U ms us xs fp->(I5 ms xs=true\/Mv s1 U ok')->s1.BN ms xs=some ys->Oc P w ok' top ms us ys fp:=by
 intro ms us xs ys fp ha
 induction ha generalizing ys with
 | nil=>
  intro _ hr;simp only[St.BN,AF] at hr;subst hr;exact .nil
 | @cons ms u us x xs f1 f2 hx hxs ih=>
  intro hp hr;simp only[St.BN] at hr;obtain⟨y,h1,hr⟩:=AA.1 hr;obtain⟨zs,h2,rfl⟩:=AM.1 hr;refine .cons ?_ (ih (hp.imp (λh=>by simp only[I5,Bh] at h;exact h.2) (λh=>h)) h2);have XK:=hp.imp (λh=>by simp only[I5,Bh] at h;exact h.1) (λh:Mv s1 U ok'=>h);cases hm:ms.headD .rd with
  | rd=>
   rw[hm] at hx h1 XK;simp only[St.Cr] at h1;simp only[wE] at XK;exact⟨λU'=>Xbn h hl hx.1 Yl XK h1 U',hx.2⟩
  | io=>
   rw[hm] at hx h1;simp only[St.Cr,AF] at h1;subst h1;obtain⟨cs,h1,h2⟩:=hx;exact⟨cs,h1,h2.C8 Yl⟩
  | mv=>
   rw[hm] at hx h1;simp only[St.Cr,AF] at h1;subst h1;exact⟨hx.1,hx.2.C8 Yl⟩
  | EA=>
   rw[hm] at hx h1;simp only[St.Cr,AF] at h1;subst h1;exact⟨hx.1,hx.2.C8 Yl⟩
end
section
variable {P:Program} {B:Nat} {io:Nat->Prop} {w w':World} {a a':Act} {s s':St} {U U':AZ} {F F':Id->List Nat} {fl:List Nat} {k:Nat} {o:Oper} {v:V} {M:X9} {C:Kr} {ops:Array Oper}
def GX (P:Program) (B:Nat) (io:Nat->Prop) (fl:List Nat) (w:World) (a:Act) (U:AZ) (s':St) (a':Act) (w':World):Prop:=
 ∃U' F',Rel P B io w' a'.tmps s' U' F' fl/\C3 B io w w'/\(∀id i,U id=some i->U' id=some i)/\a'.tmps.size=a.tmps.size/\a'.defers=a.defers
theorem GX.refl (h:Rel P B io w a.tmps s U F fl):GX P B io fl w a U s a w:=⟨U,F,h,C3.refl _ _ _,λ_ _ h=>h,rfl,rfl⟩
theorem GX.trans {w1:World} {a1:Act} {U1:AZ} (hl:C3 B io w w1) (hU:∀id i,U id=some i->U1 id=some i) (ht:a1.tmps.size=a.tmps.size) (hd:a1.defers=a.defers) (h:GX P B io fl w1 a1 U1 s' a' w'):GX P B io fl w a U s' a' w':=by
 obtain⟨U',F',h1,h2,h3,h4,h5⟩:=h;exact⟨U',F',h1,hl.trans h2,λid i h=>h3 id i (hU id i h),h4.trans ht,h5.trans hd⟩
theorem Rel.QI (h:Rel P B io w a.tmps s U F fl) {dst:Option Tmp} {u:Value} (hd:∀d,dst=some d->d < a.tmps.size) (hv:En w (AI s U w) U u v):Rel P B io w (a.put dst u).tmps (s.put dst v) U F fl:=by
 cases dst with
 | none=>exact h
 | some d=>
  have Ya:=hd d rfl;exact {h with
   env:=λt x hx=>by
    simp only[Act.put] at hx;simp only[St.put,Bm];by_cases e:t=d
    .subst e
     rw[hZ,Ah rfl,Ah Ya] at hx;injection hx with hx;subst hx;rw[Ah rfl];exact hv
    .rw[hZ,Ai (λhh=>e hh.symm)] at hx
     rw[Ai e];exact h.env t x hx
   out:=λt ht=>by
    simp only[Act.put,Array.size_setIfInBounds] at ht;simp only[St.put,Bm];rw[Ai (λe=>absurd Ya (by rw[<-e];exact Nat.not_lt.2 ht))];exact h.out t ht}
theorem x6 (a:Act) (dst:Option Tmp) (u:Value):(a.put dst u).tmps.size=a.tmps.size:=by cases dst<;>simp[Act.put]
theorem x7 (a:Act) (dst:Option Tmp) (u:Value):(a.put dst u).defers=a.defers:=by cases dst<;>rfl
theorem GY (s:St) (dst:Option Tmp) (v:V):(s.put dst v).ep=s.ep:=by cases dst<;>rfl
theorem QJ (s:St) (dst:Option Tmp) (v:V):(s.put dst v).heap=s.heap:=by cases dst<;>rfl
theorem Ysp (h:Rel P B io w a.tmps s U F fl) {g:Bool} (hw:wanted s ops o=some g):Region.wanted o (yielded ops a.tmps)=g:=by
 unfold wanted at hw;unfold Region.wanted;split at hw
 .rename_i hg;simp only[AF] at hw;rw[hg];exact hw
 .rename_i j b hg
  rw[hg];simp only;have hy:∀t,(ops[j]?).bind (·.dst)=some t->yielded ops a.tmps j=match a.tmps[t]? with|some (.bool b)=>some b|_=>none:=λt ht=>by
   unfold yielded;rw[ht];rfl
  cases ht:(ops[j]?).bind (·.dst) with
  | none=>rw[ht] at hw;simp at hw
  | some t=>
   rw[ht] at hw;simp only[DI] at hw;rw[hy t ht];have key:∀{x:V},s.env t=x->x≠.undef->∃u,a.tmps[t]?=some u/\En w (AI s U w) U u x:=λ{x} hx Yj=>by
    by_cases Ya:t < a.tmps.size
    .have h1:a.tmps[t]?=some a.tmps[t]:=Var Ya
     exact⟨_,h1,hx▸h.env t _ h1⟩
    .exact absurd (hx.symm.trans (h.out t (iH Ya))) Yj
   split at hw
   .rename_i c heq
    simp only[AF] at heq hw;obtain⟨u,hu,Wa⟩:=key heq (by simp);rw[hu];cases Wa;rw[<-hw];cases c<;>cases b<;>rfl
   .rename_i heq
    simp only[AF] at heq hw;obtain⟨u,hu,Wa⟩:=key heq (by simp);rw[hu];cases Wa;rw[<-hw];cases b<;>rfl
   .cases hw
theorem XL {K:Act->World->Prop} {Q:Exit->Act->World->Prop} {i:Nat} (h:Rel P B io w a.tmps s U F fl) (ho:ops[i]?=some o) (hd:∀d,o.dst=some d->d < a.tmps.size) {g:Bool} (hw:wanted s ops o=some g)
  (Xa:g=true->∀id:Id,id.1=s.ep->id.2 / 1024=i->U id=none) {s1:St} (he:g=true->I6 P M C s i o=some (v,s1)) (XB:g=true->jP P B io w a.tmps s U fl i v s1 M C)
  (hK:∀a' w' U' F',Rel P B io w' a'.tmps (if g then s1.put o.dst v else s.put o.dst (.AX [])) U' F' fl->(if g then s1.put o.dst v else s.put o.dst (.AX [])).ep=s.ep->C3 B io w w'->(∀id i,U id=some i->U' id=some i)->(∀id,(U' id).isSome=true->(U id).isSome=true\/(id.1=s.ep/\id.2 / 1024=i))->a'.tmps.size=a.tmps.size->a'.defers=a.defers->K a' w'):
  wpOp P ops Q i K a w:=by
 unfold wpOp;rw[ho];simp only;rw[Ysp h hw];cases g with
 | true=>
  simp only[if_true];refine .inl (Xfe h (he rfl) (Xa rfl) (XB rfl) _ _ (λval w' hp=>?_));obtain⟨CW,Yo,hl,U',F',hR,Wa,hU,F4⟩:=hp;exact hK _ _ U' F' (hR.QI hd Wa) (by rw[Ah rfl,GY];exact Yo) hl hU F4 (x6 _ _ _) (x7 _ _ _)
 | false=>
  simp only[Bp,if_false];exact hK _ _ U F (h.QI hd (.AX (by rfl) (λk v x hv=>by simp[undef] at hv))) (by rw[Ai (by simp),GY]) (C3.refl _ _ _) (λ_ _ h=>h) (λ_ h=>.inl h) (x6 _ _ _) (x7 _ _ _)
def HX (P:Program) (M:X9) (C:Kr):Prop:=
 ∀(B:Nat) (io:Nat->Prop) (w:World) (tmps:Array Value) (s:St) (U:AZ) (F:Id->List Nat) (fl:List Nat) (k:Nat) (v:V) (s':St),Rel P B io w tmps s U F fl->(∀id:Id,id.1=s.ep->id.2 / 1024=k->U id=none)->jP P B io w tmps s U fl k v s' M C
def Mw (n:Nat) (l:List Oper):Bool:=l.all λo=>match o.dst with|some d=>decide (d < n)|none=>true
theorem jR {n:Nat} {l:List Oper} (h:Mw n l=true) {i:Nat} {o:Oper} (ho:l[i]?=some o):∀d,o.dst=some d->d < n:=λd hd=>by
 have:=Cf.1 h o (E8 ho);rw[hd] at this;simpa using this
theorem Xbv {C:Nat->Kr} {Q:Exit->Act->World->Prop} (hC:∀k,HX P M (C k)):∀(l:List Oper) {k:Nat} {s s':St} {a:Act} {w:World} {U:AZ} {F:Id->List Nat},Rel P B io w a.tmps s U F fl->(∀j,l[j]?=ops[k+j]?)->Mw a.tmps.size ops.toList=true->
  (∀id:Id,id.1=s.ep->k<=id.2 / 1024->U id=none)->Gb P M C ops s k l=some s'->(∀a' w',GX P B io fl w a U s' a' w'->Q .normal a' w')->wpOps P ops Q (List.range' k l.length) a w:=by
 intro l
 induction l with
 | nil=>
  intro k s s' a w U F h _ _ _ he hQ;simp only[Gb,AF] at he;subst he;exact hQ _ _ (.refl h)
 | cons o l ih=>
  intro k s s' a w U F h hl hds Xa he hQ;have h0:ops[k]?=some o:=by simpa using (hl 0).symm
  simp only[Gb] at he;obtain⟨g,hg,he⟩:=AA.1 he;simp only[AP,vV];rw[wpOps_cons];have hd:=jR hds (i:=k) (o:=o) (by simpa using h0);have Ya:∀(id:Id),id.1=s.ep->id.2 / 1024=k->U id=none:=λid h1 h2=>Xa id h1 (by omega);have go:∀{s2:St} {a':Act} {w':World} {U':AZ} {F':Id->List Nat},Rel P B io w' a'.tmps s2 U' F' fl->s2.ep=s.ep->C3 B io w w'->(∀id i,U id=some i->U' id=some i)->(∀id,(U' id).isSome=true->(U id).isSome=true\/(id.1=s.ep/\id.2 / 1024=k))->
    a'.tmps.size=a.tmps.size->a'.defers=a.defers->Gb P M C ops s2 (k+1) l=some s'->wpOps P ops Q (List.range' (k+1) l.length) a' w':=by
   intro s2 a' w' U' F' hR Yo IV hU F4 GZ Eh he2;refine ih hR (λj=>by have:=hl (j+1);simpa [Nat.add_assoc,iO 1 j] using this) (by rw[GZ];exact hds) (λid h1 h2=>?_) he2 (λa2 w2 hA=>hQ _ _ (.trans IV hU GZ Eh hA));cases hr:U' id with
   | none=>rfl
   | some i=>
    rcases F4 id (by rw[hr];rfl) with h3|⟨_,h3⟩
    .rw[Xa id (by rw[<-Yo];exact h1) (by omega)] at h3;cases h3
    .omega
  cases g with
  | true=>
   simp only[if_true] at he;obtain⟨⟨v,s1⟩,h1,he⟩:=AA.1 he;refine XL (M:=M) (C:=C k) (v:=v) (s1:=s1) h h0 hd hg (λ_=>Ya) (λ_=>h1) (λ_=>hC k _ _ _ _ _ _ F _ _ _ _ h Ya) (λa' w' U' F' hR Yo IV hU F4 GZ Eh=>?_);simp only[if_true] at hR Yo;exact go hR Yo IV hU F4 GZ Eh he
  | false=>
   simp only[Bp,if_false] at he;refine XL (M:=M) (C:=C k) (v:=.undef) (s1:=s) h h0 hd hg (λhf=>by cases hf) (λhf=>by cases hf) (λhf=>by cases hf) (λa' w' U' F' hR Yo IV hU F4 GZ Eh=>?_);simp only[Bp,if_false] at hR Yo;exact go hR Yo IV hU F4 GZ Eh he
end
end Go.Proofs.YthdljdelfgofdaaGreatDoor.Ev
namespace Go.Proofs.YthdljdelfgofdaaGreatDoor.Ev
open Go
structure Ext (D:Id->Prop) (s t:St):Prop where
 ep:t.ep=s.ep
 out:∀id,¬D id->t.heap id=s.heap id
 abs:∀id,D id->s.heap id=none
def Kv (D:Id->Prop) (t s' t':St):Prop:=Ext D s' t'/\(∀id,D id->t'.heap id=t.heap id)/\t'.env=t.env/\t'.ep=t.ep
section
variable {D:Id->Prop} {s t s':St} {P:Program}
theorem Ext.Dn (h:Ext D s t) {id:Id} {b:Be} (hb:s.heap id=some b):¬D id:=λhd=>by rw[h.abs id hd] at hb;cases hb
theorem Ext.get (h:Ext D s t) {id:Id} {b:Be} (hb:s.heap id=some b):t.heap id=some b:=by rw[h.out id (h.Dn hb)];exact hb
theorem Ext.two (h:Ext D s t):Kv D t s t:=⟨h,λ_ _=>rfl,rfl,rfl⟩
theorem Kv.trans {t1 s1 s2 t2:St} (h:Kv D t s1 t1) (k:Kv D t1 s2 t2):Kv D t s2 t2:=⟨k.1,λid hd=>(k.2.1 id hd).trans (h.2.1 id hd),k.2.2.1.trans h.2.2.1,k.2.2.2.trans h.2.2.2⟩
theorem Ext.kill (h:Ext D s t) {id:Id} (hd:¬D id):Kv D t (s.kill id) (t.kill id):=by
 refine⟨⟨h.ep,λAx DL=>?_,λAx DL=>?_⟩,λAx DL=>?_,rfl,rfl⟩
 .simp only[St.kill,Bm];split
  .rfl
  .exact h.out Ax DL
 .simp only[St.kill,Bm];split
  .rfl
  .exact h.abs Ax DL
 .simp only[St.kill,Bm];rw[Ai (show ¬Ax=id fromλe=>hd (by rw[<-e];exact DL))]
theorem Ext.A6 (h:Ext D s t) {id:Id} {b:Be} (hd:¬D id):Kv D t (s.A6 id b) (t.A6 id b):=by
 refine⟨⟨h.ep,λAx DL=>?_,λAx DL=>?_⟩,λAx DL=>?_,rfl,rfl⟩
 .simp only[St.A6,Bm];split
  .rfl
  .exact h.out Ax DL
 .simp only[St.A6,Bm];rw[Ai (show ¬Ax=id fromλe=>hd (by rw[<-e];exact DL))];exact h.abs Ax DL
 .simp only[St.A6,Bm];rw[Ai (show ¬Ax=id fromλe=>hd (by rw[<-e];exact DL))]
theorem Ext.rowsOf (h:Ext D s t) {x:V} {r:List (List V)} (hr:s.rowsOf x=some r):t.rowsOf x=some r:=by
 unfold St.rowsOf at hr ⊢;split at hr
 .obtain⟨b,hb,hr⟩:=AA.1 hr
  simp only[h.get hb,Ag];exact hr
 .exact hr
 .exact hr
 .exact hr
 .cases hr
theorem Ext.whole (h:Ext D s t) {id:Id} {off len:Nat} {r:TypeId×List (List V)} (hr:s.whole id off len=some r):t.whole id off len=some r/\¬D id:=by
 unfold St.whole at hr ⊢;obtain⟨b,hb,hr⟩:=AA.1 hr;exact⟨by simp only[h.get hb,Ag];exact hr,h.Dn hb⟩
theorem Ext.sink:∀(xs:List V) {s t:St} {ys:List V} {c:Bool} {s':St},Ext D s t->s.sink xs=some (ys,c,s')->∃t',t.sink xs=some (ys,c,t')/\Kv D t s' t':=by
 intro xs
 induction xs with
 | nil=>
  intro s t ys c s' h hs;simp only[St.sink,AF,A7] at hs;obtain⟨rfl,rfl,rfl⟩:=hs;exact⟨t,rfl,h.two⟩
 | cons x xs ih=>
  intro s t ys c s' h hs;have step:∀{y:V} {f:Bool->Bool},((s.sink xs).map λq=>(y::q.1,f q.2.1,q.2.2))=some (ys,c,s')->∃t',((t.sink xs).map λq=>(y::q.1,f q.2.1,q.2.2))=some (ys,c,t')/\Kv D t s' t':=by
   intro y f hs;obtain⟨⟨q1,q2,q3⟩,hq,he⟩:=AM.1 hs;simp only[A7] at he;obtain⟨rfl,rfl,rfl⟩:=he;obtain⟨t',h1,h2⟩:=ih h hq;exact⟨t',by rw[h1];rfl,h2⟩
  unfold St.sink at hs ⊢;split at hs
  .exact step (f:=λb=>b) hs
  .rename_i Yj
   exact step (f:=λb=>b) hs
  .exact step (f:=λ_=>false) hs
  .exact step (f:=λ_=>false) hs
  .rename_i id off len
   split at hs
   .rename_i er hw
    obtain⟨G1,hd⟩:=h.whole hw;obtain⟨⟨q1,q2,q3⟩,hq,he⟩:=AM.1 hs;simp only[A7] at he;obtain⟨rfl,rfl,rfl⟩:=he;obtain⟨t',h1,h2⟩:=ih (h.kill hd).1 hq;refine⟨t',by rw[G1];simp only[h1];rfl,(h.kill hd).trans h2⟩
   .rename_i hw
    split at hs
    .rename_i b hb
     split at hs
     .rename_i Yz
      obtain⟨rows,Wu,hs⟩:=AA.1 hs;obtain⟨t',h1,h2⟩:=step (f:=λ_=>false) hs;have Y1:=h.get hb;have G1:t.whole id off len=none:=by
       unfold St.whole at hw ⊢;rw[Y1] ;rw[hb] at hw;exact hw
      exact⟨t',by rw[G1,Y1];simp only[Yz,if_true,h.rowsOf Wu,Ag];exact h1,h2⟩
     .cases hs
    .cases hs
  .cases hs
theorem Ext.Br:∀(xs:List (List V)) {s t:St} {ys:List (List V)} {c:Bool} {s':St},Ext D s t->s.Br xs=some (ys,c,s')->∃t',t.Br xs=some (ys,c,t')/\Kv D t s' t':=by
 intro xs
 induction xs with
 | nil=>
  intro s t ys c s' h hs;simp only[St.Br,AF,A7] at hs;obtain⟨rfl,rfl,rfl⟩:=hs;exact⟨t,rfl,h.two⟩
 | cons x xs ih=>
  intro s t ys c s' h hs;simp only[St.Br] at hs ⊢;obtain⟨⟨y1,c1,s1⟩,h1,hs⟩:=AA.1 hs;obtain⟨⟨y2,c2,s2⟩,h2,hs⟩:=AM.1 hs;simp only[A7] at hs;obtain⟨rfl,rfl,rfl⟩:=hs;obtain⟨t1,g1,e1⟩:=Ext.sink x h h1;obtain⟨t2,g2,e2⟩:=ih e1.1 h2;exact⟨t2,by rw[g1];simp only[Ag,g2];rfl,e1.trans e2⟩
theorem Ext.BA (h:Ext D s t) {x y:V} (hr:s.BA x=some y):t.BA x=some y:=by
 unfold St.BA at hr ⊢;split at hr
 .exact hr
 .exact hr
 .exact hr
 .exact hr
 .obtain⟨r,h1,rfl⟩:=AM.1 hr
  rw[h.rowsOf h1];rfl
 .exact hr
 .exact hr
theorem Ext.B3 (h:Ext D s t):∀{xs ys:List V},s.B3 xs=some ys->t.B3 xs=some ys:=by
 intro xs
 induction xs with
 | nil=>intro ys hr;exact hr
 | cons x xs ih=>
  intro ys hr;simp only[St.B3] at hr ⊢;obtain⟨y,h1,hr⟩:=AA.1 hr;obtain⟨zs,h2,rfl⟩:=AM.1 hr;rw[h.BA h1];simp only[Ag,ih h2];rfl
theorem Ext.Bs (h:Ext D s t) {x y:V} (hr:s.Bs x=some y):t.Bs x=some y:=by
 unfold St.Bs at hr ⊢;split at hr
 .obtain⟨b,hb,hr⟩:=AA.1 hr
  simp only[h.get hb,Ag];split at hr
  .rename_i ho
   rw[Ah ho];obtain⟨row,Xj,hr⟩:=AA.1 hr;obtain⟨cs,BQ,rfl⟩:=AM.1 hr;rw[Xj];simp only[Ag,h.B3 BQ];rfl
  .cases hr
 .exact h.BA hr
theorem Ext.Bz (h:Ext D s t):∀{xs ys:List V},s.Bz xs=some ys->t.Bz xs=some ys:=by
 intro xs
 induction xs with
 | nil=>intro ys hr;exact hr
 | cons x xs ih=>
  intro ys hr;simp only[St.Bz] at hr ⊢;obtain⟨y,h1,hr⟩:=AA.1 hr;obtain⟨zs,h2,rfl⟩:=AM.1 hr;rw[h.Bs h1];simp only[Ag,ih h2];rfl
theorem Ext.C7 (h:Ext D s t) {x y:V} (hr:s.C7 x=some y):t.C7 x=some y:=by
 unfold St.C7 at hr ⊢;split at hr
 .obtain⟨ys,h1,rfl⟩:=AM.1 hr
  simp only[h.B3 h1];rfl
 .obtain⟨ys,h1,rfl⟩:=AM.1 hr
  simp only[h.Bz h1];rfl
 .exact h.Bs hr
theorem Ext.BN (h:Ext D s t):∀{xs:List V} {ms:List Yw} {ys:List V},s.BN ms xs=some ys->t.BN ms xs=some ys:=by
 intro xs
 induction xs with
 | nil=>intro ms ys hr;exact hr
 | cons x xs ih=>
  intro ms ys hr;simp only[St.BN] at hr ⊢;obtain⟨y,h1,hr⟩:=AA.1 hr;obtain⟨zs,h2,rfl⟩:=AM.1 hr;have:t.Cr (ms.headD .rd) x=some y:=by
   unfold St.Cr at h1 ⊢;split at h1
   .exact h.C7 h1
   .exact h1
  rw[this];simp only[Ag,ih h2];rfl
theorem Ext.AB (h:Ext D s t) {ty:Option TypeId} {x y:V} (hg:s.AB ty x=some (y,s')):∃t',t.AB ty x=some (y,t')/\Kv D t s' t':=by
 unfold St.AB at hg ⊢;split at hg
 .obtain⟨e,h1,he⟩:=AM.1 hg
  simp only[A7] at he;obtain⟨rfl,rfl⟩:=he;exact⟨t,by rw[h1];rfl,h.two⟩
 .simp only[AF,A7] at hg
  obtain⟨rfl,rfl⟩:=hg;exact⟨t,rfl,h.two⟩
 .simp only[AF,A7] at hg
  obtain⟨rfl,rfl⟩:=hg;exact⟨t,rfl,h.two⟩
 .simp only[AF,A7] at hg
  obtain⟨rfl,rfl⟩:=hg;exact⟨t,rfl,h.two⟩
 .obtain⟨er,h1,he⟩:=AM.1 hg
  simp only[A7] at he;obtain⟨rfl,rfl⟩:=he;obtain⟨h2,hd⟩:=h.whole h1;exact⟨_,by rw[h2];rfl,h.kill hd⟩
 .cases hg
theorem Ext.AL:∀{xs:List V} {s t:St} {ts:List (Option TypeId)} {ys:List V} {s':St},Ext D s t->s.AL ts xs=some (ys,s')->∃t',t.AL ts xs=some (ys,t')/\Kv D t s' t':=by
 intro xs
 induction xs with
 | nil=>
  intro s t ts ys s' h hs;simp only[St.AL,AF,A7] at hs;obtain⟨rfl,rfl⟩:=hs;exact⟨t,rfl,h.two⟩
 | cons x xs ih=>
  intro s t ts ys s' h hs;simp only[St.AL] at hs ⊢;obtain⟨⟨y1,s1⟩,h1,hs⟩:=AA.1 hs;obtain⟨⟨y2,s2⟩,h2,hs⟩:=AM.1 hs;simp only[A7] at hs;obtain⟨rfl,rfl⟩:=hs;obtain⟨t1,g1,e1⟩:=h.AB h1;obtain⟨t2,g2,e2⟩:=ih e1.1 h2;exact⟨t2,by rw[g1];simp only[Ag,g2];rfl,e1.trans e2⟩
theorem Ext.Bb (h:Ext D s t) {ts:List (Option TypeId)} {x y:V} (hg:s.Bb ts x=some (y,s')):∃t',t.Bb ts x=some (y,t')/\Kv D t s' t':=by
 unfold St.Bb at hg ⊢;split at hg
 .obtain⟨⟨ys,s1⟩,h1,he⟩:=AM.1 hg
  simp only[A7] at he;obtain⟨rfl,rfl⟩:=he;obtain⟨t',g,e⟩:=Ext.AL h h1;exact⟨t',by rw[g];rfl,e⟩
 .exact h.AB hg
theorem Ext.Bw (h:Ext D s t) {ts:List (Option TypeId)} {id:Id} {ys:List V} (hg:s.Bw ts id=some (ys,s')):(∃t',t.Bw ts id=some (ys,t')/\Kv D t s' t')/\¬D id:=by
 unfold St.Bw at hg ⊢;obtain⟨b,hb,hg⟩:=AA.1 hg;refine⟨?_,h.Dn hb⟩;simp only[h.get hb,Ag];split at hg
 .rename_i hc
  rw[Ah hc];split at hg
  .rename_i row hr
   obtain⟨t',g,e⟩:=Ext.AL (h.kill (h.Dn hb)).1 hg;exact⟨t',g,(h.kill (h.Dn hb)).trans e⟩
  .cases hg
 .cases hg
theorem Ext.Bj (h:Ext D s t) {ty:Option TypeId} {x y:V} (hg:s.Bj ty x=some (y,s')):∃t',t.Bj ty x=some (y,t')/\Kv D t s' t':=by
 unfold St.Bj at hg ⊢;split at hg
 .obtain⟨⟨ys,s1⟩,h1,he⟩:=AM.1 hg
  simp only[A7] at he;obtain⟨rfl,rfl⟩:=he;obtain⟨⟨t',g,e⟩,_⟩:=h.Bw h1;exact⟨t',by simp only[g];rfl,e⟩
 .exact h.AB hg
theorem Ext.AR:∀{xs:List V} {s t:St} {ts:List (Option TypeId)} {ys:List V} {s':St},Ext D s t->s.AR ts xs=some (ys,s')->∃t',t.AR ts xs=some (ys,t')/\Kv D t s' t':=by
 intro xs
 induction xs with
 | nil=>
  intro s t ts ys s' h hs;simp only[St.AR,AF,A7] at hs;obtain⟨rfl,rfl⟩:=hs;exact⟨t,rfl,h.two⟩
 | cons x xs ih=>
  intro s t ts ys s' h hs;simp only[St.AR] at hs ⊢;obtain⟨⟨y1,s1⟩,h1,hs⟩:=AA.1 hs;obtain⟨⟨y2,s2⟩,h2,hs⟩:=AM.1 hs;simp only[A7] at hs;obtain⟨rfl,rfl⟩:=hs;obtain⟨t1,g1,e1⟩:=h.Bj h1;obtain⟨t2,g2,e2⟩:=ih e1.1 h2;exact⟨t2,by rw[g1];simp only[Ag,g2];rfl,e1.trans e2⟩
theorem Ext.Bg (h:Ext D s t) {ts:List (Option TypeId)} {id:Id} {ys:List V} (hg:s.Bg ts id=some (ys,s')):(∃t',t.Bg ts id=some (ys,t')/\Kv D t s' t')/\¬D id:=by
 unfold St.Bg at hg ⊢;obtain⟨b,hb,hg⟩:=AA.1 hg;refine⟨?_,h.Dn hb⟩;simp only[h.get hb,Ag];split at hg
 .rename_i hc
  rw[Ah hc];split at hg
  .rename_i row hr
   obtain⟨t',g,e⟩:=Ext.AR (h.kill (h.Dn hb)).1 hg;exact⟨t',g,(h.kill (h.Dn hb)).trans e⟩
  .cases hg
 .cases hg
def XM (D:Id->Prop):V->Prop
 | .sl id _ _=>¬D id
 | _=>True
def IW (D:Id->Prop) (m:Yw) (x:V):Prop:=match m with
 | .io=>match x with|.ptr id _ _=>¬D id|_=>True
 | .EA=>match thin x with|.agg cs=>∀c∈cs,XM D c|x=>XM D x
 | _=>True
def x8 (D:Id->Prop):List Yw->List V->Prop
 | _,[]=>True
 | ms,x::r=>IW D (ms.headD .rd) x/\x8 D ms.tail r
theorem Ext.Db (h:Ext D s t) {ty:Option TypeId} {x y:V} (hg:s.AB ty x=some (y,s')):XM D x:=by
 cases x<;>try exact trivial
 rename_i id off len;simp only[St.AB] at hg;obtain⟨er,h1,he⟩:=AM.1 hg;exact (h.whole h1).2
theorem Ext.Ej:∀{xs:List V} {s t:St} {ts:List (Option TypeId)} {ys:List V} {s':St},Ext D s t->s.AL ts xs=some (ys,s')->∀c∈xs,XM D c:=by
 intro xs
 induction xs with
 | nil=>intro s t ts ys s' h hs c hc;simp at hc
 | cons x xs ih=>
  intro s t ts ys s' h hs c hc;simp only[St.AL] at hs;obtain⟨⟨y1,s1⟩,h1,hs⟩:=AA.1 hs;obtain⟨⟨y2,s2⟩,h2,hs⟩:=AM.1 hs;rcases BX.1 hc with rfl|hc
  .exact h.Db h1
  .obtain⟨t1,g1,e1⟩:=h.AB h1
   exact ih e1.1 h2 c hc
theorem Ext.Dl (h:Ext D s t) {ts:List (Option TypeId)} {m:Yw} {x y:V} (hg:s.Dl ts m x=some (y,s')):(∃t',t.Dl ts m x=some (y,t')/\Kv D t s' t')/\IW D m x:=by
 unfold St.Dl at hg ⊢;split at hg
 .simp only[AF,A7] at hg
  obtain⟨rfl,rfl⟩:=hg;exact⟨⟨t,rfl,h.two⟩,trivial⟩
 .split at hg
  .obtain⟨⟨ys,s1⟩,h1,he⟩:=AM.1 hg
   simp only[A7] at he;obtain⟨rfl,rfl⟩:=he;obtain⟨⟨t',g,e⟩,hd⟩:=h.Bg h1;exact⟨⟨t',by simp only[g];rfl,e⟩,hd⟩
  .cases hg
 .exact⟨h.Bb hg,trivial⟩
 .refine⟨h.Bb hg,?_⟩
  unfold IW;generalize thin x=z at hg;unfold St.Bb at hg;split at hg
  .obtain⟨⟨ys,s1⟩,h1,he⟩:=AM.1 hg
   exact Ext.Ej h h1
  .rename_i Yj
   have:=h.Db hg;cases z<;>first|exact this|exact absurd rfl (Yj _)
theorem Ext.Bt:∀{xs:List V} {s t:St} {ts:List TypeId} {ms:List Yw} {ys:List V} {s':St},Ext D s t->s.Bt P ts ms xs=some (ys,s')->(∃t',t.Bt P ts ms xs=some (ys,t')/\Kv D t s' t')/\x8 D ms xs:=by
 intro xs
 induction xs with
 | nil=>
  intro s t ts ms ys s' h hs;simp only[St.Bt,AF,A7] at hs;obtain⟨rfl,rfl⟩:=hs;exact⟨⟨t,rfl,h.two⟩,trivial⟩
 | cons x xs ih=>
  intro s t ts ms ys s' h hs;simp only[St.Bt] at hs ⊢;obtain⟨⟨y1,s1⟩,h1,hs⟩:=AA.1 hs;obtain⟨⟨y2,s2⟩,h2,hs⟩:=AM.1 hs;simp only[A7] at hs;obtain⟨rfl,rfl⟩:=hs;obtain⟨⟨t1,g1,e1⟩,i1⟩:=h.Dl h1;obtain⟨⟨t2,g2,e2⟩,i2⟩:=ih e1.1 h2;exact⟨⟨t2,by rw[g1];simp only[Ag,g2];rfl,e1.trans e2⟩,i1,i2⟩
theorem Ext.AT (h:Ext D s t) {id:Id} (hd:¬D id) {x y:V} (hg:s.AT id x=some (y,s')):∃t',t.AT id x=some (y,t')/\Kv D t s' t':=by
 unfold St.AT at hg ⊢;split at hg
 .simp only[AF,A7] at hg
  obtain⟨rfl,rfl⟩:=hg;exact⟨_,rfl,h.A6 hd⟩
 .simp only[AF,A7] at hg
  obtain⟨rfl,rfl⟩:=hg;exact⟨t,rfl,h.two⟩
 .simp only[AF,A7] at hg
  obtain⟨rfl,rfl⟩:=hg;exact⟨t,rfl,h.two⟩
 .cases hg
theorem Ext.AN {e:Nat}:∀{xs:List V} {s t:St} {k:Nat} {ys:List V} {s':St},Ext D s t->(∀j,k<=j->j < k+xs.length->¬D (e,j))->s.AN e k xs=some (ys,s')->∃t',t.AN e k xs=some (ys,t')/\Kv D t s' t':=by
 intro xs
 induction xs with
 | nil=>
  intro s t k ys s' h _ hs;simp only[St.AN,AF,A7] at hs;obtain⟨rfl,rfl⟩:=hs;exact⟨t,rfl,h.two⟩
 | cons x xs ih=>
  intro s t k ys s' h hd hs;simp only[St.AN] at hs ⊢;obtain⟨⟨y1,s1⟩,h1,hs⟩:=AA.1 hs;obtain⟨⟨y2,s2⟩,h2,hs⟩:=AM.1 hs;simp only[A7] at hs;obtain⟨rfl,rfl⟩:=hs;obtain⟨t1,g1,e1⟩:=h.AT (hd k (B2 _) (by simp)) h1;obtain⟨t2,g2,e2⟩:=ih e1.1 (λj hj Ya=>hd j (by omega) (by simp only[AP];omega)) h2;exact⟨t2,by rw[g1];simp only[Ag,g2];rfl,e1.trans e2⟩
theorem Ext.B4 (h:Ext D s t) {e k:Nat} {x y:V} (hd:∀j,k<=j->j < k+KU x->¬D (e,j)) (hg:s.B4 e k x=some (y,s')):∃t',t.B4 e k x=some (y,t')/\Kv D t s' t':=by
 unfold St.B4 at hg ⊢;split at hg
 .simp only[KU] at hd
  obtain⟨⟨ys,s1⟩,h1,he⟩:=AM.1 hg;simp only[A7] at he;obtain⟨rfl,rfl⟩:=he;obtain⟨t',g,e⟩:=Ext.AN h (λj hj Ya=>hd j (by omega) (by omega)) h1;exact⟨_,by rw[g];rfl,e.trans (e.1.A6 (hd _ (B2 _) (by omega)))⟩
 .exact h.AT (hd k (B2 _) (by unfold KU;split<;>omega)) hg
theorem Ext.AY {e:Nat}:∀{xs:List V} {s t:St} {k:Nat} {ys:List V} {s':St},Ext D s t->(∀j,k<=j->j < k+wt xs->¬D (e,j))->s.AY e k xs=some (ys,s')->∃t',t.AY e k xs=some (ys,t')/\Kv D t s' t':=by
 intro xs
 induction xs with
 | nil=>
  intro s t k ys s' h _ hs;simp only[St.AY,AF,A7] at hs;obtain⟨rfl,rfl⟩:=hs;exact⟨t,rfl,h.two⟩
 | cons x xs ih=>
  intro s t k ys s' h hd hs;simp only[wt] at hd;simp only[St.AY] at hs ⊢;obtain⟨⟨y1,s1⟩,h1,hs⟩:=AA.1 hs;obtain⟨⟨y2,s2⟩,h2,hs⟩:=AM.1 hs;simp only[A7] at hs;obtain⟨rfl,rfl⟩:=hs;obtain⟨t1,g1,e1⟩:=h.B4 (λj hj Ya=>hd j hj (by omega)) h1;obtain⟨t2,g2,e2⟩:=ih e1.1 (λj hj Ya=>hd j (by omega) (by omega)) h2;exact⟨t2,by rw[g1];simp only[Ag,g2];rfl,e1.trans e2⟩
theorem Ext.BC (h:Ext D s t) {e k:Nat} (hd:∀j,k<=j->j < k+64->¬D (e,j)) {cs:List V} {y:V} (hg:s.BC e k cs=some (y,s')):∃t',t.BC e k cs=some (y,t')/\Kv D t s' t':=by
 unfold St.BC at hg ⊢;split at hg
 .rename_i hl
  rw[Ah hl];obtain⟨⟨ys,s1⟩,h1,he⟩:=AM.1 hg;simp only[A7] at he;obtain⟨rfl,rfl⟩:=he;obtain⟨t',g,e⟩:=Ext.AY h (λj hj Ya=>hd j hj (by omega)) h1;exact⟨_,by rw[g];rfl,e.trans (e.1.A6 (hd _ (by omega) (by omega)))⟩
 .cases hg
theorem Ext.Bc (h:Ext D s t) {e k:Nat} (hd:∀j,k<=j->j < k+64->¬D (e,j)) {x y:V} (hg:s.Bc e k x=some (y,s')):∃t',t.Bc e k x=some (y,t')/\Kv D t s' t':=by
 unfold St.Bc at hg ⊢;split at hg
 .split at hg
  .rename_i hl
   rw[Ah hl];obtain⟨⟨ys,s1⟩,h1,he⟩:=AM.1 hg;simp only[A7] at he;obtain⟨rfl,rfl⟩:=he;obtain⟨t',g,e⟩:=Ext.AN h (λj hj Ya=>hd j hj (by omega)) h1;exact⟨t',by rw[g];rfl,e⟩
  .cases hg
 .split at hg
  .rename_i hl
   rw[Ah hl];obtain⟨⟨ys,s1⟩,h1,he⟩:=AM.1 hg;simp only[A7] at he;obtain⟨rfl,rfl⟩:=he;obtain⟨t',g,e⟩:=Ext.AN h (λj hj Ya=>hd j hj (by omega)) h1;exact⟨_,by rw[g];rfl,e.trans (e.1.A6 (hd _ (by omega) (by omega)))⟩
  .cases hg
 .exact h.AT (hd k (B2 _) (by omega)) hg
theorem Ext.Bx {e:Nat}:∀{xs:List V} {s t:St} {k:Nat} {ys:List V} {s':St},Ext D s t->(∀j,64*k<=j->j < 64*(k+xs.length)->¬D (e,j))->s.Bx e k xs=some (ys,s')->∃t',t.Bx e k xs=some (ys,t')/\Kv D t s' t':=by
 intro xs
 induction xs with
 | nil=>
  intro s t k ys s' h _ hs;simp only[St.Bx,AF,A7] at hs;obtain⟨rfl,rfl⟩:=hs;exact⟨t,rfl,h.two⟩
 | cons x xs ih=>
  intro s t k ys s' h hd hs;simp only[AP] at hd;simp only[St.Bx] at hs ⊢;obtain⟨⟨y1,s1⟩,h1,hs⟩:=AA.1 hs;obtain⟨⟨y2,s2⟩,h2,hs⟩:=AM.1 hs;simp only[A7] at hs;obtain⟨rfl,rfl⟩:=hs;obtain⟨t1,g1,e1⟩:=h.Bc (λj hj Ya=>hd j hj (by omega)) h1;obtain⟨t2,g2,e2⟩:=ih e1.1 (λj hj Ya=>hd j (by omega) (by omega)) h2;exact⟨t2,by rw[g1];simp only[Ag,g2];rfl,e1.trans e2⟩
theorem Ext.BB (h:Ext D s t) {e k:Nat} (hd:∀j,64*k<=j->j < 64*(k+8)->¬D (e,j)) {x y:V} (hg:s.BB e k x=some (y,s')):∃t',t.BB e k x=some (y,t')/\Kv D t s' t':=by
 unfold St.BB at hg ⊢;split at hg
 .split at hg
  .rename_i hl
   rw[Ah hl];obtain⟨⟨ys,s1⟩,h1,he⟩:=AM.1 hg;simp only[A7] at he;obtain⟨rfl,rfl⟩:=he;obtain⟨t',g,e⟩:=Ext.Bx h (λj hj Ya=>hd j hj (by omega)) h1;exact⟨t',by rw[g];rfl,e⟩
  .cases hg
 .exact h.Bc (λj hj Ya=>hd j hj (by omega)) hg
theorem Ext.AO:∀{xs:List V} {s t:St} {os:List V} {s':St},Ext D s t->(∀c∈xs,XM D c)->s.AO xs os=some s'->∃t',t.AO xs os=some t'/\Kv D t s' t':=by
 intro xs
 induction xs with
 | nil=>
  intro s t os s' h _ hs;simp only[St.AO,AF] at hs;subst hs;exact⟨t,rfl,h.two⟩
 | cons x xs ih=>
  intro s t os s' h hd hs;unfold St.AO at hs ⊢;split at hs
  .rename_i heq;cases heq
  .rename_i id l os1 e rows ns Li
   injection Li with h1 h2;subst h1;subst h2;have:=h.A6 (b:=⟨false,true,true,e,rows⟩) (hd _ BI);obtain⟨t',g,e⟩:=ih this.1 (λc hc=>hd c (Cg _ hc)) hs;exact⟨t',g,this.trans e⟩
  .rename_i Li
   injection Li with h1 h2;subst h1;subst h2;rename_i Yj;obtain⟨t',g,e⟩:=ih h (λc hc=>hd c (Cg _ hc)) hs;exact⟨t',g,e⟩
  .cases hs
theorem Ext.back (h:Ext D s t) {m:Yw} {e k:Nat} (hd:∀j,64*k<=j->j < 64*(k+1)->¬D (e,j)) {x o:V} (hi:IW D m x) (hb:s.back m e k x o=some s'):∃t',t.back m e k x o=some t'/\Kv D t s' t':=by
 unfold St.back at hb ⊢;split at hb
 .simp only[AF] at hb;subst hb;exact⟨t,rfl,h.two⟩
 .simp only[AF] at hb;subst hb;exact⟨t,rfl,h.two⟩
 .split at hb
  .split at hb
   .rename_i hl
    rw[Ah hl];obtain⟨⟨ys,s1⟩,h1,rfl⟩:=AM.1 hb;obtain⟨t',g,e⟩:=Ext.AY h (λj hj Ya=>hd j hj (by omega)) h1;exact⟨_,by rw[g];rfl,e.trans (e.1.A6 hi)⟩
   .cases hb
  .cases hb
 .unfold IW at hi
  generalize thin x=z at hb hi;split at hb
  .exact Ext.AO h hi hb
  .rename_i Yj
   refine Ext.AO h (λc hc=>?_) hb;rw[List.mem_singleton.1 hc];cases z<;>first|exact hi|exact trivial
theorem Ext.BF {e:Nat}:∀{xs:List V} {s t:St} {ms:List Yw} {k:Nat} {os:List V} {s':St},Ext D s t->(∀j,64*k<=j->j < 64*(k+xs.length)->¬D (e,j))->x8 D ms xs->s.BF e ms k xs os=some s'->∃t',t.BF e ms k xs os=some t'/\Kv D t s' t':=by
 intro xs
 induction xs with
 | nil=>
  intro s t ms k os s' h _ _ hs;simp only[St.BF,AF] at hs;subst hs;exact⟨t,by simp[St.BF],h.two⟩
 | cons x xs ih=>
  intro s t ms k os s' h hd hi hs;simp only[AP] at hd;cases os with
  | nil=>simp[St.BF] at hs
  | cons o os=>
   simp only[St.BF] at hs ⊢;obtain⟨s1,h1,hs⟩:=AA.1 hs;obtain⟨t1,g1,e1⟩:=h.back (λj hj Ya=>hd j hj (by omega)) hi.1 h1;obtain⟨t2,g2,e2⟩:=ih e1.1 (λj hj Ya=>hd j (by omega) (by omega)) hi.2 hs;exact⟨t2,by rw[g1];exact g2,e1.trans e2⟩
variable {M:X9} {C:Kr} {k:Nat} {o:Oper} {v:V}
theorem Ext.call (h:Ext D s t) (hd:∀id:Id,D id->¬(id.1=s.ep/\id.2 / 1024=k)) {g:FuncId} {args:List V} (hc:KV P M C s k g args=some (v,s')):∃t',KV P M C t k g args=some (v,t')/\Kv D t s' t':=by
 unfold KV at hc ⊢;split at hc
 case isFalse=>cases hc
 rename_i hl;rw[Ah hl];obtain⟨⟨ys,s1⟩,h1,hc⟩:=AA.1 hc;obtain⟨xs,h2,hc⟩:=AA.1 hc;obtain⟨⟨r,os⟩,h3,hc⟩:=AA.1 hc;obtain⟨⟨t1,g1,e1⟩,i1⟩:=h.Bt h1;have g2:=e1.1.BN h2;simp only at hc g2;rw[g1];simp only[Ag,g2,h3];split at hc
 .cases hc
 .rename_i hp
  rw[Ai hp];obtain⟨s2,h4,h5⟩:=AA.1 hc;have Dc:∀j,1024*k<=j->j < 1024*(k+1)->¬D (s.ep,j):=λj h1 h2 hD=>hd _ hD ⟨rfl,by simp only;omega⟩;obtain⟨t2,g4,e4⟩:=Ext.BF e1.1 (λj hj Ya=>Dc j (by omega) (by omega)) i1 h4;obtain⟨t3,g5,e5⟩:=e4.1.BB (λj hj Ya=>Dc j (by omega) (by omega)) h5;exact⟨t3,by rw[h.ep,g4];exact g5,(e1.trans e4).trans e5⟩
theorem Ext.Ct (h:Ext D s t) {all:Bool} {x:V} {rows:List (List V)} {c:Bool} (hm:s.Ct all x=some (rows,c,s')):∃t',t.Ct all x=some (rows,c,t')/\Kv D t s' t':=by
 have look:∀{x:V},((s.rowsOf x).map λrows=>(rows,Fx rows,s))=some (rows,c,s')->∃t',((t.rowsOf x).map λrows=>(rows,Fx rows,t))=some (rows,c,t')/\Kv D t s' t':=by
  intro x hm;obtain⟨r,h1,he⟩:=AM.1 hm;simp only[A7] at he;obtain⟨rfl,rfl,rfl⟩:=he;exact⟨t,by rw[h.rowsOf h1];rfl,h.two⟩
 unfold St.Ct at hm ⊢;split at hm
 .rename_i id off len
  split at hm
  .rename_i er hw
   split at hw
   .rename_i hc
    obtain⟨g,hd⟩:=h.whole hw;simp only[AF,A7] at hm;obtain⟨rfl,rfl,rfl⟩:=hm;refine⟨t.kill id,?_,h.kill hd⟩;rw[h.ep,Ah hc,g]
   .cases hw
  .rename_i hw
   have hb:∃b,s.heap id=some b:=by
    obtain⟨r,h1,_⟩:=AM.1 hm;simp only[St.rowsOf] at h1;obtain⟨b,hb,_⟩:=AA.1 h1;exact⟨b,hb⟩
   obtain⟨b,hb⟩:=hb;have G1:(if id.1=t.ep\/all=true then t.whole id off len else none)=none:=by
    rw[h.ep];split
    .rename_i hc
     rw[Ah hc] at hw;unfold St.whole at hw ⊢;rw[h.get hb];rw[hb] at hw;exact hw
    .rfl
   rw[G1];exact look hm
 .exact look hm
theorem Ext.append (h:Ext D s t) {all:Bool} {id:Id} (hd:¬D id) {ty:TypeId} {b x:V} (ha:NF P all s id ty b x=some (v,s')):∃t',NF P all t id ty b x=some (v,t')/\Kv D t s' t':=by
 unfold NF at ha ⊢;obtain⟨e,h1,ha⟩:=AA.1 ha;obtain⟨⟨rows,c,s1⟩,h2,ha⟩:=AA.1 ha;obtain⟨t1,g2,e2⟩:=h.Ct h2;rw[h1,Ag,g2,Ag];simp only at ha ⊢;split at ha
 case isFalse=>cases ha
 rename_i hc;rw[Ah hc];split at ha
 .split at ha
  .rename_i hl
   rw[Ah hl];simp only[AF,A7] at ha;obtain⟨rfl,rfl⟩:=ha;exact⟨_,rfl,e2.trans (e2.1.A6 hd)⟩
  .cases ha
 .obtain⟨kb,h3,ha⟩:=AA.1 ha
  rw[e2.1.get h3,Ag];split at ha
  .rename_i hl
   rw[Ah hl];simp only[AF,A7] at ha;obtain⟨rfl,rfl⟩:=ha;have:=e2.1.kill (e2.1.Dn h3);exact⟨_,rfl,(e2.trans this).trans (this.1.A6 hd)⟩
  .cases ha
 .cases ha
theorem Ext.slice (h:Ext D s t) {ty:TypeId} {x:V} {lo hi:Option V} (hs:NG P s ty x lo hi=some v):NG P t ty x lo hi=some v:=by
 unfold NG at hs ⊢;obtain⟨e,h1,hs⟩:=AA.1 hs;obtain⟨rows,h2,hs⟩:=AA.1 hs;rw[h1,Ag,h.rowsOf h2,Ag];exact hs
theorem Ext.op {f:Operand->V} (h:Ext D s t) (hd:∀id:Id,D id->¬(id.1=s.ep/\id.2 / 1024=k)) (he:Xn P M C f s k o=some (v,s')):∃t',Xn P M C f t k o=some (v,t')/\Kv D t s' t':=by
 have Zu:¬D (s.ep,1024*k):=λhD=>hd _ hD ⟨rfl,by simp⟩;have pu:∀{x:Option V},(x.map λy=>(y,s))=some (v,s')->∃t',(x.map λy=>(y,t))=some (v,t')/\Kv D t s' t':=by
  intro x hx;obtain⟨y,rfl,he⟩:=AM.1 hx;simp only[A7] at he;obtain⟨rfl,rfl⟩:=he;exact⟨t,rfl,h.two⟩
 have sm:∀{x:V},some (x,s)=some (v,s')->∃t',some (x,t)=some (v,t')/\Kv D t s' t':=by
  intro x hx;simp only[AF,A7] at hx;obtain⟨rfl,rfl⟩:=hx;exact⟨t,rfl,h.two⟩
 unfold Xn at he ⊢;simp only[h.ep] at he ⊢;split at he
 .split at he
  .cases he
  .exact sm he
 .split at he
  .cases he
  .exact sm he
 .split at he
  .exact sm he
  .cases he
 .split at he
  .exact pu he
  .cases he
 .split at he
  .exact sm he
  .exact sm he
  .exact sm he
  .cases he
 .obtain⟨z,hz,he⟩:=AM.1 he
  simp only[A7] at he;obtain⟨rfl,rfl⟩:=he;exact⟨_,by rw[hz];rfl,h.A6 Zu⟩
 .obtain⟨cs,BQ,he⟩:=AA.1 he
  rw[BQ,Ag];split at he
  .rename_i hl
   rw[Ah hl];simp only[AF,A7] at he;obtain⟨rfl,rfl⟩:=he;exact⟨_,rfl,h.A6 Zu⟩
  .cases he
 .obtain⟨z,hz,he⟩:=AA.1 he
  rw[hz,Ag];split at he
  .split at he
   .cases he
   .rename_i hl
    rw[Ai hl];obtain⟨cs,BQ,he⟩:=AM.1 he;rw[BQ];exact sm (congrArg some he)
  .cases he
 .obtain⟨e,Q6,he⟩:=AA.1 he
  obtain⟨z,hz,he⟩:=AA.1 he;rw[Q6,Ag,hz,Ag];split at he
  .cases he
  .rename_i hl
   rw[Ai hl];obtain⟨cs,BQ,he⟩:=AA.1 he;obtain⟨⟨rows,c,s1⟩,hs,he⟩:=AM.1 he;simp only[A7] at he;obtain⟨rfl,rfl⟩:=he;obtain⟨t1,g,e1⟩:=Ext.Br _ h hs;exact⟨_,by rw[BQ,Ag,g];rfl,e1.trans (e1.1.A6 Zu)⟩
 .split at he
  .obtain⟨b,hb,he⟩:=AA.1 he
   obtain⟨row,Xj,he⟩:=AA.1 he;rw[h.get hb,Ag,Xj,Ag];split at he
   .rename_i hl
    rw[Ah hl];exact pu he
   .cases he
  .split at he
   .rename_i hl
    rw[Ah hl];exact pu he
   .cases he
  .cases he
 .split at he
  .obtain⟨b,hb,he⟩:=AA.1 he
   obtain⟨row,Xj,he⟩:=AA.1 he;obtain⟨cs,BQ,he⟩:=AA.1 he;rw[h.get hb,Ag,Xj,Ag,BQ,Ag];split at he
   .rename_i hc
    rw[Ah hc];split at he
    .rename_i Xp
     rw[Ah Xp];simp only[AF,A7] at he;obtain⟨rfl,rfl⟩:=he;exact⟨_,rfl,h.A6 (h.Dn hb)⟩
    .rename_i Xp
     rw[Ai Xp];obtain⟨⟨ys,c,s1⟩,hs,he⟩:=AA.1 he;obtain⟨t1,g,e1⟩:=Ext.sink _ h hs;simp only at he;split at he
     .rename_i b1 CG
      simp only[AF,A7] at he;obtain⟨rfl,rfl⟩:=he;exact⟨_,by rw[g,Ag];simp only[e1.1.get CG],e1.trans (e1.1.A6 (h.Dn hb))⟩
     .cases he
   .cases he
  .cases he
 .obtain⟨off,XD,he⟩:=AA.1 he
  rw[XD,Ag];split at he
  .exact sm he
  .exact sm he
  .cases he
 .obtain⟨e,Q6,he⟩:=AA.1 he
  rw[Q6,Ag];split at he
  .cases he
  .rename_i hz
   rw[Ai hz];obtain⟨n,hn,he⟩:=AA.1 he;rw[hn,Ag];split at he
   .split at he
    .rename_i Ya
     rw[Ah Ya];obtain⟨b,hb,he⟩:=AA.1 he;obtain⟨row,Xj,he⟩:=AA.1 he;rw[h.get hb,Ag,Xj,Ag];split at he
     .rename_i hl;rw[Ah hl];exact sm he
     .cases he
    .cases he
   .obtain⟨row,Xj,he⟩:=AA.1 he
    rw[Xj,Ag];split at he
    .rename_i hl;rw[Ah hl];exact sm he
    .cases he
   .obtain⟨row,Xj,he⟩:=AA.1 he
    rw[Xj,Ag];split at he
    .rename_i hl;rw[Ah hl];exact sm he
    .cases he
   .cases he
 .split at he
  .obtain⟨y,hy,he⟩:=AM.1 he
   rw[h.slice hy];exact sm (congrArg some he)
  .obtain⟨y,hy,he⟩:=AM.1 he
   rw[h.slice hy];exact sm (congrArg some he)
  .obtain⟨y,hy,he⟩:=AM.1 he
   rw[h.slice hy];exact sm (congrArg some he)
  .exact pu he
 .obtain⟨e,Q6,he⟩:=AA.1 he
  obtain⟨z,hz,he⟩:=AA.1 he;obtain⟨n,hn,he⟩:=AA.1 he;obtain⟨m,hm,he⟩:=AA.1 he;rw[Q6,Ag,hz,Ag,hn,Ag,hm,Ag];split at he
  .rename_i hc
   rw[Ah hc];simp only[AF,A7] at he;obtain⟨rfl,rfl⟩:=he;exact⟨_,rfl,h.A6 Zu⟩
  .cases he
 .split at he
  .rename_i hf;rw[Ah hf];exact sm he
  .cases he
 .split at he
  .exact pu he
  .split at he
   .split at he
    .obtain⟨rows,hr,he⟩:=AA.1 he
     rw[h.rowsOf hr,Ag];obtain⟨bs,hb,he⟩:=AM.1 he;rw[hb];exact sm (congrArg some he)
    .cases he
   .cases he
   .cases he
 .split at he
  .split at he
   .split at he
    .rename_i hl
     rw[Ah hl];exact h.append Zu he
    .cases he
   .cases he
  .split at he
   .split at he
    .split at he
     .rename_i hl;rw[Ah hl];exact sm he
     .cases he
    .split at he
     .rename_i hl;rw[Ah hl];exact sm he
     .cases he
    .split at he
     .rename_i hl;rw[Ah hl];exact sm he
     .cases he
    .exact pu he
   .cases he
  .split at he
   .obtain⟨e,Q6,he⟩:=AA.1 he
    obtain⟨z,hz,he⟩:=AA.1 he;rw[Q6,Ag,hz,Ag];split at he
    .obtain⟨b,hb,he⟩:=AA.1 he
     rw[h.get hb,Ag];split at he
     .rename_i hc
      rw[Ah hc];simp only[AF,A7] at he;obtain⟨rfl,rfl⟩:=he;exact⟨_,rfl,h.A6 (h.Dn hb)⟩
     .cases he
    .cases he
   .cases he
  .exact pu he
  .split at he
   .exact h.call hd he
   .cases he
  .cases he
 .split at he
  .exact pu he
  .exact pu he
  .exact pu he
  .split at he
   .rename_i hp
    rw[Ah hp];split at he
    .exact sm he
    .exact sm he
    .cases he
   .cases he
  .split at he
   .cases he
   .rename_i Q6
    rw[Ai Q6];split at he
    .rw[h.rowsOf (show s.rowsOf _=some (_::_) by assumption)];exact sm he
    .rw[h.rowsOf (show s.rowsOf _=some (_::_) by assumption)];exact sm he
    .cases he
  .split at he
   .cases he
   .rename_i Q6
    rw[Ai Q6];split at he
    .rw[h.rowsOf (show s.rowsOf _=some (_::_) by assumption)];exact sm he
    .rw[h.rowsOf (show s.rowsOf _=some (_::_) by assumption)];exact sm he
    .cases he
  .cases he
 .exact pu he
end
section
variable {s s' t:St} {P:Program} {M:X9} {C:Kr} {k:Nat} {o:Oper} {v:V} {f f':Operand->V}
theorem Ypt (h:∀x∈o.op.operands.toList,f x=f' x) (hc:ND o.op=true->execOp (λx=>(Qu (f x)).getD undef) o=execOp (λx=>(Qu (f' x)).getD undef) o):Qj P f o=Qj P f' o:=by
 unfold Qj;have h1:o.op.operands.toList.all (λx=>(Qu (f x)).isSome)=o.op.operands.toList.all (λx=>(Qu (f' x)).isSome):=by
  rw[Bool.eq_iff_iff,Cf,Cf];exact⟨λhh x hx=>by rw[<-h x hx];exact hh x hx,λhh x hx=>by rw[h x hx];exact hh x hx⟩
 rw[h1];cases hp:ND o.op with
 | false=>simp
 | true=>rw[hc hp]
theorem Xca:∀{xs:List V} {s:St} {ts:List TypeId} {ms:List Yw} {ys:List V} {s':St},(ms.any λm=>m != .rd)=false->s.Bt P ts ms xs=some (ys,s')->s'=s:=by
 intro xs
 induction xs with
 | nil=>
  intro s ts ms ys s' _ hs;simp only[St.Bt,AF,A7] at hs;exact hs.2.symm
 | cons x xs ih=>
  intro s ts ms ys s' hm hs;simp only[St.Bt] at hs;obtain⟨⟨y1,s1⟩,h1,hs⟩:=AA.1 hs;obtain⟨⟨y2,s2⟩,h2,hs⟩:=AM.1 hs;simp only[A7] at hs;obtain⟨rfl,rfl⟩:=hs;have E0:ms.headD .rd=.rd/\(ms.tail.any λm=>m != .rd)=false:=by
   cases ms with
   | nil=>exact⟨rfl,rfl⟩
   | cons m ms=>
    simp only[NC,P0] at hm;exact⟨by simpa using hm.1,hm.2⟩
  rw[E0.1] at h1;simp only[St.Dl,AF,A7] at h1;obtain⟨rfl,rfl⟩:=h1;exact ih E0.2 h2
theorem Xb8 {e:Nat}:∀{xs:List V} {s:St} {ms:List Yw} {k:Nat} {os:List V} {s':St},(ms.any λm=>m != .rd)=false->s.BF e ms k xs os=some s'->s'=s:=by
 intro xs
 induction xs with
 | nil=>
  intro s ms k os s' _ hs;simp only[St.BF,AF] at hs;exact hs.symm
 | cons x xs ih=>
  intro s ms k os s' hm hs;have E0:ms.headD .rd=.rd/\(ms.tail.any λm=>m != .rd)=false:=by
   cases ms with
   | nil=>exact⟨rfl,rfl⟩
   | cons m ms=>
    simp only[NC,P0] at hm;exact⟨by simpa using hm.1,hm.2⟩
  cases os with
  | nil=>simp[St.BF] at hs
  | cons o os=>
   simp only[St.BF] at hs;obtain⟨s1,h1,hs⟩:=AA.1 hs;rw[E0.1] at h1;simp only[St.back,AF] at h1;subst h1;exact ih E0.2 hs
theorem XN {id Ax:Id} {b:Be} (h:Ax≠id):(s.A6 id b).heap Ax=s.heap Ax:=by simp[St.A6,Bm,h]
theorem Ydl {id Ax:Id} {x y:V} (ht:s.AT id x=some (y,s')) (Yj:Ax≠id):s'.heap Ax=s.heap Ax:=by
 unfold St.AT at ht;split at ht
 .simp only[AF,A7] at ht;obtain⟨rfl,rfl⟩:=ht;exact XN Yj
 .simp only[AF,A7] at ht;obtain⟨rfl,rfl⟩:=ht;rfl
 .simp only[AF,A7] at ht;obtain⟨rfl,rfl⟩:=ht;rfl
 .cases ht
theorem Ycq {e:Nat} {Ax:Id}:∀{xs:List V} {s:St} {k:Nat} {ys:List V} {s':St},s.AN e k xs=some (ys,s')->¬(Ax.1=e/\k<=Ax.2/\Ax.2 < k+xs.length)->s'.heap Ax=s.heap Ax:=by
 intro xs
 induction xs with
 | nil=>intro s k ys s' hs _;simp only[St.AN,AF,A7] at hs;rw[hs.2]
 | cons x xs ih=>
  intro s k ys s' hs hn;simp only[AP] at hn;simp only[St.AN] at hs;obtain⟨⟨y1,s1⟩,h1,hs⟩:=AA.1 hs;obtain⟨⟨y2,s2⟩,h2,hs⟩:=AM.1 hs;simp only[A7] at hs;obtain⟨rfl,rfl⟩:=hs;rw[ih h2 (λh=>hn ⟨h.1,by omega,by omega⟩)];exact Ydl h1 (λe=>hn (by subst e;exact⟨rfl,B2 _,by simp⟩))
theorem Yi7 {e k:Nat} {Ax:Id} {x y:V} (ht:s.Bc e k x=some (y,s')) (hn:¬(Ax.1=e/\k<=Ax.2/\Ax.2 < k+64)):s'.heap Ax=s.heap Ax:=by
 unfold St.Bc at ht;split at ht
 .split at ht
  .obtain⟨⟨ys,s1⟩,h1,he⟩:=AM.1 ht
   simp only[A7] at he;obtain⟨rfl,rfl⟩:=he;exact Ycq h1 (λh=>hn ⟨h.1,h.2.1,by omega⟩)
  .cases ht
 .split at ht
  .obtain⟨⟨ys,s1⟩,h1,he⟩:=AM.1 ht
   simp only[A7] at he;obtain⟨rfl,rfl⟩:=he;rw[XN (λe=>hn (by subst e;exact⟨rfl,by simp,by simp⟩))];exact Ycq h1 (λh=>hn ⟨h.1,h.2.1,by omega⟩)
  .cases ht
 .exact Ydl ht (λe=>hn (by subst e;exact⟨rfl,B2 _,by simp⟩))
theorem Y06 {e:Nat} {Ax:Id}:∀{xs:List V} {s:St} {k:Nat} {ys:List V} {s':St},s.Bx e k xs=some (ys,s')->¬(Ax.1=e/\64*k<=Ax.2/\Ax.2 < 64*(k+xs.length))->s'.heap Ax=s.heap Ax:=by
 intro xs
 induction xs with
 | nil=>intro s k ys s' hs _;simp only[St.Bx,AF,A7] at hs;rw[hs.2]
 | cons x xs ih=>
  intro s k ys s' hs hn;simp only[AP] at hn;simp only[St.Bx] at hs;obtain⟨⟨y1,s1⟩,h1,hs⟩:=AA.1 hs;obtain⟨⟨y2,s2⟩,h2,hs⟩:=AM.1 hs;simp only[A7] at hs;obtain⟨rfl,rfl⟩:=hs;rw[ih h2 (λh=>hn ⟨h.1,by omega,by omega⟩)];exact Yi7 h1 (λh=>hn ⟨h.1,h.2.1,by omega⟩)
theorem Y2b {e k:Nat} {Ax:Id} {x y:V} (ht:s.BB e k x=some (y,s')) (hn:¬(Ax.1=e/\64*k<=Ax.2/\Ax.2 < 64*(k+8))):s'.heap Ax=s.heap Ax:=by
 unfold St.BB at ht;split at ht
 .split at ht
  .obtain⟨⟨ys,s1⟩,h1,he⟩:=AM.1 ht
   simp only[A7] at he;obtain⟨rfl,rfl⟩:=he;exact Y06 h1 (λh=>hn ⟨h.1,h.2.1,by omega⟩)
  .cases ht
 .exact Yi7 ht (λh=>hn ⟨h.1,h.2.1,by omega⟩)
theorem Y92 (he:Xn P M C f s k o=some (v,s')) (hw:I7 M f o=false) {id:Id} (hf:W8 s.ep k id=false):s'.heap id=s.heap id:=by
 have Zu:id≠(s.ep,1024*k):=λe=>by subst e;simp[W8] at hf
 have pu:∀{x:Option V},(x.map λy=>(y,s))=some (v,s')->s'.heap id=s.heap id:=by
  intro x hx;obtain⟨y,_,he⟩:=AM.1 hx;simp only[A7] at he;rw[<-he.2]
 have sm:∀{x:V},some (x,s)=some (v,s')->s'.heap id=s.heap id:=by
  intro x hx;simp only[AF,A7] at hx;rw[<-hx.2]
 unfold Xn at he;unfold I7 at hw;split at he
 .split at he
  .cases he
  .exact sm he
 .split at he
  .cases he
  .exact sm he
 .split at he
  .exact sm he
  .cases he
 .split at he
  .exact pu he
  .cases he
 .split at he
  .exact sm he
  .exact sm he
  .exact sm he
  .cases he
 .obtain⟨z,hz,he⟩:=AM.1 he
  simp only[A7] at he;obtain⟨rfl,rfl⟩:=he;exact XN Zu
 .obtain⟨cs,BQ,he⟩:=AA.1 he
  split at he
  .simp only[AF,A7] at he
   obtain⟨rfl,rfl⟩:=he;exact XN Zu
  .cases he
 .obtain⟨z,hz,he⟩:=AA.1 he
  split at he
  .split at he
   .cases he
   .obtain⟨cs,BQ,he⟩:=AM.1 he
    exact sm (congrArg some he)
  .cases he
 .rename_i ho;rw[ho] at hw;simp at hw
 .split at he
  .obtain⟨b,hb,he⟩:=AA.1 he
   obtain⟨row,Xj,he⟩:=AA.1 he;split at he
   .exact pu he
   .cases he
  .split at he
   .exact pu he
   .cases he
  .cases he
 .rename_i ho;rw[ho] at hw;simp at hw
 .obtain⟨off,XD,he⟩:=AA.1 he
  split at he
  .exact sm he
  .exact sm he
  .cases he
 .obtain⟨e,Q6,he⟩:=AA.1 he
  split at he
  .cases he
  .obtain⟨n,hn,he⟩:=AA.1 he
   split at he
   .split at he
    .obtain⟨b,hb,he⟩:=AA.1 he
     obtain⟨row,Xj,he⟩:=AA.1 he;split at he
     .exact sm he
     .cases he
    .cases he
   .obtain⟨row,Xj,he⟩:=AA.1 he
    split at he
    .exact sm he
    .cases he
   .obtain⟨row,Xj,he⟩:=AA.1 he
    split at he
    .exact sm he
    .cases he
   .cases he
 .split at he
  .exact pu he
  .exact pu he
  .exact pu he
  .exact pu he
 .obtain⟨e,Q6,he⟩:=AA.1 he
  obtain⟨z,hz,he⟩:=AA.1 he;obtain⟨n,hn,he⟩:=AA.1 he;obtain⟨m,hm,he⟩:=AA.1 he;split at he
  .simp only[AF,A7] at he
   obtain⟨rfl,rfl⟩:=he;exact XN Zu
  .cases he
 .split at he
  .exact sm he
  .cases he
 .split at he
  .exact pu he
  .split at he
   .split at he
    .obtain⟨rows,hr,he⟩:=AA.1 he
     obtain⟨bs,hb,he⟩:=AM.1 he;exact sm (congrArg some he)
    .cases he
   .cases he
   .cases he
 .rename_i c ho
  rw[ho] at hw;simp only at hw;split at he
  .rename_i hc;rw[hc] at hw;simp at hw
  .split at he
   .split at he
    .split at he
     .exact sm he
     .cases he
    .split at he
     .exact sm he
     .cases he
    .split at he
     .exact sm he
     .cases he
    .exact pu he
   .cases he
  .rename_i hc;rw[hc] at hw;simp at hw
  .exact pu he
  .rename_i x hc
   rw[hc] at hw;simp only at hw;split at he
   .rename_i g Bv jS
    rw[jS] at hw;simp only at hw;unfold KV at he;split at he
    .obtain⟨⟨ys,s1⟩,h1,he⟩:=AA.1 he
     obtain⟨xs,h2,he⟩:=AA.1 he;obtain⟨⟨r,os⟩,h3,he⟩:=AA.1 he;have e1:=Xca hw h1;subst e1;simp only at he;split at he
     .cases he
     .obtain⟨s2,h4,h5⟩:=AA.1 he
      have e2:=Xb8 hw h4;subst e2;refine Y2b h5 (λh=>?_);have:W8 s2.ep k id=true:=by
       simp only[W8,Bh,beq_iff_eq];exact⟨h.1,by omega⟩
      rw[this] at hf;cases hf
    .cases he
   .cases he
  .cases he
 .split at he
  .exact pu he
  .exact pu he
  .exact pu he
  .split at he
   .split at he
    .exact sm he
    .exact sm he
    .cases he
   .cases he
  .split at he
   .cases he
   .split at he
    .exact sm he
    .exact sm he
    .cases he
  .split at he
   .cases he
   .split at he
    .exact sm he
    .exact sm he
    .cases he
  .cases he
 .exact pu he
end
end Go.Proofs.YthdljdelfgofdaaGreatDoor.Ev
namespace Go.Proofs.YthdljdelfgofdaaGreatDoor.Ev
open Go
variable [Anchor]
section
variable {s s' t:St} {P:Program} {M:X9} {C:Kr} {k:Nat} {o:Oper} {v:V} {f f':Operand->V}
theorem Y2n (h:∀x∈o.op.operands.toList,f x=f' x):Qj P f o=Qj P f' o:=
 Ypt h λhp=>Yh9 hp λx hx=>by rw[h x hx]
theorem Yz5 (h:∀x∈o.op.operands.toList,f x=f' x):Xn P M C f s k o=Xn P M C f' s k o:=by
 have hs:=Y2n (P:=P) h;unfold Xn;simp only[hs];obtain⟨dst,op,type,pos,after,guard⟩:=o;cases op<;>simp only[Op.operands] at h<;>simp only<;>try rfl
 case move x=>rw[h x (by simp)]
 case assign x=>rw[h x (by simp)]
 case pick c x y=>rw[h c (by simp),h x (by simp),h y (by simp)]
 case box t x=>rw[h x (by simp)]
 case build t ps=>
  have:(ps.toList.map λp=>(p.1,f p.2))=ps.toList.map λp=>(p.1,f' p.2):=P1 λp hp=>by rw[h p.2 (by simpa using ⟨p.1,by simpa using hp⟩)]
  rw[this]
 case buildSlice t n ps=>
  have:(ps.toList.map λp=>(p.1,f p.2))=ps.toList.map λp=>(p.1,f' p.2):=P1 λp hp=>by rw[h p.2 (by simpa using ⟨p.1,by simpa using hp⟩)]
  rw[this]
 case load t x=>rw[h x (by simp)]
 case store t x y=>rw[h x (by simp),h y (by simp)]
 case nilCheck x=>rw[h x (by simp)]
 case binOp op t x y yt=>rw[h x (by simp),h y (by simp)]
 case convert src dst x=>rw[h x (by simp)]
 case fieldAddr t x i=>rw[h x (by simp)]
 case indexAddr t x i=>rw[h x (by simp),h i (by simp)]
 case slice t x lo hi mx=>
  have h1:=h x (by simp);have h2:lo.map f=lo.map f':=by cases lo<;>simp;exact h _ (by simp)
  have h3:hi.map f=hi.map f':=by cases hi<;>simp;exact h _ (by simp)
  cases mx with
  | none=>simp only[h1,h2,h3]
  | some m=>rfl
 case makeSlice t l c=>rw[h l (by simp),h c (by simp)]
 case makeFunc fn first Bv=>
  have:Bv.toList.map f=Bv.toList.map f':=P1 λx hx=>h x (by simp at hx ⊢;exact .inr hx);cases fn<;>simp only[this]
 case extract x i=>rw[h x (by simp)]
 case call c=>
  obtain⟨callee,IN,ts⟩:=c;cases callee with
  | value g=>
   simp only[Call.operands] at h;have h1:f g=f' g:=h g (by simp);have:IN.toList.map f=IN.toList.map f':=P1 λx hx=>h x (by simp at hx ⊢;exact .inr hx);simp only[h1,this]
  | invoke r m=>rfl
  | builtin b=>
   simp only[Call.operands] at h;have h1:∀x,x∈IN.toList->f x=f' x:=λx hx=>h x (by simpa using hx);cases b<;>simp only<;>try rfl
   case append=>
    split
    .rename_i heq _
     have hb:=h1 _ (by rw[heq];exact BI);have hx:=h1 _ (by rw[heq];exact Cg _ BI);rw[hb,hx]
    .rfl
   case len=>
    split
    .rename_i heq _
     have hb:=h1 _ (by rw[heq];exact BI);rw[hb]
    .rfl
   case clear=>
    split
    .rename_i heq _
     have hb:=h1 _ (by rw[heq];exact BI);rw[hb]
    .rfl
end
end Go.Proofs.YthdljdelfgofdaaGreatDoor.Ev
namespace Go.Proofs.YthdljdelfgofdaaGreatDoor.Ev
open Go Go.RowKit
variable [Anchor]
structure BH where
 dst:Option Tmp
 v:V
 W:Id->Bool
 hp:Id->Option Be
def BH.app (E:BH) (s:St):St:=St.put {s with heap:=λid=>if E.W id then E.hp id else s.heap id} E.dst E.v
theorem BH.ED (E:BH) (s:St):(E.app s).ep=s.ep:=by unfold BH.app;rw[GY]
theorem BH.BO (E:BH) (s:St):(E.app s).heap=λid=>if E.W id then E.hp id else s.heap id:=by unfold BH.app;rw[QJ]
theorem BH.Cb (E:BH) (s:St) (t:Nat):(E.app s).env t=if E.dst=some t then E.v else s.env t:=by
 unfold BH.app St.put;split
 .rename_i d hd
  simp only[Bm,hd,AF];by_cases h:t=d
  .subst h;simp
  .rw[Ai h,Ai (λe=>h e.symm)]
 .rename_i hd;rw[hd];simp
theorem St.ext' {a b:St} (h1:∀t,a.env t=b.env t) (h2:∀id,a.heap id=b.heap id) (h3:a.ep=b.ep):a=b:=by
 obtain⟨e1,p1,n1⟩:=a;obtain⟨e2,p2,n2⟩:=b;simp only at h1 h2 h3;rw[funext h1,funext h2,h3]
structure x9 (E G:BH):Prop where
 dst:∀t,E.dst=some t->G.dst≠some t
 W:∀id,E.W id=true->G.W id=false
theorem BH.comm {E G:BH} (h:x9 E G) (s:St):E.app (G.app s)=G.app (E.app s):=by
 refine St.ext' (λt=>?_) (λid=>?_) (by simp[BH.ED])
 .simp only[BH.Cb]
  by_cases h1:E.dst=some t
  .rw[Ah h1,Ai (h.dst t h1),Ah h1]
  .rw[Ai h1,Ai h1]
 .simp only[BH.BO]
  cases h1:E.W id with
  | true=>simp[h.W id h1]
  | false=>simp
def sub (Es:Nat->BH) (L:Nat->Bool) (s:St):Nat->St
 | 0=>s
 | k+1=>if L k then (Es k).app (sub Es L s k) else sub Es L s k
theorem G2 (Es:Nat->BH) (L:Nat->Bool) (s:St) (k:Nat):sub Es L s (k+1)=if L k then (Es k).app (sub Es L s k) else sub Es L s k:=rfl
theorem jT (Es:Nat->BH) (L:Nat->Bool) (s:St) (k:Nat):(sub Es L s k).ep=s.ep:=by
 induction k with
 | zero=>rfl
 | succ k ih=>rw[G2];split<;>simp[BH.ED,ih]
theorem Yry {Es:Nat->BH} {L L':Nat->Bool} {s:St}:∀{k:Nat},(∀j,j < k->L j=L' j)->sub Es L s k=sub Es L' s k:=by
 intro k
 induction k with
 | zero=>intro _;rfl
 | succ k ih=>intro h;rw[G2,G2,h k (by omega),ih λj hj=>h j (by omega)]
def Lj (A:Nat->Prop) (T:Id->Prop) (x y:St):Prop:=(∀t,A t->x.env t=y.env t)/\∀id,T id->x.heap id=y.heap id
theorem Lj.app {A:Nat->Prop} {T:Id->Prop} {x y:St} (h:Lj A T x y) (E:BH):Lj A T (E.app x) (E.app y):=
 ⟨λt ht=>by simp only[BH.Cb,h.1 t ht],λid Zu=>by simp only[BH.BO,h.2 id Zu]⟩
def TB (E:BH) (A:Nat->Prop) (T:Id->Prop):Prop:=(∀t,A t->E.dst≠some t)/\∀id,T id->E.W id=false
theorem Lj.off {A:Nat->Prop} {T:Id->Prop} {x y:St} (h:Lj A T x y) {E:BH} (ho:TB E A T):Lj A T (E.app x) y:=
 ⟨λt ht=>by rw[BH.Cb,Ai (ho.1 t ht)];exact h.1 t ht,λid Zu=>by simp only[BH.BO,ho.2 id Zu];exact h.2 id Zu⟩
theorem Lj.F6 {A:Nat->Prop} {T:Id->Prop} {x y:St} (h:Lj A T x y) {E:BH} (ho:TB E A T):Lj A T x (E.app y):=
 ⟨λt ht=>by rw[BH.Cb,Ai (ho.1 t ht)];exact h.1 t ht,λid Zu=>by simp only[BH.BO,ho.2 id Zu];exact h.2 id Zu⟩
theorem Y8p {Es:Nat->BH} {L:Nat->Bool} {s:St} {A:Nat->Prop} {T:Id->Prop} {i n:Nat} (hi:L i=false) (h1:∀j,j < i->L j=false->TB (Es j) A T) (h2:∀j,i < j->j < n->L j=true->TB (Es j) A T):
  ∀k,k<=n->Lj A T (sub Es L s k) (sub Es (λ_=>true) s (min k i)):=by
 intro k
 induction k with
 | zero=>intro _;rw[Nat.zero_min];exact⟨λ_ _=>rfl,λ_ _=>rfl⟩
 | succ k ih=>
  intro hk;have ih:=ih (by omega);by_cases Ya:k < i
  .rw[vW (by omega)] at ih ⊢
   have e2:sub Es (λ_=>true) s (k+1)=(Es k).app (sub Es (λ_=>true) s k):=by rw[G2];rfl
   rw[e2,G2];cases hL:L k with
   | true=>simp only[if_true];exact ih.app _
   | false=>simp only[Bp,if_false];exact ih.F6 (h1 k Ya hL)
  .rw[Nat.min_eq_right (by omega)] at ih ⊢
   rw[G2];cases hL:L k with
   | true=>
    simp only[if_true];have Yj:k≠i:=λe=>by subst e;rw[hi] at hL;cases hL
    exact ih.off (h2 k (by omega) (by omega) hL)
   | false=>simp only[Bp,if_false];exact ih
theorem Xed {Es:Nat->BH} {L:Nat->Bool} {s:St} {i n:Nat} (TC:i < n) (hi:L i=false) (hc:∀j,i < j->j < n->L j=true->x9 (Es i) (Es j)):
  (Es i).app (sub Es L s n)=sub Es (λj=>L j||j == i) s n:=by
 have key:∀k,i < k->k<=n->(Es i).app (sub Es L s k)=sub Es (λj=>L j||j == i) s k:=by
  intro k
  induction k with
  | zero=>intro h;omega
  | succ k ih=>
   intro h1 h2;by_cases he:k=i
   .subst he
    have e1:sub Es L s (k+1)=sub Es L s k:=by rw[G2,hi];rfl
    have e2:sub Es (λj=>L j||j == k) s (k+1)=(Es k).app (sub Es (λj=>L j||j == k) s k):=by rw[G2];simp
    rw[e1,e2]
    congr 1
    refine Yry λj hj=>?_;have:(j == k)=false:=by simpa using (show j≠k by omega)
    simp[this]
   .have ih:=ih (by omega) (by omega)
    have hki:(k == i)=false:=by simpa using he
    rw[G2,G2];simp only[hki,wA];cases hL:L k with
    | true=>
     simp only[if_true];rw[BH.comm (hc k (by omega) (by omega) hL),ih]
    | false=>simp only[Bp,if_false];exact ih
 exact key n TC (B2 _)
theorem Yl6 {Es Es':Nat->BH} {L:Nat->Bool} {s:St}:∀{k:Nat},(∀j,j < k->Es j=Es' j)->sub Es L s k=sub Es' L s k:=by
 intro k
 induction k with
 | zero=>intro _;rfl
 | succ k ih=>intro h;rw[G2,G2,h k (by omega),ih λj hj=>h j (by omega)]
section
variable {P:Program} {M:X9} {C:Nat->Kr} {ops:Array Oper}
structure Ha (P:Program) (M:X9) (C:Nat->Kr) (ops:Array Oper) (s0:St) (Es:Nat->BH) (Rs:Nat->Rec) (i:Nat) (o:Oper):Prop where
 pre:(Rs i).pre=KW ((List.range i).map Rs) o
 ok:Mh ops s0.ep ((List.range i).map Rs) (Rs i).pre i o (Rs i).T (Rs i).w=true
 dst:(Es i).dst=o.dst
 run:∃g,wanted (sub Es (λ_=>true) s0 i) ops o=some g/\
  (g=true->∃y,Xn P M (C i) (sub Es (λ_=>true) s0 i).AQ ((sub Es (λ_=>true) s0 i).only (Rs i).T) i o=some ((Es i).v,y)/\(∀id,(Es i).W id=(W8 s0.ep i id||((Rs i).w&&(Rs i).T.contains id)))/\(Es i).hp=y.heap/\(Rs i).w=I7 M (sub Es (λ_=>true) s0 i).AQ o)/\
  (g=false->(Es i).v=.AX []/\(∀id,(Es i).W id=false)/\(Rs i).T=[]/\(Rs i).w=false)
theorem Yx3 {s0:St}:∀(l:List Oper) {k:Nat} {s s':St} {recs:List Rec} {Es0:Nat->BH} {Rs0:Nat->Rec},recs=(List.range k).map Rs0->s=sub Es0 (λ_=>true) s0 k->Fy P M C ops s recs k l=some s'->
  ∃Es Rs,(∀j,j < k->Es j=Es0 j/\Rs j=Rs0 j)/\s'=sub Es (λ_=>true) s0 (k+l.length)/\∀(j:Nat) (o:Oper),l[j]?=some o->Ha P M C ops s0 Es Rs (k+j) o:=by
 intro l
 induction l with
 | nil=>
  intro k s s' recs Es0 Rs0 hr hs he;simp only[Fy,AF] at he;subst he;exact⟨Es0,Rs0,λ_ _=>⟨rfl,rfl⟩,by rw[hs];rfl,λj o ho=>by simp at ho⟩
 | cons o l ih=>
  intro k s s' recs Es0 Rs0 hr hs he;simp only[Fy] at he;obtain⟨g,hg,he⟩:=AA.1 he;have Yo:s.ep=s0.ep:=by rw[hs,jT]
  have more:∀(E:BH) (R:Rec),Fy P M C ops (E.app s) (recs++[R]) (k+1) l=some s'->R.pre=KW recs o->Mh ops s.ep recs R.pre k o R.T R.w=true->E.dst=o.dst->
    (g=true->∃y,Xn P M (C k) s.AQ (s.only R.T) k o=some (E.v,y)/\(∀id,E.W id=(W8 s0.ep k id||(R.w&&R.T.contains id)))/\E.hp=y.heap/\R.w=I7 M s.AQ o)->
    (g=false->E.v=.AX []/\(∀id,E.W id=false)/\R.T=[]/\R.w=false)->
    ∃Es Rs,(∀j,j < k->Es j=Es0 j/\Rs j=Rs0 j)/\s'=sub Es (λ_=>true) s0 (k+(o::l).length)/\∀(j:Nat) (o':Oper),(o::l)[j]?=some o'->Ha P M C ops s0 Es Rs (k+j) o':=by
   intro E R he HY Yl yA ht hf;have jU:∀j,j < k->Bm Es0 k E j=Es0 j:=λj hj=>by simp[Bm,show j≠k by omega]
   have Xdl:∀j,j < k->Bm Rs0 k R j=Rs0 j:=λj hj=>by simp[Bm,show j≠k by omega]
   obtain⟨Es,Rs,h1,h2,h3⟩:=ih (k:=k+1) (Es0:=Bm Es0 k E) (Rs0:=Bm Rs0 k R) (by
    rw[List.range_succ,Gt,hr]
    congr 1
    .refine P1 λj hj=>?_
     rw[Xdl j (V9.1 hj)]
    .simp[Bm]) (by
    rw[G2];simp only[if_true];rw[Yl6 (Es':=Es0) jU,<-hs];simp[Bm]) he
   have hE:∀j,j < k->Es j=Es0 j:=λj hj=>by rw[(h1 j (by omega)).1,jU j hj]
   have hR:∀j,j < k->Rs j=Rs0 j:=λj hj=>by rw[(h1 j (by omega)).2,Xdl j hj]
   have yB:Es k=E:=by rw[(h1 k (by omega)).1];simp[Bm]
   have jV:Rs k=R:=by rw[(h1 k (by omega)).2];simp[Bm]
   have DS:sub Es (λ_=>true) s0 k=s:=by rw[Yl6 hE,<-hs]
   have Xdm:(List.range k).map Rs=recs:=by rw[hr];exact P1 λj hj=>hR j (V9.1 hj)
   refine⟨Es,Rs,λj hj=>⟨hE j hj,hR j hj⟩,by rw[h2];congr 1;simp;omega,λj o' ho=>?_⟩;cases j with
   | zero=>
    have:o=o':=by simpa using ho
    subst this;refine⟨by rw[Fv,jV,Xdm];exact HY,by rw[Fv,jV,Xdm,<-Yo];exact Yl,by rw[Fv,yB];exact yA,⟨g,by rw[Fv,DS];exact hg,λyC=>?_,λWA=>?_⟩⟩
    .rw[Fv,DS,yB,jV];exact ht yC
    .rw[Fv,yB,jV];exact hf WA
   | succ j=>
    have:=h3 j o' (by simpa using ho);rw[show k+(j+1)=k+1+j by omega];exact this
  cases g with
  | true=>
   simp only[if_true] at he;split at he
   .rename_i Yl
    obtain⟨⟨v,y⟩,hy,he⟩:=AA.1 he;refine more ⟨o.dst,v,λid=>W8 s.ep k id||(I7 M s.AQ o&&(BZ s o).contains id),y.heap⟩ ⟨KW recs o,BZ s o,I7 M s.AQ o⟩ ?_ rfl Yl rfl (λ_=>⟨y,hy,λid=>by rw[<-Yo],rfl,rfl⟩) (λhf=>by cases hf);exact he
   .cases he
  | false=>
   simp only[Bp,if_false] at he;split at he
   .rename_i Yl
    refine more ⟨o.dst,.AX [],λ_=>false,λ_=>none⟩ ⟨KW recs o,[],false⟩ ?_ rfl Yl rfl (λhf=>by cases hf) (λ_=>⟨rfl,λ_=>rfl,rfl,rfl⟩);have:BH.app ⟨o.dst,.AX [],λ_=>false,λ_=>none⟩ s=s.put o.dst (.AX []):=by
     unfold BH.app;simp
    rw[this];exact he
   .cases he
variable {s0:St} {Es:Nat->BH} {Rs:Nat->Rec} {n:Nat}
structure QK (e:Nat) (Es:Nat->BH) (Rs:Nat->Rec) (ops:Array Oper) (j k:Nat) (oj ok:Oper):Prop where
 tmp:oj.apart ops ok=true
 f1:∀id∈(Rs k).T,W8 e j id=false
 f2:∀id∈(Rs j).T,W8 e k id=false
 ww:((Rs j).w||(Rs k).w)=true->∀id∈(Rs k).T,id ∉ (Rs j).T
theorem jW (hF:∀(i:Nat) (o:Oper),ops[i]?=some o->Ha P M C ops s0 Es Rs i o) {j k:Nat} {oj ok:Oper} (hj:ops[j]?=some oj) (hk:ops[k]?=some ok) (Ya:j < k) (hn:j ∉ (Rs k).pre):QK s0.ep Es Rs ops j k oj ok:=by
 have h:=(hF k ok hk).ok;unfold Mh at h;simp only[Bh] at h;have h2:=Cf.1 h.2 (Rs j,j) (by
  rw[List.mem_zipIdx_iff_getElem?];simp[vM Ya])
 simp only[NB,Bh,List.contains_iff_mem,hn,false_or,hj] at h2;obtain⟨⟨⟨a,b⟩,c⟩,d⟩:=h2;refine⟨a,λid Zu=>?_,λid Zu=>?_,λhw id Zu yD=>?_⟩
 .have:=Cf.1 b id Zu;simpa using this
 .have:=Cf.1 c id Zu;simpa using this
 .rcases d with d|d
  .rw[hw] at d;simp at d
  .have:=Cf.1 d id Zu
   simp at this;exact this yD
theorem TD {i:Nat} {o:Oper} (hF:Ha P M C ops s0 Es Rs i o) {id:Id} (hW:(Es i).W id=true):W8 s0.ep i id=true\/((Rs i).w=true/\id∈(Rs i).T):=by
 obtain⟨g,_,ht,hf⟩:=hF.run;cases g with
 | true=>
  obtain⟨y,_,h2,_⟩:=ht rfl;rw[h2 id] at hW;simpa using hW
 | false=>
  rw[(hf rfl).2.1 id] at hW;cases hW
theorem QK.apart {j k:Nat} {oj ok:Oper} (h:QK s0.ep Es Rs ops j k oj ok) (hj:Ha P M C ops s0 Es Rs j oj) (hk:Ha P M C ops s0 Es Rs k ok) (Yj:j≠k):x9 (Es j) (Es k):=by
 obtain⟨t1,t2,t3⟩:=Oper.apart_spec h.tmp;refine⟨λt ht=>by rw[hk.dst];rw[hj.dst] at ht;exact t2 t ht,λid Zu=>?_⟩;cases hW:(Es k).W id with
 | false=>rfl
 | true=>
  exfalso;rcases TD hj Zu with h1|⟨h1,Lk⟩
  .rcases TD hk hW with h2|⟨h2,PK⟩
   .simp only[W8,Bh,beq_iff_eq] at h1 h2
    omega
   .rw[h.f1 id PK] at h1;cases h1
  .rcases TD hk hW with h2|⟨h2,PK⟩
   .rw[h.f2 id Lk] at h2;cases h2
   .exact h.ww (by rw[h1];rfl) id PK Lk
def QL (ops:Array Oper) (o:Oper):Nat->Prop:=λt=>t∈o.looksAt ops
def yE (Rs:Nat->Rec) (i:Nat):Id->Prop:=λid=>id∈(Rs i).T
theorem QK.yF {j k:Nat} {oj ok:Oper} (h:QK s0.ep Es Rs ops j k oj ok) (hj:Ha P M C ops s0 Es Rs j oj):TB (Es j) (QL ops ok) (yE Rs k):=by
 obtain⟨t1,t2,t3⟩:=Oper.apart_spec h.tmp;refine⟨λt ht hd=>by rw[hj.dst] at hd;exact t1 t hd ht,λid Zu=>?_⟩;cases hW:(Es j).W id with
 | false=>rfl
 | true=>
  exfalso;rcases TD hj hW with h1|⟨h1,Lk⟩
  .rw[h.f1 id Zu] at h1;cases h1
  .exact h.ww (by rw[h1];rfl) id Zu Lk
theorem QK.yG {j k:Nat} {oj ok:Oper} (h:QK s0.ep Es Rs ops j k oj ok) (hk:Ha P M C ops s0 Es Rs k ok):TB (Es k) (QL ops oj) (yE Rs j):=by
 obtain⟨t1,t2,t3⟩:=Oper.apart_spec h.tmp;refine⟨λt ht hd=>by rw[hk.dst] at hd;exact t3 t hd ht,λid Zu=>?_⟩;cases hW:(Es k).W id with
 | false=>rfl
 | true=>
  exfalso;rcases TD hk hW with h1|⟨h1,Lk⟩
  .rw[h.f2 id Zu] at h1;cases h1
  .exact h.ww (by rw[h1];simp) id Lk Zu
end
section
variable {P:Program} {M:X9} {C:Nat->Kr} {ops:Array Oper} {s0:St} {Es:Nat->BH} {Rs:Nat->Rec} {n:Nat}
theorem yH (hF:∀(i:Nat) (o:Oper),ops[i]?=some o->Ha P M C ops s0 Es Rs i o) {m:Nat} {o:Oper} (ho:ops[m]?=some o):∀e∈o.after,Region.binds .any e=true->e.on < m:=λe he hb=>by
 have h:=(hF m o ho).ok;unfold Mh at h;simp only[Bh] at h;have:=Cf.1 h.1.1 e (by simpa using he);rw[hb] at this;simpa using this
theorem Y51 (hF:∀(i:Nat) (o:Oper),ops[i]?=some o->Ha P M C ops s0 Es Rs i o) {L:Nat->Bool} (hL:∀(m:Nat) (o:Oper),L m=true->ops[m]?=some o->∀e∈o.after,Region.binds .any e=true->L e.on=true):
  ∀(m:Nat) (o:Oper),ops[m]?=some o->(∀e∈o.after,Region.binds .any e=true->L e.on=true)->∀j∈(Rs m).pre,L j=true:=by
 intro m
 induction m using Nat.strongRecOn with
 | _ m ih=>
  intro o ho hp j hj;rw[(hF m o ho).pre] at hj;unfold KW at hj;rw[List.mem_eraseDups] at hj;obtain⟨e,he,hj⟩:=List.mem_flatMap.1 hj;rw[P5] at he;have hem:e∈o.after:=by simpa using he.1
  have Ya:=yH hF ho e hem he.2;have hLe:=hp e hem he.2;rcases BX.1 hj with rfl|hj
  .exact hLe
  .have hm:m < ops.size:=(HM.1 ho).1
   have h1:((List.range m).map Rs)[e.on]?=some (Rs e.on):=by simp[vM Ya]
   rw[h1] at hj;simp only[DI,Gr] at hj;have BS:ops[e.on]?=some (ops[e.on]'(by omega)):=Var (by omega);exact ih e.on Ya _ BS (hL e.on _ hLe BS) j hj
theorem Xbp (hF:∀(i:Nat) (o:Oper),ops[i]?=some o->Ha P M C ops s0 Es Rs i o) {L:Nat->Bool} {i:Nat} (Mx:L i=false) (h0:∀id:Id,id.1=s0.ep->s0.heap id=none)
  (hu:∀j,i < j->j < ops.size->L j=true->i ∉ (Rs j).pre) {oi:Oper} (hi:ops[i]?=some oi) {id:Id} (hf:W8 s0.ep i id=true):∀k,k<=ops.size->(sub Es L s0 k).heap id=none:=by
 have jS:id.1=s0.ep/\id.2 / 1024=i:=by simpa [W8] using hf
 intro k
 induction k with
 | zero=>intro _;exact h0 id jS.1
 | succ k ih=>
  intro hk;rw[G2];cases hL:L k with
  | false=>simp only[Bp,if_false];exact ih (by omega)
  | true=>
   simp only[if_true,BH.BO];have XO:ops[k]?=some (ops[k]'(by omega)):=Var (by omega);have hki:k≠i:=λe=>by subst e;rw[Mx] at hL;cases hL
   have hW:(Es k).W id=false:=by
    cases hW:(Es k).W id with
    | false=>rfl
    | true=>
     exfalso;rcases TD (hF k _ XO) hW with h1|⟨h1,h2⟩
     .have:id.1=s0.ep/\id.2 / 1024=k:=by simpa [W8] using h1
      omega
     .rcases Mc i k with Ya|NV
      .have:=(jW hF hi XO Ya (hu k Ya (by omega) hL)).f1 id h2
       rw[hf] at this;cases this
      .have h:=(hF k _ XO).ok
       unfold Mh at h;simp only[Bh] at h;have:=Cf.1 h.1.2 id h2;simp only[NA,Bool.and_eq_false_iff,beq_eq_false_iff_ne,decide_eq_false_iff_not] at this;rcases this with h3|h3
       .exact h3 jS.1
       .omega
   rw[hW];simp only[Bp,if_false];exact ih (by omega)
theorem Yya {x y:St} {o:Oper} (h:∀t,QL ops o t->x.env t=y.env t):wanted x ops o=wanted y ops o:=by
 unfold wanted;cases hg:o.guard with
 | none=>rfl
 | some jb=>
  obtain⟨j,b⟩:=jb;simp only;cases ht:(ops[j]?).bind (·.dst) with
  | none=>rfl
  | some t=>
   have:x.env t=y.env t:=h t (by
    unfold QL Oper.looksAt;rw[hg];simp[ht])
   simp only[DI,this]
theorem Y8a {x y:St} {o:Oper} (h:∀t,QL ops o t->x.env t=y.env t):∀z∈o.op.operands.toList,x.AQ z=y.AQ z:=by
 intro z hz;cases z with
 | tmp t=>
  exact h t (by
   unfold QL Oper.looksAt;refine CH _ (List.mem_filterMap.2 ⟨.tmp t,hz,rfl⟩))
 | _=>rfl
theorem Xb5 (hF:∀(i:Nat) (o:Oper),ops[i]?=some o->Ha P M C ops s0 Es Rs i o) {L:Nat->Bool} {i:Nat} {o:Oper} (hi:ops[i]?=some o) (Mx:L i=false) (h0:∀id:Id,id.1=s0.ep->s0.heap id=none)
  (hL:∀(m:Nat) (o:Oper),L m=true->ops[m]?=some o->∀e∈o.after,Region.binds .any e=true->L e.on=true) (hr:∀e∈o.after,Region.binds .any e=true->L e.on=true):
  ∃g,wanted (sub Es L s0 ops.size) ops o=some g/\
   (g=true->∃x1,I6 P M (C i) (sub Es L s0 ops.size) i o=some ((Es i).v,x1)/\x1.put o.dst (Es i).v=sub Es (λj=>L j||j == i) s0 ops.size)/\
   (g=false->(sub Es L s0 ops.size).put o.dst (.AX [])=sub Es (λj=>L j||j == i) s0 ops.size):=by
 have TC:i < ops.size:=(HM.1 hi).1;have jX:=hF i o hi;have HY:=Y51 hF hL;have jU:∀j,j < i->L j=false->j ∉ (Rs i).pre:=λj hj Ll hm=>by
  rw[HY i o hi hr j hm] at Ll;cases Ll
 have yI:∀j,i < j->j < ops.size->L j=true->i ∉ (Rs j).pre:=λj hj G3 Ll hm=>by
  have G4:ops[j]?=some (ops[j]'G3):=Var G3;have:=HY j _ G4 (hL j _ Ll G4) i hm;rw[Mx] at this;cases this
 have jY:=Y8p (Es:=Es) (s:=s0) (A:=QL ops o) (T:=yE Rs i) (i:=i) (n:=ops.size) Mx
  (λj hj Ll=>by
   have G4:ops[j]?=some (ops[j]'(by omega)):=Var (by omega);exact (jW hF G4 hi hj (jU j hj Ll)).yF (hF j _ G4))
  (λj hj G3 Ll=>by
   have G4:ops[j]?=some (ops[j]'G3):=Var G3;exact (jW hF hi G4 hj (yI j hj G3 Ll)).yG (hF j _ G4))
  ops.size (B2 _)
 rw[Nat.min_eq_right (by omega)] at jY;have HW:=Xed (Es:=Es) (s:=s0) TC Mx (λj hj G3 Ll=>by
   have G4:ops[j]?=some (ops[j]'G3):=Var G3;exact (jW hF hi G4 hj (yI j hj G3 Ll)).apart jX (hF j _ G4) (by omega))
 obtain⟨g,hg,ht,hf⟩:=jX.run;refine⟨g,by rw[Yya (λt h=>jY.1 t h)];exact hg,λyC=>?_,λWA=>?_⟩
 .obtain⟨y,hy,hW,hhp,hw⟩:=ht yC
  have Yo:(sub Es L s0 ops.size).ep=s0.ep:=jT _ _ _ _;have yJ:(sub Es (λ_=>true) s0 i).ep=s0.ep:=jT _ _ _ _;have XP:Ext (λid=>(Rs i).T.contains id=false/\W8 s0.ep i id=false) ((sub Es (λ_=>true) s0 i).only (Rs i).T) (sub Es L s0 ops.size):=by
   refine⟨by rw[Yo];exact yJ.symm,λid Zu=>?_,λid Zu=>?_⟩
   .simp only[St.only]
    cases hc:(Rs i).T.contains id with
    | true=>simp only[if_true];exact jY.2 id (show id∈(Rs i).T by simpa using hc)
    | false=>
     simp only[Bp,if_false];have yK:W8 s0.ep i id=true:=by
      cases yK:W8 s0.ep i id with
      | true=>rfl
      | false=>exact absurd ⟨hc,yK⟩ Zu
     exact Xbp hF Mx h0 yI hi yK ops.size (B2 _)
   .simp only[St.only,Zu.1,Bp,if_false]
  obtain⟨x1,h1,h2,h3,h4,h5⟩:=XP.op (P:=P) (M:=M) (C:=C i) (k:=i) (λid Zu hh=>by
   have:W8 s0.ep i id=true:=by simp only[W8,Bh,beq_iff_eq];exact⟨by rw[hh.1];exact yJ,hh.2⟩
   rw[Zu.2] at this;cases this) hy
  refine⟨x1,?_,?_⟩
  .unfold I6
   rw[Yz5 (Y8a (ops:=ops) (λt h=>jY.1 t h))];exact h1
  .rw[<-HW]
   refine St.ext' (λt=>?_) (λid=>?_) ?_
   .have e1:∀(z:St),(z.put o.dst (Es i).v).env t=if o.dst=some t then (Es i).v else z.env t:=λz=>by
     have:=BH.Cb ⟨o.dst,(Es i).v,λ_=>false,λ_=>none⟩ z t;simpa [BH.app] using this
    rw[e1,BH.Cb,jX.dst,h4]
   .rw[QJ,BH.BO]
    simp only[hW id];have hyr:(Rs i).w=false->W8 s0.ep i id=false->y.heap id=((sub Es (λ_=>true) s0 i).only (Rs i).T).heap id:=λhwf Oe=>by
     refine Y92 hy (by rw[<-hw];exact hwf) ?_;have:((sub Es (λ_=>true) s0 i).only (Rs i).T).ep=s0.ep:=yJ;rw[this];exact Oe
    cases Oe:W8 s0.ep i id with
    | true=>
     simp only[Bool.true_or,if_true];rw[hhp,h2.out id (λhd=>by rw[hd.2] at Oe;cases Oe)]
    | false=>
     cases hc:(Rs i).T.contains id with
     | false=>
      simp only[VA,Bool.or_self,Bp,if_false];exact h3 id ⟨hc,Oe⟩
     | true=>
      have Dc:¬((Rs i).T.contains id=false/\W8 s0.ep i id=false):=λhd=>by rw[hd.1] at hc;cases hc
      rw[h2.out id Dc];cases hwi:(Rs i).w with
      | true=>simp[hhp]
      | false=>
       simp only[Iz,Bool.or_self,Bp,if_false];rw[hyr hwi Oe,<-XP.out id Dc]
   .rw[GY,BH.ED,h5]
 .obtain⟨hv,hWf,_,_⟩:=hf WA
  rw[<-HW];refine St.ext' (λt=>?_) (λid=>?_) ?_
  .have e1:∀(z:St),(z.put o.dst (.AX [])).env t=if o.dst=some t then (.AX []) else z.env t:=λz=>by
    have:=BH.Cb ⟨o.dst,.AX [],λ_=>false,λ_=>none⟩ z t;simpa [BH.app] using this
   rw[e1,BH.Cb,jX.dst,hv]
  .rw[QJ,BH.BO]
   simp[hWf id]
  .rw[GY,BH.ED]
theorem Yz8 {listed:Array Bool} {i n:Nat} (hi:i < n) (hl:listed.getD i true=false):
  ((List.range n).filter λj=>!(listed.setIfInBounds i true).getD j true).length < ((List.range n).filter λj=>!listed.getD j true).length:=by
 have W3:i < listed.size:=by
  rcases Mc i listed.size with h|h
  .exact h
  .simp[vJ h] at hl
 have XQ:∀j,(listed.setIfInBounds i true).getD j true=(listed.getD j true||j == i):=λj=>by
  by_cases h:i=j
  .subst h;simp[W3]
  .have yL:(j == i)=false:=by simpa using (λe=>h e.symm)
   rw[getD_set_ne true h,yL,wA]
 have DS:((List.range n).filter λj=>!(listed.setIfInBounds i true).getD j true)=((List.range n).filter λj=>!listed.getD j true).filter λj=>!(j == i):=by
  rw[List.filter_filter]
  congr 1
  funext j
  rw[XQ];cases listed.getD j true<;>cases (j == i)<;>rfl
 rw[DS];have hle:=Pz (λj=>!(j == i)) ((List.range n).filter λj=>!listed.getD j true);rcases Mc (((List.range n).filter λj=>!listed.getD j true).filter λj=>!(j == i)).length ((List.range n).filter λj=>!listed.getD j true).length with h|h
 .exact h
 .have he:=(List.filter_sublist (p:=λj=>!(j == i)) (l:=(List.range n).filter λj=>!listed.getD j true)).eq_of_length (by omega)
  have hm:i∈(List.range n).filter λj=>!listed.getD j true:=P5.2 ⟨V9.2 hi,by rw[hl];rfl⟩;rw[<-he,P5] at hm;simp at hm
variable {B:Nat} {io:Nat->Prop} {fl:List Nat}
theorem Y69 {Q:Exit->Act->World->Prop} (hC:∀k,HX P M (C k)) (hF:∀(i:Nat) (o:Oper),ops[i]?=some o->Ha P M C ops s0 Es Rs i o) (h0:∀id:Id,id.1=s0.ep->s0.heap id=none):
  ∀(fuel:Nat) (listed:Array Bool) {a:Act} {w:World} {U:AZ} {F:Id->List Nat},listed.size=ops.size->((List.range ops.size).filter λj=>!listed.getD j true).length<=fuel->
   (∀(m:Nat) (o:Oper),listed.getD m false=true->ops[m]?=some o->∀e∈o.after,Region.binds .any e=true->listed.getD e.on false=true)->
   Rel P B io w a.tmps (sub Es (λj=>listed.getD j false) s0 ops.size) U F fl->(∀id:Id,id.1=s0.ep->(U id).isSome=true->listed.getD (id.2 / 1024) false=true)->Mw a.tmps.size ops.toList=true->
   (∀a' w',GX P B io fl w a U (sub Es (λ_=>true) s0 ops.size) a' w'->Q .normal a' w')->wpAny P .any ops Q fuel listed a w:=by
 have same:∀(listed:Array Bool) (j:Nat),listed.size=ops.size->j < ops.size->listed.getD j false=listed.getD j true:=λlisted j hs hj=>by
  simp[show j < listed.size by omega]
 have done:∀(listed:Array Bool) {a:Act} {w:World} {U:AZ} {F:Id->List Nat},listed.size=ops.size->(∀(m:Nat) (o:Oper),listed.getD m false=true->ops[m]?=some o->∀e∈o.after,Region.binds .any e=true->listed.getD e.on false=true)->Region.ready .any ops listed=[]->
   Rel P B io w a.tmps (sub Es (λj=>listed.getD j false) s0 ops.size) U F fl->(∀a' w',GX P B io fl w a U (sub Es (λ_=>true) s0 ops.size) a' w'->Q .normal a' w')->Q .normal a w:=by
  intro listed a w U F hs Qf hr h hQ;have Je:∀j,j < ops.size->listed.getD j false=true:=by
   intro j
   induction j using Nat.strongRecOn with
   | _ j ih=>
    intro hj;have G4:ops[j]?=some (ops[j]'hj):=Var hj;cases hl:listed.getD j false with
    | true=>rfl
    | false=>
     exfalso;have:j∈Region.ready .any ops listed:=mem_ready.2 ⟨by rw[<-same listed j hs hj];exact hl,_,G4,λe he hb=>ih e.on (yH hF G4 e he hb) (by have:=yH hF G4 e he hb;omega)⟩;rw[hr] at this;cases this
  have:sub Es (λj=>listed.getD j false) s0 ops.size=sub Es (λ_=>true) s0 ops.size:=Yry λj hj=>Je j hj;rw[this] at h;exact hQ _ _ (.refl h)
 intro fuel
 induction fuel with
 | zero=>
  intro listed a w U F hs hf Qf h hU hd hQ;have hr:Region.ready .any ops listed=[]:=by
   have IL:=GK (Nat.le_zero.1 hf);unfold Region.ready;rw[List.filter_eq_nil_iff];intro i hi hh;simp only[Bh] at hh;have hm:i∈(List.range ops.size).filter λj=>!listed.getD j true:=P5.2 ⟨hi,hh.1⟩;rw[IL] at hm;cases hm
  exact⟨hr,done listed hs Qf hr h hQ⟩
 | succ fuel ih=>
  intro listed a w U F hs hf Qf h hU hd hQ;refine⟨λhr=>done listed hs Qf hr h hQ,λi hi=>?_⟩;obtain⟨Ca,o,ho,Xaq⟩:=mem_ready.1 hi;have TC:i < ops.size:=(HM.1 ho).1;have Mx:listed.getD i false=false:=by rw[same listed i hs TC];exact Ca
  obtain⟨g,hg,ht,Oe⟩:=Xb5 hF (L:=λj=>listed.getD j false) ho Mx h0 Qf Xaq;have XQ:∀j,(listed.setIfInBounds i true).getD j false=(listed.getD j false||j == i):=λj=>by
   by_cases e:i=j
   .subst e;simp[show i < listed.size by omega]
   .have yL:(j == i)=false:=by simpa using (λh=>e h.symm)
    rw[getD_set_ne false e,yL,wA]
  have Xa:∀id:Id,id.1=(sub Es (λj=>listed.getD j false) s0 ops.size).ep->id.2 / 1024=i->U id=none:=λid h1 h2=>by
   cases hr:U id with
   | none=>rfl
   | some x=>
    have:=hU id (by rw[h1,jT]) (by rw[hr];rfl);rw[h2,Mx] at this;cases this
  have DL:∀d,o.dst=some d->d < a.tmps.size:=jR hd (by simpa using ho);have next:∀{s2:St} {a':Act} {w':World} {U':AZ} {F':Id->List Nat},Rel P B io w' a'.tmps s2 U' F' fl->s2=sub Es (λj=>listed.getD j false||j == i) s0 ops.size->C3 B io w w'->(∀id i,U id=some i->U' id=some i)->
    (∀id,(U' id).isSome=true->(U id).isSome=true\/(id.1=(sub Es (λj=>listed.getD j false) s0 ops.size).ep/\id.2 / 1024=i))->a'.tmps.size=a.tmps.size->a'.defers=a.defers->wpAny P .any ops Q fuel (listed.setIfInBounds i true) a' w':=by
   intro s2 a' w' U' F' hR Dv IV Dt F4 GZ Eh;subst Dv;refine ih (listed.setIfInBounds i true) (by simpa using hs) (by have:=Yz8 TC Ca;omega) (λm o' hm XR e he hb=>?_) (by
    have:(λj=>(listed.setIfInBounds i true).getD j false)=λj=>listed.getD j false||j == i:=funext XQ;rw[this];exact hR) (λid h1 h2=>?_) (by rw[GZ];exact hd) (λa2 w2 hA=>hQ _ _ (.trans IV Dt GZ Eh hA))
   .rw[XQ] at hm ⊢
    simp only[NB,beq_iff_eq] at hm ⊢;rcases hm with hm|rfl
    .exact .inl (Qf m o' hm XR e he hb)
    .rw[ho] at XR;injection XR with XR;subst XR
     exact .inl (Xaq e he hb)
   .rw[XQ]
    simp only[NB,beq_iff_eq];rcases F4 id h2 with h3|h3
    .exact .inl (hU id h1 h3)
    .exact .inr h3.2
  cases g with
  | true=>
   obtain⟨x1,hx1,D9⟩:=ht rfl;refine XL (M:=M) (C:=C i) (v:=(Es i).v) (s1:=x1) h ho DL hg (λ_=>Xa) (λ_=>hx1) (λ_=>hC i _ _ _ _ _ _ F _ _ _ _ h Xa) (λa' w' U' F' hR Yo IV Dt F4 GZ Eh=>?_);simp only[if_true] at hR;exact next hR D9 IV Dt F4 GZ Eh
  | false=>
   refine XL (M:=M) (C:=C i) (v:=.undef) (s1:=s0) h ho DL hg (λhf=>by cases hf) (λhf=>by cases hf) (λhf=>by cases hf) (λa' w' U' F' hR Yo IV Dt F4 GZ Eh=>?_);simp only[Bp,if_false] at hR;exact next hR (Oe rfl) IV Dt F4 GZ Eh
theorem Y82 {Q:Exit->Act->World->Prop} (hC:∀k,HX P M (C k)) {s':St} {a:Act} {w:World} {U:AZ} {F:Id->List Nat} (h:Rel P B io w a.tmps s0 U F fl) (he:Fy P M C ops s0 [] 0 ops.toList=some s')
  (Xa:∀id:Id,id.1=s0.ep->U id=none) (hd:Mw a.tmps.size ops.toList=true) (hQ:∀a' w',GX P B io fl w a U s' a' w'->Q .normal a' w'):
  wpAny P .any ops Q ops.size (Array.replicate ops.size false) a w:=by
 obtain⟨Es,Rs,_,h2,h3⟩:=Yx3 (s0:=s0) ops.toList (k:=0) (Es0:=λ_=>⟨none,.undef,λ_=>false,λ_=>none⟩) (Rs0:=λ_=>⟨[],[],false⟩) rfl rfl he;rw[P6,Array.length_toList] at h2;subst h2;have hF:∀(i:Nat) (o:Oper),ops[i]?=some o->Ha P M C ops s0 Es Rs i o:=λi o ho=>by
  have:=h3 i o (by simpa using ho)
  rwa [P6] at this
 have XS:∀j,(Array.replicate ops.size false).getD j false=false:=λj=>by
  by_cases h:j < ops.size<;>simp[h]
 have hh0:∀id:Id,id.1=s0.ep->s0.heap id=none:=λid h1=>by
  cases hb:s0.heap id with
  | none=>rfl
  | some b=>
   exfalso;have hB:=h.heap id b hb;rw[Xa id h1] at hB;unfold Xw at hB;split at hB
   .obtain⟨_,_,_,_,_,hi,_⟩:=hB;cases hi
   .rcases hB with⟨hi,_⟩|⟨_,_,_,_,hi,_⟩<;>cases hi
   .obtain⟨_,hB⟩:=hB
    rcases hB with⟨hi,_⟩|⟨_,_,_,_,hi,_⟩<;>cases hi
 refine Y69 (F:=F) hC hF hh0 ops.size _ (by simp) (by
  have:=Pz (λj=>!(Array.replicate ops.size false).getD j true) (List.range ops.size);simpa using this) (λm o hm=>by rw[XS] at hm;cases hm) ?_ (λid h1 h2=>by rw[Xa id h1] at h2;cases h2) hd hQ
 have:sub Es (λj=>(Array.replicate ops.size false).getD j false) s0 ops.size=s0:=by
  have key:∀k,sub Es (λj=>(Array.replicate ops.size false).getD j false) s0 k=s0:=by
   intro k
   induction k with
   | zero=>rfl
   | succ k ih=>rw[G2,XS,Ai (by simp)];exact ih
  exact key _
 rw[this];exact h
end
def Fc (n:Nat):Code->Bool
 | .region _ ops _=>Mw n ops.toList
 | .seq a b=>Fc n a&&Fc n b
 | .cond _ a b=>Fc n a&&Fc n b
 | .block _ c=>Fc n c
 | .loop c=>Fc n c
 | _=>true
def Ex.to:Ex->Exit
 | .normal=>.normal
 | .ret=>.ret
 | .exit n=>.exit n
open Classical in
section
variable {P:Program} {B:Nat} {io:Nat->Prop} {w w':World} {a a':Act} {s s':St} {U U':AZ} {F F':Id->List Nat} {fl:List Nat} {M:X9} {C:Kr}
theorem Rel.tick (h:Rel P B io w a.tmps s U F fl):Rel P B io w a.tmps {s with ep:=s.ep+1} U F fl:=
 {h with CB:=λid Zu=>by have:=h.CB id Zu;simp only;omega}
theorem Rel.drawn (h:Rel P B io w a.tmps s U F fl) (n:Nat):Rel P B io {w with drawn:=n} a.tmps s U F fl:=by
 have hg:J0 P B io {w with drawn:=n} a.tmps s U F fl (AI s U w):=
  {h with
   env:=λt v hv=>(h.env t v hv).world λ_ _=>rfl
   heap:=λid b hb=>(h.heap id b hb).world (λ_ _=>rfl) (λ_ _=>rfl)
   Cv:=h.Cv.step (B2 _) (λ_ _ _=>rfl)}
 exact hg.IQ λg hg=>hg
end
structure Q4 (D:Id->Prop) (s t:St):Prop where
 ext:Ext D s t
 env:t.env=s.env
 ph:∀id b,D id->t.heap id=some b->b.rows=[]
def Fe (D:Id->Prop) (t s' t':St):Prop:=Q4 D s' t'/\∀id,D id->t'.heap id=t.heap id
section
variable {D:Id->Prop} {s t s':St} {P:Program} {M:X9} {C:Kr} {k:Nat} {o:Oper} {v:V} {ops:Array Oper}
theorem Q4.three (h:Q4 D s t):Fe D t s t:=⟨h,λ_ _=>rfl⟩
theorem Fe.trans {t1 s1 s2 t2:St} (h:Fe D t s1 t1) (k:Fe D t1 s2 t2):Fe D t s2 t2:=⟨k.1,λid hd=>(k.2 id hd).trans (h.2 id hd)⟩
theorem Q4.yM {s1 t1:St} (h:Q4 D s t) (e:Kv D t s1 t1) (CW:s1.env=s.env):Fe D t s1 t1:=
 ⟨⟨e.1,by rw[e.2.2.1,h.env,CW],λid b hd hb=>h.ph id b hd (by rw[<-e.2.1 id hd];exact hb)⟩,e.2.1⟩
theorem Q4.put (h:Q4 D s t) (d:Option Tmp) (v:V):Fe D t (s.put d v) (t.put d v):=by
 cases d with
 | none=>exact h.three
 | some d=>exact⟨⟨⟨h.ext.ep,h.ext.out,h.ext.abs⟩,by simp only[St.put,h.env],h.ph⟩,λ_ _=>rfl⟩
theorem Q4.AQ (h:Q4 D s t):t.AQ=s.AQ:=by
 funext x;cases x<;>simp only[St.AQ,h.env]
theorem Q4.wanted (h:Q4 D s t):Ev.wanted t ops o=Ev.wanted s ops o:=by
 unfold Ev.wanted;rw[h.env]
theorem Ysv {f:Operand->V} (he:Xn P M C f s k o=some (v,s')):s'.env=s.env/\s'.ep=s.ep:=by
 have h:Ext (λ_=>False) s ⟨s.env,s.heap,s.ep⟩:=⟨rfl,λ_ _=>rfl,λ_ h=>h.elim⟩;obtain⟨t',h1,h2⟩:=h.op (λ_ h=>h.elim) he;have h3:(some (v,t'):Option (V×St))=some (v,s'):=by rw[<-h1,<-he]
 simp only[AF,A7,true_and] at h3;subst h3;exact⟨h2.2.2.1,h2.2.2.2⟩
theorem Q4.op (h:Q4 D s t) (hd:∀id:Id,D id->¬(id.1=s.ep/\id.2 / 1024=k)) (he:I6 P M C s k o=some (v,s')):∃t',I6 P M C t k o=some (v,t')/\Fe D t s' t':=by
 unfold I6 at he ⊢;rw[h.AQ];obtain⟨t',h1,h2⟩:=h.ext.op hd he;exact⟨t',h1,h.yM h2 (Ysv he).1⟩
theorem Q4.XT {C:Nat->Kr} (hD:∀id:Id,D id->id.1=0):∀(l:List Oper) {k:Nat} {s t s':St},Q4 D s t->s.ep≠0->Gb P M C ops s k l=some s'->∃t',Gb P M C ops t k l=some t'/\Fe D t s' t'/\s'.ep=s.ep:=by
 intro l
 induction l with
 | nil=>
  intro k s t s' h _ he;simp only[Gb,AF] at he;subst he;exact⟨t,rfl,h.three,rfl⟩
 | cons o l ih=>
  intro k s t s' h Yo he;simp only[Gb] at he ⊢;obtain⟨g,hg,he⟩:=AA.1 he;rw[h.wanted,hg,Ag];cases g with
  | true=>
   simp only[if_true] at he ⊢;obtain⟨⟨v,s1⟩,h1,he⟩:=AA.1 he;obtain⟨t1,g1,e1⟩:=h.op (λid hd hh=>Yo (by rw[<-hh.1];exact hD id hd)) h1;have hp:=e1.1.put o.dst v;have Ch:s1.ep=s.ep:=(Ysv h1).2;obtain⟨t2,g2,e2,e3⟩:=ih hp.1 (by rw[GY,Ch];exact Yo) he;exact⟨t2,by rw[g1];exact g2,(e1.trans hp).trans e2,by rw[e3,GY,Ch]⟩
  | false=>
   simp only[Bp,if_false] at he ⊢;have hp:=h.put o.dst (.AX []);obtain⟨t2,g2,e2,e3⟩:=ih hp.1 (by rw[GY];exact Yo) he;exact⟨t2,g2,hp.trans e2,by rw[e3,GY]⟩
theorem Q4.deep (h:Q4 D s t) (id:Id):t.deep id=s.deep id:=by
 unfold St.deep;by_cases hd:D id
 .rw[h.ext.abs id hd]
  cases hb:t.heap id with
  | none=>rfl
  | some b=>simp only[h.ph id b hd hb];simp
 .rw[h.ext.out id hd]
theorem Q4.storeT (h:Q4 D s t) (d:List Id) (x:V):t.storeT d x=s.storeT d x:=by
 cases x with
 | ptr i j n=>
  simp only[St.storeT];by_cases hd:D i
  .rw[h.ext.abs i hd]
   cases hb:t.heap i with
   | none=>rfl
   | some b=>
    have:=h.ph i b hd hb;simp only[this];cases b.box<;>rfl
  .rw[h.ext.out i hd]
 | _=>rfl
theorem Q4.BZ (h:Q4 D s t):Ev.BZ t o=Ev.BZ s o:=by
 have hdp:t.deep=s.deep:=funext h.deep;have F9:t.storeT=s.storeT:=funext λd=>funext λx=>h.storeT d x;unfold Ev.BZ;rw[h.AQ,hdp,F9]
theorem Q4.only (h:Q4 D s t) (T:List Id):Ext D (s.only T) (t.only T):=by
 refine⟨h.ext.ep,λid hd=>?_,λid hd=>?_⟩
 .simp only[St.only];split
  .exact h.ext.out id hd
  .rfl
 .simp only[St.only];split
  .exact h.ext.abs id hd
  .rfl
theorem Q4.merge {y z:St} {T:List Id} {w:Bool} (h:Q4 D s t) (hD:∀id:Id,D id->W8 s.ep k id=false) (hy:Ext D y z) (hz:∀id,D id->z.heap id=(t.only T).heap id):Fe D t (s.merge k T w y) (t.merge k T w z):=by
 have key:∀id,D id->(t.merge k T w z).heap id=t.heap id:=λid hd=>by
  simp only[St.merge,h.ext.ep,hD id hd,VB];split
  .rename_i hc
   rw[hz id hd];simp only[Bh] at hc;have hm:id∈T:=by simpa using hc.2
   simp[St.only,hm]
  .rfl
 refine⟨⟨⟨h.ext.ep,λid hd=>?_,λid hd=>?_⟩,h.env,λid b hd hb=>h.ph id b hd (by rw[<-key id hd];exact hb)⟩,key⟩
 .simp only[St.merge,h.ext.ep];split
  .exact hy.out id hd
  .exact h.ext.out id hd
 .simp only[St.merge];split
  .exact hy.abs id hd
  .exact h.ext.abs id hd
theorem Q4.draw {C:Nat->Kr} (hD:∀id:Id,D id->id.1=0):∀(l:List Oper) {k:Nat} {s t s':St} {recs:List Rec},Q4 D s t->s.ep≠0->Fy P M C ops s recs k l=some s'->∃t',Fy P M C ops t recs k l=some t'/\Fe D t s' t':=by
 intro l
 induction l with
 | nil=>
  intro k s t s' recs h _ he;simp only[Fy,AF] at he;subst he;exact⟨t,rfl,h.three⟩
 | cons o l ih=>
  intro k s t s' recs h Yo he;have Cz:∀id:Id,D id->¬(id.1=s.ep/\id.2 / 1024=k):=λid hd hh=>Yo (by rw[<-hh.1];exact hD id hd);have hnf:∀id:Id,D id->W8 s.ep k id=false:=λid hd=>by
   cases hf:W8 s.ep k id with
   | false=>rfl
   | true=>exact absurd (by simpa [W8] using hf) (Cz id hd)
  simp only[Fy] at he ⊢;obtain⟨g,hg,he⟩:=AA.1 he;rw[h.wanted,hg,Ag,h.BZ,h.AQ,h.ext.ep];cases g with
  | true=>
   simp only[if_true] at he ⊢;split at he
   .rename_i Yl
    rw[Ah Yl];obtain⟨⟨v,y⟩,h1,he⟩:=AA.1 he;obtain⟨z,g1,e1⟩:=(h.only (Ev.BZ s o)).op (by exact Cz) h1;have hm:=h.merge (T:=Ev.BZ s o) (w:=I7 M s.AQ o) hnf e1.1 e1.2.1;have hp:=hm.1.put o.dst v;obtain⟨t2,g2,e2⟩:=ih hp.1 (by rw[GY];exact Yo) he;exact⟨t2,by rw[g1];exact g2,(hm.trans hp).trans e2⟩
   .cases he
  | false=>
   simp only[Bp,if_false] at he ⊢;split at he
   .rename_i Yl
    rw[Ah Yl];have hp:=h.put o.dst (.AX []);obtain⟨t2,g2,e2⟩:=ih hp.1 (by rw[GY];exact Yo) he;exact⟨t2,g2,hp.trans e2⟩
   .cases he
theorem Q4.tick (h:Q4 D s t):Fe D t {s with ep:=s.ep+1} {t with ep:=t.ep+1}:=
 ⟨⟨⟨by simp only[h.ext.ep],h.ext.out,h.ext.abs⟩,h.env,h.ph⟩,λ_ _=>rfl⟩
theorem Q4.res (h:Q4 D s t):∀{l:List ResultVar} {vs:List V},GO P s l=some vs->GO P t l=some vs:=by
 intro l
 induction l with
 | nil=>intro vs hr;exact hr
 | cons r l ih=>
  intro vs hr;cases r with
  | tmp x=>
   simp only[GO,h.env] at hr ⊢;split at hr
   .cases hr
   .obtain⟨ys,h1,rfl⟩:=AM.1 hr
    rw[ih h1];rfl
  | cell a ty=>
   simp only[GO,h.env] at hr ⊢;split at hr
   .obtain⟨b,hb,hr⟩:=AA.1 hr
    obtain⟨row,Xj,hr⟩:=AA.1 hr;rw[h.ext.get hb,Ag,Xj,Ag];split at hr
    .rename_i hl
     rw[Ah hl];obtain⟨x,hx,hr⟩:=AA.1 hr;obtain⟨ys,h1,rfl⟩:=AM.1 hr;rw[hx,Ag,ih h1];rfl
    .cases hr
   .cases hr
theorem Ext.BD (h:Ext D s t) {ts:List (Option TypeId)} {x y:V} (hl:s.BD ts x=some (y,s')):∃t',t.BD ts x=some (y,t')/\Kv D t s' t':=by
 unfold St.BD at hl ⊢;split at hl
 .obtain⟨⟨ys,s1⟩,h1,he⟩:=AM.1 hl
  simp only[A7] at he;obtain⟨rfl,rfl⟩:=he;obtain⟨t',g,e⟩:=Ext.AL h h1;exact⟨t',by rw[g];rfl,e⟩
 .obtain⟨⟨ys,s1⟩,h1,he⟩:=AM.1 hl
  simp only[A7] at he;obtain⟨rfl,rfl⟩:=he;obtain⟨⟨t',g,e⟩,_⟩:=h.Bw h1;exact⟨t',by rw[g];rfl,e⟩
 .exact h.AB hl
theorem Ext.liftAll:∀{xs:List V} {s t:St} {ts:List TypeId} {ys:List V} {s':St},Ext D s t->s.liftAll P ts xs=some (ys,s')->∃t',t.liftAll P ts xs=some (ys,t')/\Kv D t s' t':=by
 intro xs
 induction xs with
 | nil=>
  intro s t ts ys s' h hs;simp only[St.liftAll,AF,A7] at hs;obtain⟨rfl,rfl⟩:=hs;exact⟨t,rfl,h.two⟩
 | cons x xs ih=>
  intro s t ts ys s' h hs;simp only[St.liftAll] at hs ⊢;obtain⟨⟨y1,s1⟩,h1,hs⟩:=AA.1 hs;obtain⟨⟨y2,s2⟩,h2,hs⟩:=AM.1 hs;simp only[A7] at hs;obtain⟨rfl,rfl⟩:=hs;obtain⟨t1,g1,e1⟩:=h.BD h1;obtain⟨t2,g2,e2⟩:=ih e1.1 h2;exact⟨t2,by rw[g1];simp only[Ag,g2];rfl,e1.trans e2⟩
theorem Ext.Ba {p:Nat}:∀{xs:List V} {s t:St} {k:Nat} {ys:List V} {s':St},Ext D s t->s.Ba p k xs=some (ys,s')->∃t',t.Ba p k xs=some (ys,t')/\Kv D t s' t':=by
 intro xs
 induction xs with
 | nil=>
  intro s t k ys s' h hs;simp only[St.Ba,AF,A7] at hs;obtain⟨rfl,rfl⟩:=hs;exact⟨t,rfl,h.two⟩
 | cons x xs ih=>
  intro s t k ys s' h hs;unfold St.Ba at hs ⊢;split at hs
  .rename_i heq;cases heq
  .rename_i heq
   injection heq with h1 h2;subst h1;subst h2;obtain⟨er,hw,hs⟩:=AA.1 hs;obtain⟨G1,hd⟩:=h.whole hw;rw[G1,Ag];split at hs
   .rename_i he
    rw[Ah he];obtain⟨⟨QM,s1⟩,h1,he⟩:=AM.1 hs;simp only[A7] at he;obtain⟨rfl,rfl⟩:=he;obtain⟨t',g,e⟩:=ih (h.kill hd).1 h1;exact⟨t',by rw[g];rfl,(h.kill hd).trans e⟩
   .cases hs
  .rename_i Yj heq
   injection heq with h1 h2;subst h1;subst h2;obtain⟨⟨QM,s1⟩,h1,he⟩:=AM.1 hs;simp only[A7] at he;obtain⟨rfl,rfl⟩:=he;obtain⟨t',g,e⟩:=ih h h1;exact⟨t',by rw[g];rfl,e⟩
theorem Ext.IX (h:Ext D s t) {p:Nat} {ts:List (Option TypeId)} {m:Yw} {x y:V} (ho:s.out p ts m x=some (y,s')):∃t',t.out p ts m x=some (y,t')/\Kv D t s' t':=by
 unfold St.out at ho ⊢;split at ho
 .simp only[AF,A7] at ho;obtain⟨rfl,rfl⟩:=ho;exact⟨t,rfl,h.two⟩
 .simp only[AF,A7] at ho;obtain⟨rfl,rfl⟩:=ho;exact⟨t,rfl,h.two⟩
 .split at ho
  .obtain⟨⟨ys,s1⟩,h1,ho⟩:=AA.1 ho
   obtain⟨⟨t',g,e⟩,_⟩:=h.Bg h1;simp only at ho;split at ho
   .rename_i hl
    simp only[AF,A7] at ho;obtain⟨rfl,rfl⟩:=ho;exact⟨t',by rw[g,Ag];simp only[hl,if_true],e⟩
   .cases ho
  .cases ho
 .split at ho
  .obtain⟨⟨ys,s1⟩,h1,he⟩:=AM.1 ho
   simp only[A7] at he;obtain⟨rfl,rfl⟩:=he;obtain⟨t',g,e⟩:=Ext.Ba h h1;exact⟨t',by rw[g];rfl,e⟩
  .obtain⟨⟨ys,s1⟩,h1,ho⟩:=AA.1 ho
   obtain⟨z,hz,he⟩:=AM.1 ho;simp only[A7] at he;obtain⟨rfl,rfl⟩:=he;obtain⟨t',g,e⟩:=Ext.Ba h h1;exact⟨t',by rw[g,Ag];simp only[hz];rfl,e⟩
theorem Ext.outs:∀{xs:List V} {s t:St} {p:Nat} {ts:List TypeId} {ms:List Yw} {ys:List V},Ext D s t->s.outs P p ts ms xs=some ys->t.outs P p ts ms xs=some ys:=by
 intro xs
 induction xs with
 | nil=>intro s t p ts ms ys h hs;exact hs
 | cons x xs ih=>
  intro s t p ts ms ys h hs;simp only[St.outs] at hs ⊢;obtain⟨⟨y1,s1⟩,h1,hs⟩:=AA.1 hs;obtain⟨zs,h2,rfl⟩:=AM.1 hs;obtain⟨t1,g1,e1⟩:=h.IX h1;rw[g1];simp only[Ag,ih e1.1 h2];rfl
theorem Q4.enter (h:Q4 D s t) (hD:∀id:Id,D id->64000<=id.2) {p:Nat} {m:Yw} {x:V} (he:s.enter p m x=some s'):∃t',t.enter p m x=some t'/\Fe D t s' t':=by
 have Dc:p < 1000->∀j,64*p<=j->j < 64*p+64->¬D (0,j):=λhp j _ h2 hd=>by have:=hD _ hd;simp only at this;omega
 have one:∀{x y:V} {s1:St},p < 1000->s.Bc 0 (64*p) x=some (y,s1)->∃t1,t.Bc 0 (64*p) x=some (y,t1)/\Fe D t (s1.put (some p) y) (t1.put (some p) y):=by
  intro x y s1 hp h1;obtain⟨t1,g,e⟩:=h.ext.Bc (Dc hp) h1;have CW:s1.env=s.env:=by
   have h0:Ext (λ_=>False) s ⟨s.env,s.heap,s.ep⟩:=⟨rfl,λ_ _=>rfl,λ_ h=>h.elim⟩;obtain⟨t',k1,k2⟩:=h0.Bc (λ_ _ _ h=>h.elim) h1;have h3:(some (y,t'):Option (V×St))=some (y,s1):=by rw[<-k1,<-h1]
   simp only[AF,A7,true_and] at h3;subst h3;exact k2.2.2.1
  have e3:=h.yM e CW;exact⟨t1,g,e3.trans (e3.1.put _ _)⟩
 have two:∀{cs:List V} {y:V} {s1:St},p < 1000->s.BC 0 (64*p) cs=some (y,s1)->∃t1,t.BC 0 (64*p) cs=some (y,t1)/\Fe D t (s1.put (some p) y) (t1.put (some p) y):=by
  intro x y s1 hp h1;obtain⟨t1,g,e⟩:=h.ext.BC (Dc hp) h1;have CW:s1.env=s.env:=by
   have h0:Ext (λ_=>False) s ⟨s.env,s.heap,s.ep⟩:=⟨rfl,λ_ _=>rfl,λ_ h=>h.elim⟩;obtain⟨t',k1,k2⟩:=h0.BC (λ_ _ _ h=>h.elim) h1;have h3:(some (y,t'):Option (V×St))=some (y,s1):=by rw[<-k1,<-h1]
   simp only[AF,A7,true_and] at h3;subst h3;exact k2.2.2.1
  have e3:=h.yM e CW;exact⟨t1,g,e3.trans (e3.1.put _ _)⟩
 unfold St.enter at he ⊢;split at he
 case isFalse=>cases he
 rename_i hp;rw[Ah hp];split at he
 .simp only[AF] at he
  subst he;exact⟨_,rfl,h.put _ _⟩
 .split at he
  .obtain⟨⟨y,s1⟩,h1,rfl⟩:=AM.1 he
   obtain⟨t1,g,e⟩:=two hp h1;exact⟨_,by rw[g];rfl,e⟩
  .cases he
 .split at he
  .cases he
  .rename_i Yj
   obtain⟨⟨y,s1⟩,h1,rfl⟩:=AM.1 he;obtain⟨t1,g,e⟩:=one hp h1;refine⟨_,?_,e⟩;rw[g];rfl
 .split at he
  .cases he
  .rename_i Yj
   obtain⟨⟨y,s1⟩,h1,rfl⟩:=AM.1 he;obtain⟨t1,g,e⟩:=one hp h1;refine⟨_,?_,e⟩;rw[g];rfl
theorem Q4.enters (hD:∀id:Id,D id->64000<=id.2):∀{xs:List V} {s t s':St} {p:Nat} {ms:List Yw},Q4 D s t->s.enters p ms xs=some s'->∃t',t.enters p ms xs=some t'/\Fe D t s' t':=by
 intro xs
 induction xs with
 | nil=>
  intro s t s' p ms h hs;simp only[St.enters,AF] at hs;subst hs;exact⟨t,rfl,h.three⟩
 | cons x xs ih=>
  intro s t s' p ms h hs;simp only[St.enters] at hs ⊢;obtain⟨s1,h1,hs⟩:=AA.1 hs;obtain⟨t1,g1,e1⟩:=h.enter hD h1;obtain⟨t2,g2,e2⟩:=ih e1.1 hs;exact⟨t2,by rw[g1];exact g2,e1.trans e2⟩
end
theorem En.Of {w w':World} {ok ok':Nat->Prop} {U:AZ} {v:Value} {id:Id} {off len:Nat} (h:En w ok U v (.sl id off len)):En w' ok' U v (.sl id off len):=by
 cases h with
 | sl h hc=>exact .sl h hc
 | sle h=>exact .sle h
theorem En.QN {w w':World} {ok ok':Nat->Prop} {U:AZ} {v:Value} {id:Id} {i off:Nat} (h:En w ok U v (.ptr id i off)):En w' ok' U v (.ptr id i off):=by
 generalize hq:V.ptr id i off=q at h;cases h<;>cases hq;rename_i h;exact .ptr h
def Pl (U:AZ) (p:Nat) (m:Yw) (u:Value) (x:V):Prop:=
 match m with
 | .io=>∀w ok,En w ok U u (.ptr (0,64*p+63) 0 0)
 | .EA=>match x with
  | .agg cs=>∃us:Array Value,u=.agg us/\us.size=cs.length/\∀(j:Nat) (v:Value) (e:TypeId) (rows:List (List V)),us[j]?=some v->cs[j]?=some (.own e rows)->∀w ok,En w ok U v (.sl (0,64*p+j) 0 rows.length)
  | x=>∀(e:TypeId) (rows:List (List V)),x=.own e rows->∀w ok,En w ok U u (.sl (0,64*p) 0 rows.length)
 | _=>True
inductive Og (U:AZ):Nat->List Yw->List Value->List V->Prop
 | nil {p:Nat} {ms:List Yw}:Og U p ms [] []
 | cons {p:Nat} {ms:List Yw} {u:Value} {us:List Value} {x:V} {xs:List V} (h:Pl U p (ms.headD .rd) u x) (hs:Og U (p+1) ms.tail us xs):Og U p ms (u::us) (x::xs)
theorem Pl.ext {U U':AZ} (hU:∀id i,U id=some i->U' id=some i) {p:Nat} {m:Yw} {u:Value} {x:V} (h:Pl U p m u x):Pl U' p m u x:=by
 cases m
 .exact trivial
 .exactλw ok=>(h w ok).ext (λ_ h=>h) hU
 .exact trivial
 .unfold Pl at h ⊢
  simp only at h ⊢;split
  .obtain⟨us,h1,h2,h3⟩:=h
   exact⟨us,h1,h2,λj v e rows hv hc w ok=>(h3 j v e rows hv hc w ok).ext (λ_ h=>h) hU⟩
  .rename_i Yj
   split at h
   .rename_i cs;exact absurd rfl (Yj cs)
   .exactλe rows he w ok=>(h e rows he w ok).ext (λ_ h=>h) hU
theorem Yt5 {e:Nat}:∀{xs:List V} {s:St} {k:Nat} {ys:List V} {s':St},s.AN e k xs=some (ys,s')->∀(j:Nat) (e':TypeId) (rows:List (List V)),xs[j]?=some (.own e' rows)->ys[j]?=some (.sl (e,k+j) 0 rows.length):=by
 intro xs
 induction xs with
 | nil=>intro s k ys s' _ j e' rows h;simp at h
 | cons x xs ih=>
  intro s k ys s' hs j e' rows h;simp only[St.AN] at hs;obtain⟨⟨y1,s1⟩,h1,hs⟩:=AA.1 hs;obtain⟨⟨y2,s2⟩,h2,hs⟩:=AM.1 hs;simp only[A7] at hs;obtain⟨rfl,rfl⟩:=hs;cases j with
  | zero=>
   have:x=.own e' rows:=by simpa using h
   subst this;simp only[St.AT,AF,A7] at h1;simp[h1.1]
  | succ j=>
   have:=ih h2 j e' rows (by simpa using h);rw[Ved,this]
   congr 2
   simp only[V.sl.injEq,A7,true_and,and_true];omega
section
variable {P:Program} {B:Nat} {io:Nat->Prop} {w w':World} {tmps:Array Value} {s s':St} {U U':AZ} {F F':Id->List Nat} {fl fl':List Nat} {ok ok':Nat->Prop}
structure QO (P:Program) (B:Nat) (io:Nat->Prop) (w:World) (tmps:Array Value) (s:St) (U:AZ) (fl:List Nat) (ok:Nat->Prop) (lo hi:Nat) (s':St) (U':AZ) (F':Id->List Nat):Prop where
 rel:J0 P B io w tmps s' U' F' fl ok
 ext:∀id i,U id=some i->U' id=some i
 CB:∀id,(U' id).isSome=true->(U id).isSome=true\/(id.1=0/\lo<=id.2/\id.2 < hi)
 ep:s'.ep=s.ep
 heap:∀id:Id,¬(id.1=0/\lo<=id.2/\id.2 < hi)->s'.heap id=s.heap id
 AK:∀g,Ev.AK s' U' g->Ev.AK s U g\/io g
theorem yN {d:Option Tmp} {v:V} {g:Nat} (h:AK (s.put d v) U g):AK s U g:=by
 obtain⟨id,b,o,c,sz,h1,h2,h3⟩:=h;rw[QJ] at h1;exact⟨id,b,o,c,sz,h1,h2,h3⟩
theorem Xcc {fp:List Nat} (h:J0 P B io w tmps s U F (fp++fl) ok) {p:Nat} {m:Yw} {u:Value} {x:V} (ha:XI P w ok io m u x fp) (hp:tmps[p]?=some u) (Yo:s.ep=0) (Xa:∀j,64*p<=j->j < 64*p+64->U (0,j)=none/\s.heap (0,j)=none) (he:s.enter p m x=some s'):
  ∃U' F',QO P B io w tmps s U fl ok (64*p) (64*p+64) s' U' F'/\Pl U' p m u x:=by
 have fin:∀{y:V} {s1:St} {z:V} ,DD P w ok io u z fp->s.Bc 0 (64*p) z=some (y,s1)->∃U' F',QO P B io w tmps s U fl ok (64*p) (64*p+64) (s1.put (some p) y) U' F'/\En w ok U' u y:=by
  intro y s1 z hg ht;obtain⟨U',F',t,en⟩:=xY h hg (λg hg=>.inl hg) (e:=0) (by omega) Xa ht;exact⟨U',F',⟨t.rel.put hp en,t.ext,t.CB,by rw[GY];exact t.ep,λid Zu=>by rw[QJ];exact t.heap id Zu,λg hg=>t.AK g (yN hg)⟩,en⟩
 unfold St.enter at he;split at he
 case isFalse=>cases he
 split at he
 .simp only[AF] at he
  subst he;obtain⟨h1,rfl⟩:=ha;exact⟨U,F,⟨h.put hp (h1 U),λ_ _ h=>h,λ_ h=>.inl h,GY _ _ _,λid _=>by rw[QJ],λg hg=>.inl (yN hg)⟩,trivial⟩
 .split at he
  .rename_i cs
   obtain⟨⟨y,s1⟩,h1,rfl⟩:=AM.1 he;obtain⟨GV,BQ,hg⟩:=ha;injection BQ with BQ;subst BQ;obtain⟨U',F',t,en,ey⟩:=Y4n h hg (λg hg=>.inl hg) (e:=0) (by omega) Xa h1;subst ey;exact⟨U',F',⟨t.rel.put hp en,t.ext,t.CB,by rw[GY];exact t.ep,λid Zu=>by rw[QJ];exact t.heap id Zu,λg hg=>t.AK g (yN hg)⟩,λw' ok'=>en.QN⟩
  .cases he
 .split at he
  .cases he
  .obtain⟨⟨y,s1⟩,h1,rfl⟩:=AM.1 he
   obtain⟨U',F',h2,h3⟩:=fin ha.2 h1;exact⟨U',F',h2,trivial⟩
 .split at he
  .cases he
  .obtain⟨⟨y,s1⟩,h1,rfl⟩:=AM.1 he
   obtain⟨U',F',h2,h3⟩:=fin ha.2 h1;refine⟨U',F',h2,?_⟩;unfold Pl;simp only;split
   .rename_i cs
    obtain⟨us,rfl,GW⟩:=ha.2;refine⟨us,rfl,by have:=GW.length;simpa using this,λj v e rows hv hc w' ok'=>?_⟩;simp only[St.Bc] at h1;split at h1
    .obtain⟨⟨ys,s2⟩,h4,he⟩:=AM.1 h1
     simp only[A7] at he;rw[<-he.1] at h3;cases h3 with
     | agg hl Co hr=>exact (hr j v _ hv (Yt5 h4 j e rows hc)).Of
    .cases h1
   .rename_i Yj
    rintro e rows rfl w' ok';simp only[St.Bc,St.AT,AF,A7] at h1;rw[<-h1.1] at h3;exact h3.Of
theorem Y8o:∀(xs:List V) {us:List Value} {p:Nat} {ms:List Yw} {s s':St} {U:AZ} {F:Id->List Nat} {G:List Nat},J0 P B io w tmps s U F (G++fl) ok->Oc P w ok io ms us xs G->(∀(j:Nat) (u:Value),us[j]?=some u->tmps[p+j]?=some u)->s.ep=0->
  (∀j,64*p<=j->j < 64000->U (0,j)=none/\s.heap (0,j)=none)->s.enters p ms xs=some s'->∃U' F',QO P B io w tmps s U fl ok (64*p) 64000 s' U' F'/\Og U' p ms us xs:=by
 intro xs
 induction xs with
 | nil=>
  intro us p ms s s' U F G h ha ht Yo Xa he;cases ha;simp only[St.enters,AF] at he;subst he;exact⟨U,F,⟨h,λ_ _ h=>h,λ_ h=>.inl h,rfl,λ_ _=>rfl,λ_ h=>.inl h⟩,.nil⟩
 | cons x xs ih=>
  intro us p ms s s' U F G h ha ht Yo Xa he;cases ha with
  | @cons _ u us _ _ f1 f2 h1 hs=>
   simp only[St.enters] at he;obtain⟨s1,e1,he⟩:=AA.1 he;have hp:p < 1000:=by
    unfold St.enter at e1;split at e1
    .assumption
    .cases e1
   obtain⟨U1,F1,c1,p1⟩:=Xcc (fl:=f2++fl) (by rw[<-List.append_assoc];exact h) h1 (by simpa using ht 0 u rfl) Yo (λj h1 h2=>Xa j h1 (by omega)) e1;obtain⟨U2,F2,c2,p2⟩:=ih c1.rel hs (λj v hv=>by have:=ht (j+1) v (by simpa using hv);rw[show p+1+j=p+(j+1) by omega];exact this) (by rw[c1.ep];exact Yo) (λj h1 h2=>by
    obtain⟨a1,a2⟩:=Xa j (by omega) h2;refine⟨?_,by rw[c1.heap _ (λhh=>by have:=hh.2.2;simp only at this;omega)];exact a2⟩;cases hr:U1 (0,j) with
    | none=>rfl
    | some i=>
     rcases c1.CB (0,j) (by rw[hr];rfl) with hh|hh
     .rw[a1] at hh;cases hh
     .have:=hh.2.2;simp only at this;omega) he
   refine⟨U2,F2,⟨c2.rel,λid i hi=>c2.ext id i (c1.ext id i hi),λid hi=>?_,c2.ep.trans c1.ep,λid Zu=>?_,λg hg=>?_⟩,.cons (p1.ext c2.ext) p2⟩
   .rcases c2.CB id hi with h3|h3
    .rcases c1.CB id h3 with h4|h4
     .exact .inl h4
     .exact .inr ⟨h4.1,h4.2.1,by omega⟩
    .exact .inr ⟨h3.1,by omega,h3.2.2⟩
   .rw[c2.heap id (λhh=>Zu ⟨hh.1,by omega,hh.2.2⟩)]
    exact c1.heap id (λhh=>Zu ⟨hh.1,hh.2.1,by omega⟩)
   .rcases c2.AK g hg with h3|h3
    .exact c1.AK g h3
    .exact .inr h3
end
inductive G5 (P:Program) (w:World) (ok top:Nat->Prop):List Value->List V->List Nat->Prop
 | nil:G5 P w ok top [] [] []
 | cons {v:Value} {x:V} {vs:List Value} {xs:List V} {f1 f2:List Nat} (h:DD P w ok top v x f1) (hs:G5 P w ok top vs xs f2):G5 P w ok top (v::vs) (x::xs) (f1++f2)
theorem G5.top {P:Program} {w:World} {ok top top':Nat->Prop} {v:List Value} {x:List V} {fp:List Nat} (h:G5 P w ok top v x fp) (ht:∀g,top g->top' g):G5 P w ok top' v x fp:=by
 induction h with
 | nil=>exact .nil
 | cons h _ ih=>exact .cons (h.top ht) ih
inductive H2 (P:Program) (w:World) (top:Nat->Prop):List Value->List V->List V->List Nat->Prop
 | nil:H2 P w top [] [] [] []
 | own {u:Value} {e:TypeId} {rows Bu:List (List V)} {us:List Value} {xs ns:List V} {f1 f2:List Nat} (h:NK P w e u Bu f1) (ht:∀g,f1.head?=some g->top g) (hs:H2 P w top us xs ns f2):H2 P w top (u::us) (.own e rows::xs) (.own e Bu::ns) (f1++f2)
 | skip {u:Value} {x:V} {us:List Value} {xs ns:List V} {f:List Nat} (hx:∀e rows,x≠.own e rows) (hs:H2 P w top us xs ns f):H2 P w top (u::us) (x::xs) (.undef::ns) f
theorem H2.top {P:Program} {w:World} {top top':Nat->Prop} {us:List Value} {xs ns:List V} {fp:List Nat} (h:H2 P w top us xs ns fp) (ht:∀g,top g->top' g):H2 P w top' us xs ns fp:=by
 induction h with
 | nil=>exact .nil
 | own h k _ ih=>exact .own h (λg hg=>ht g (k g hg)) ih
 | skip h _ ih=>exact .skip h ih
def My (P:Program) (w:World) (ok top:Nat->Prop) (m:Yw) (u:Value) (x o:V) (fp:List Nat):Prop:=
 match m with
 | .rd|.mv=>fp=[]
 | .io=>∃cs GV,x=.agg cs/\o=.agg GV/\GV.length=cs.length/\IP P w ok top u GV fp
 | .EA=>(∃(us:Array Value) (cs ns:List V),x=.agg cs/\u=.agg us/\o=.agg ns/\H2 P w top us.toList cs ns fp)\/((∀cs,x≠.agg cs)/\H2 P w top [u] [x] [o] fp)
theorem My.top {P:Program} {w:World} {ok top top':Nat->Prop} {m:Yw} {u:Value} {x o:V} {fp:List Nat} (h:My P w ok top m u x o fp) (ht:∀g,top g->top' g):My P w ok top' m u x o fp:=by
 cases m
 .exact h
 .obtain⟨cs,GV,h1,h2,h3,h4⟩:=h;exact⟨cs,GV,h1,h2,h3,h4.top ht⟩
 .exact h
 .rcases h with⟨us,cs,ns,h1,h2,h3,h4⟩|⟨h1,h2⟩
  .exact .inl ⟨us,cs,ns,h1,h2,h3,h4.top ht⟩
  .exact .inr ⟨h1,h2.top ht⟩
inductive FD (P:Program) (w:World) (ok top:Nat->Prop):List Yw->List Value->List V->List V->List Nat->Prop
 | nil {ms:List Yw}:FD P w ok top ms [] [] [] []
 | cons {ms:List Yw} {u:Value} {us:List Value} {x o:V} {xs os:List V} {f1 f2:List Nat} (h:My P w ok top (ms.headD .rd) u x o f1) (hs:FD P w ok top ms.tail us xs os f2):FD P w ok top ms (u::us) (x::xs) (o::os) (f1++f2)
theorem FD.top {P:Program} {w:World} {ok top top':Nat->Prop} {ms:List Yw} {us:List Value} {xs os:List V} {fp:List Nat} (h:FD P w ok top ms us xs os fp) (ht:∀g,top g->top' g):FD P w ok top' ms us xs os fp:=by
 induction h with
 | nil=>exact .nil
 | cons h _ ih=>exact .cons (h.top ht) ih
section
variable {P:Program} {B:Nat} {io:Nat->Prop} {w w':World} {tmps:Array Value} {s s':St} {U U':AZ} {F F':Id->List Nat} {fl fl':List Nat} {ok ok':Nat->Prop}
theorem Y40 (h0:Rel P B io w tmps s U F fl) {s1 s2:St} {fl1:List Nat} (h:Rel P B io w tmps s1 U F fl1) (Da:Wi s s1) {ts:List (Option TypeId)} {u:Value} {x y:V} (hu:En w (AI s U w) U u x) (hl:s1.BD ts x=some (y,s2)):
  ∃fp,Rel P B io w tmps s2 U F (fp++fl1)/\DD P w (AI s U w) (DK s1 s2 U F) u y fp/\Wi s1 s2:=by
 have Yl:∀g,AI s U w g->AI s1 U w g:=λg hg=>QF Da hg;unfold St.BD at hl;split at hl
 .rename_i cs
  exact x5 h hu Yl (show s1.Bb ts (.agg cs)=some (y,s2) from hl)
 .rename_i id
  obtain⟨⟨cs,s4⟩,h3,he⟩:=AM.1 hl;simp only[A7] at he;obtain⟨rfl,rfl⟩:=he;obtain⟨fp,a,b,c,_⟩:=Yn6 h hu Yl (h0.CT.less Da id) h3;exact⟨fp,a,b,c⟩
 .obtain⟨fp,a,b,c⟩:=jQ h hu Yl hl
  refine⟨fp,a,?_,c⟩;cases b with
  | lit h=>exact .lit h
  | tr h=>exact .tr h
  | own h k=>exact .own h k
theorem Y49 (h0:Rel P B io w tmps s U F fl):∀(xs:List V) {us:List Value} {ts:List TypeId} {s1 s2:St} {fl1:List Nat} {ys:List V},Rel P B io w tmps s1 U F fl1->Wi s s1->us.length=xs.length->
  (∀(j:Nat) (u:Value) (x:V),us[j]?=some u->xs[j]?=some x->En w (AI s U w) U u x)->s1.liftAll P ts xs=some (ys,s2)->∃fp,Rel P B io w tmps s2 U F (fp++fl1)/\G5 P w (AI s U w) (DK s1 s2 U F) us ys fp/\Wi s1 s2:=by
 intro xs
 induction xs with
 | nil=>
  intro us ts s1 s2 fl1 ys h Da hl Wa hg;have:us=[]:=GK (by simpa using hl);subst this;simp only[St.liftAll,AF,A7] at hg;obtain⟨rfl,rfl⟩:=hg;exact⟨[],h,.nil,.refl _⟩
 | cons x xs ih=>
  intro us ts s1 s2 fl1 ys h Da hl Wa hg
  match us,hl with
  | u::us,hl=>
   simp only[St.liftAll] at hg;obtain⟨⟨y,s3⟩,h1,hg⟩:=AA.1 hg;obtain⟨⟨zs,s4⟩,h2,hg⟩:=AM.1 hg;simp only[A7] at hg;obtain⟨rfl,rfl⟩:=hg;simp only at h2;obtain⟨f1,r1,a1,l1⟩:=Y40 h0 h Da (Wa 0 u x rfl rfl) h1;obtain⟨f2,r2,a2,l2⟩:=ih r1 (Da.trans l1) (by simpa using hl) (λj v z hv hz=>Wa (j+1) v z (by simpa using hv) (by simpa using hz)) h2;refine⟨f1++f2,r2.perm ?_,.cons (a1.top λg hg=>hg.left l2) (a2.top λg hg=>hg.right l1),l1.trans l2⟩;rw[List.append_assoc];exact (Px _ _ _)
theorem Yh5 {p:Nat}:∀(xs:List V) {us:List Value} {k:Nat} {s1 s2:St} {fl1:List Nat} {ys:List V},Rel P B io w tmps s1 U F fl1->us.length=xs.length->
  (∀(j:Nat) (v:Value) (e:TypeId) (rows:List (List V)),us[j]?=some v->xs[j]?=some (.own e rows)->∀w ok,En w ok U v (.sl (0,64*p+(k+j)) 0 rows.length))->s1.Ba p k xs=some (ys,s2)->
  ∃fp,Rel P B io w tmps s2 U F (fp++fl1)/\H2 P w (DK s1 s2 U F) us xs ys fp/\Wi s1 s2:=by
 intro xs
 induction xs with
 | nil=>
  intro us k s1 s2 fl1 ys h hl Wa hg;have:us=[]:=GK (by simpa using hl);subst this;simp only[St.Ba,AF,A7] at hg;obtain⟨rfl,rfl⟩:=hg;exact⟨[],h,.nil,.refl _⟩
 | cons x xs ih=>
  intro us k s1 s2 fl1 ys h hl Wa hg
  match us,hl with
  | u::us,hl=>
   have Ml:∀(j:Nat) (v:Value) (e:TypeId) (rows:List (List V)),us[j]?=some v->xs[j]?=some (.own e rows)->∀w ok,En w ok U v (.sl (0,64*p+(k+1+j)) 0 rows.length):=λj v e rows hv hx w' ok'=>by
    have:=Wa (j+1) v e rows (by simpa using hv) (by simpa using hx) w' ok';rw[show k+1+j=k+(j+1) by omega];exact this
   unfold St.Ba at hg;split at hg
   .rename_i heq;cases heq
   .rename_i heq
    injection heq with e1 e2;subst e1;subst e2;obtain⟨⟨e',Bu⟩,hw,hg⟩:=AA.1 hg;simp only at hg;split at hg
    .rename_i hee
     obtain⟨⟨zs,s3⟩,h2,he⟩:=AM.1 hg;simp only[A7] at he;obtain⟨rfl,rfl⟩:=he;subst hee;have hu:=Wa 0 u _ _ rfl rfl w (AI s1 U w);obtain⟨f1,r1,o1,hh⟩:=h.Gu (by simpa using hu) hw;obtain⟨f2,r2,a2,l2⟩:=ih r1 (by simpa using hl) Ml h2;refine⟨f1++f2,r2.perm ?_,.own o1 (λg hg=>?_) (a2.top λg hg=>hg.right (.kill s1 _)),(Wi.kill s1 _).trans l2⟩
     .rw[List.append_assoc]
      exact (Px _ _ _)
     .unfold St.whole at hw
      obtain⟨b,hb,hw⟩:=AA.1 hw;split at hw
      .rename_i hc
       exact⟨_,b,hb,hc.2.1,l2.none Ke,(hh g hg).1,(hh g hg).2⟩
      .cases hw
    .cases hg
   .rename_i Yj heq
    injection heq with e1 e2;subst e1;subst e2;obtain⟨⟨zs,s3⟩,h2,he⟩:=AM.1 hg;simp only[A7] at he;obtain⟨rfl,rfl⟩:=he;obtain⟨f2,r2,a2,l2⟩:=ih h (by simpa using hl) Ml h2;exact⟨f2,r2,.skip (λe rows hx=>Yj e rows hx) a2,l2⟩
theorem Xen {D:Id->Prop} (h0:Rel P B io w tmps s U F fl):∀(xs:List V) {us:List Value} {p:Nat} {ts:List TypeId} {ms:List Yw} {sa s1:St} {fl1:List Nat} {ys:List V},Rel P B io w tmps s1 U F fl1->Wi s s1->Og U p ms us xs->
  Ext D sa s1->sa.outs P p ts ms xs=some ys->s1.outs P p ts ms xs=some ys->∃s2 fp,(∀id,D id->s2.heap id=s1.heap id)/\Rel P B io w tmps s2 U F (fp++fl1)/\FD P w (AI s U w) (DK s1 s2 U F) ms us xs ys fp/\Wi s1 s2:=by
 intro xs
 induction xs with
 | nil=>
  intro us p ts ms sa s1 fl1 ys h Da NZ hx XU hg;cases NZ;simp only[St.outs,AF] at hg;subst hg;exact⟨s1,[],λ_ _=>rfl,h,.nil,.refl _⟩
 | cons x xs ih=>
  intro us p ts ms sa s1 fl1 ys h Da NZ hx XU hg;cases NZ with
  | @cons _ _ u us _ _ hp T8=>
   simp only[St.outs] at hg XU;obtain⟨⟨y,s3⟩,h1,hg⟩:=AA.1 hg;obtain⟨zs,h2,rfl⟩:=AM.1 hg;obtain⟨⟨ya,sa3⟩,BU,XU⟩:=AA.1 XU;obtain⟨zsa,Dd,DC⟩:=AM.1 XU;simp only at h2 Dd;injection DC with yO DC;have yO:=yO.symm;have DC:=DC.symm;subst yO;subst DC;obtain⟨s3',k1,k2⟩:=hx.IX BU;rw[h1] at k1;simp only[AF,A7,true_and] at k1;subst k1;have Yl:∀g,AI s U w g->AI s1 U w g:=λg hg=>QF Da hg;have one:∃fp,Rel P B io w tmps s3 U F (fp++fl1)/\My P w (AI s U w) (DK s1 s3 U F) (ms.headD .rd) u x y fp/\Wi s1 s3:=by
    unfold St.out at h1;split at h1
    .rename_i hm
     simp only[AF,A7] at h1;obtain⟨rfl,rfl⟩:=h1;rw[hm];exact⟨[],h,rfl,.refl _⟩
    .rename_i hm
     simp only[AF,A7] at h1;obtain⟨rfl,rfl⟩:=h1;rw[hm];exact⟨[],h,rfl,.refl _⟩
    .rename_i hm
     rw[hm] at hp ⊢;split at h1
     .rename_i cs
      obtain⟨⟨GV,s4⟩,h3,h1⟩:=AA.1 h1;simp only at h1;split at h1
      .rename_i Yp
       simp only[AF,A7] at h1;obtain⟨rfl,rfl⟩:=h1;obtain⟨fp,a,b,c,_⟩:=Yi8 h (hp w (AI s U w)) Yl (h0.CT.less Da) h3;exact⟨fp,a,⟨cs,GV,rfl,rfl,Yp,b⟩,c⟩
      .cases h1
     .cases h1
    .rename_i hm
     rw[hm] at hp ⊢;unfold Pl at hp;simp only at hp;split at h1
     .rename_i cs
      obtain⟨⟨ns,s4⟩,h3,he⟩:=AM.1 h1;simp only[A7] at he;obtain⟨rfl,rfl⟩:=he;obtain⟨vs,rfl,W3,Wa⟩:=hp;obtain⟨fp,a,b,c⟩:=Yh5 (p:=p) cs (us:=vs.toList) (k:=0) h (by simpa using W3) (λj v e rows hv hc w' ok'=>by
       have:=Wa j v e rows (by simpa using hv) hc w' ok';rw[P6];exact this) h3
      exact⟨fp,a,.inl ⟨vs,cs,ns,rfl,rfl,rfl,b⟩,c⟩
     .rename_i Yj
      obtain⟨⟨ns,s4⟩,h3,h1⟩:=AA.1 h1;obtain⟨z,hz,he⟩:=AM.1 h1;simp only[A7] at he;obtain⟨rfl,rfl⟩:=he;split at hp
      .rename_i cs;exact absurd rfl (Yj cs)
      .obtain⟨fp,a,b,c⟩:=Yh5 (p:=p) [x] (us:=[u]) (k:=0) h rfl (λj v e rows hv hc w' ok'=>by
        cases j with
        | zero=>
         have e1:u=v:=by simpa using hv
         have e2:x=.own e rows:=by simpa using hc
         subst e1;have:=hp e rows e2 w' ok';simpa using this
        | succ j=>simp at hc) h3
       have QP:ns=[z]:=by
        cases b with
        | own _ _ hs=>cases hs;simp at hz;rw[hz]
        | skip _ hs=>cases hs;simp at hz;rw[hz]
       subst QP;exact⟨fp,a,.inr ⟨Yj,b⟩,c⟩
   obtain⟨f1,r1,a1,l1⟩:=one;obtain⟨s5,f2,d2,r2,a2,l2⟩:=ih r1 (Da.trans l1) T8 k2.1 Dd h2;refine⟨s5,f1++f2,λid hd=>(d2 id hd).trans (k2.2.1 id hd),r2.perm ?_,.cons (a1.top λg hg=>hg.left l2) (a2.top λg hg=>hg.right l1),l1.trans l2⟩;rw[List.append_assoc];exact (Px _ _ _)
theorem Y1r {t:TypeId} {g n:Nat} {us:List Value} {cs:List V} {v:V} (hl:us.length=Z5 P t) (Qf:us.length=cs.length) (GQ:∀x∈cs,AG x=true)
  (hc:∀j u,us[j]?=some u->w.cell? ⟨g,n+j,none⟩=some u) (he:KT P t cs=some v) (Wa:∀(j:Nat) (u:Value) (x:V),us[j]?=some u->cs[j]?=some x->En w (AI s U w) U u x):
  ∃u,(loadVar t ⟨g,n,none⟩).run P w=.ok u w/\En w (AI s U w) U u v:=by
 unfold KT at he;split at he
 .rename_i VQ
  obtain⟨d,hu⟩:=Ft.1 VQ;split at he
  .rename_i PD
   simp only[AF] at he;subst he;obtain⟨ti,CV⟩:∃ti,P.info? t=some ti:=by
    unfold Program.underlying at hu;split at hu
    .rename_i h;exact⟨_,h⟩
    .rename_i h;exact⟨_,h⟩
    .cases hu
   have W3:ti.size=us.length:=by rw[hl];simp[Z5,Program.cellsOf,CV]
   have X2:=run_loadCells_list (P:=P) (w:=w) ⟨g,n,none⟩ us (λj u hj=>by rw[HS];exact hc j u hj);rw[<-W3] at X2;refine⟨.agg us.toArray,?_,(.agg (by simpa using Qf) GQ (λj u x hj hx=>Wa j u x (by simpa using hj) hx))⟩;cases d<;>simp[HP,hu] at PD<;>simp[loadVar,isAgg,underlying,hu,Go.sizeOf,typeInfo,CV,X2]
  .rename_i PD
   split at he
   .rename_i y
    simp only[AF] at he;subst he
    match us,Qf with
    | [u],_=>
     refine⟨u,?_,Wa 0 u y rfl rfl⟩;have h0:=hc 0 u rfl;simp only[Fv] at h0;cases d<;>simp[HP,hu] at PD<;>simp[loadVar,isAgg,underlying,hu,load,Sem.run,h0]
   .cases he
 .cases he
def QQ (tmps:Array Value):ResultVar->Sem Value
 | .tmp t=>pure (tmps.getD t undef)
 | .cell a t=>do loadVar t (<-asAddr (tmps.getD a undef))
theorem Xd5 (h:Rel P B io w tmps s U F fl):∀(l:List ResultVar) {vs:List V},GO P s l=some vs->∃us:List Value,us.length=vs.length/\
  (l.mapM (QQ tmps)).run P w=.ok us w/\∀(j:Nat) (u:Value) (x:V),us[j]?=some u->vs[j]?=some x->En w (AI s U w) U u x:=by
 intro l
 induction l with
 | nil=>
  intro vs hr;simp only[GO,AF] at hr;subst hr;exact⟨[],rfl,by simp,λj u x hu=>by simp at hu⟩
 | cons r l ih=>
  intro vs hr;have tm:∀t,s.env t≠.undef->t < tmps.size:=λt Yj=>by
   rcases Mc t tmps.size with h'|h'
   .exact h'
   .exact absurd (h.out t h') Yj
  have fin:∀{u:Value} {x:V} {ys:List V},(QQ tmps r).run P w=.ok u w->En w (AI s U w) U u x->GO P s l=some ys->x::ys=vs->
    ∃us:List Value,us.length=vs.length/\((r::l).mapM (QQ tmps)).run P w=.ok us w/\∀(j:Nat) (u:Value) (x:V),us[j]?=some u->vs[j]?=some x->En w (AI s U w) U u x:=by
   rintro u x ys X2 Wa Cw rfl;obtain⟨us,h1,h2,h3⟩:=ih Cw;refine⟨u::us,by simp[h1],?_,λj v z hv hz=>?_⟩
   .rw[List.mapM_cons]
    simp only[Sem.run_bind,X2,h2,Result.andThen_ok,Sem.run_pure]
   .cases j with
    | zero=>
     have e1:u=v:=by simpa using hv
     have e2:x=z:=by simpa using hz
     subst e1;subst e2;exact Wa
    | succ j=>exact h3 j v z (by simpa using hv) (by simpa using hz)
  cases r with
  | tmp t=>
   simp only[GO] at hr;split at hr
   .cases hr
   .rename_i Yj
    obtain⟨ys,h1,h2⟩:=AM.1 hr;have Ya:=tm t Yj;have hv:tmps[t]?=some tmps[t]:=Var Ya;exact fin (u:=tmps.getD t undef) (by simp[QQ]) (by rw[Pw,hv];exact h.env t _ hv) h1 h2
  | cell ad t=>
   simp only[GO] at hr;split at hr
   .rename_i i j n hx
    obtain⟨b,hb,hr⟩:=AA.1 hr;obtain⟨row,Xj,hr⟩:=AA.1 hr;split at hr
    .rename_i Yp
     obtain⟨x,hxe,hr⟩:=AA.1 hr;obtain⟨ys,h1,h2⟩:=AM.1 hr;have Ya:=tm ad (by rw[hx];simp);have hv:tmps[ad]?=some tmps[ad]:=Var Ya;have Wa:=h.env ad _ hv;rw[hx] at Wa;generalize hq:tmps[ad]=q at Wa hv;generalize hpp:V.ptr i j n=pp at Wa;cases Wa<;>cases hpp;rename_i g o' c sz hU;have cell:∀(m:Nat) (y:V),row[m]?=some y->∃u,w.cell? ⟨g,o'+j*sz+m,none⟩=some u/\En w (AI s U w) U u y/\AG y=true:=λm y hy=>by
      obtain⟨u,k1,k2,k3⟩:=h.cell hb hU Xj hy;cases Xp:b.box with
      | true=>exact⟨u,k1,k2 Xp,h.F0 hb Xp Xj y (E8 hy)⟩
      | false=>exact⟨u,k1,(k3 Xp).en,(k3 Xp).AG⟩
     have each:∀m,∃u:Value,∀y,row[m]?=some y->w.cell? ⟨g,o'+j*sz+m,none⟩=some u/\En w (AI s U w) U u y:=λm=>by
      cases hm:row[m]? with
      | none=>exact⟨undef,λy hy=>by cases hy⟩
      | some z=>
       obtain⟨u,k1,k2,_⟩:=cell m z hm;exact⟨u,λy hy=>by injection hy with hy;subst hy;exact⟨k1,k2⟩⟩
     obtain⟨uf,NL⟩:=vH each;obtain⟨u,X2,hue⟩:=Y1r (P:=P) (s:=s) (U:=U) (w:=w) (t:=t) (g:=g) (n:=o'+j*sz+n) (us:=(List.range (Z5 P t)).map λm=>uf (n+m)) (cs:=(row.drop n).take (Z5 P t)) (by simp) (by simp;omega) (λx hx=>by
      obtain⟨m,hm⟩:=HN hx;rw[Dr] at hm;split at hm
      .rw[D4] at hm
       obtain⟨_,_,_,k4⟩:=cell _ x hm;exact k4
      .cases hm) (λm u hm=>by
      simp only[D5,AM] at hm;obtain⟨m',Dm,rfl⟩:=hm;obtain⟨jZ,rfl⟩:=Dg.1 Dm;simp only[vR,vO] at jZ ⊢;rw[Nat.add_assoc];exact (NL (n+m) _ (C6 (by omega))).1) hxe (λm u y hm hy=>by
      simp only[D5,AM] at hm;obtain⟨m',Dm,rfl⟩:=hm;obtain⟨jZ,rfl⟩:=Dg.1 Dm;simp only[vR,vO] at jZ ⊢;rw[Dr,Ah jZ,D4] at hy;exact (NL (n+m) y hy).2)
     refine fin (u:=u) ?_ hue h1 h2;simp only[QQ,Sem.run_bind];rw[Pw,hv];simp[asAddr,X2]
    .cases hr
   .cases hr
end
def FE (P:Program) (w:World) (ok top:Nat->Prop) (v:Value):V->List Nat->Prop
 | .AX rs,fp=>∃us:Array Value,v=.tuple us/\G5 P w ok top us.toList rs fp
 | x,fp=>DD P w ok top v x fp
structure QR (P:Program) (ms:List Yw) (w:World) (us:Array Value) (xs:List V) (G:List Nat) (T X:Nat->Prop) (r:V) (os:List V) (v:Value) (w':World):Prop where
 left:C3 w.heap.size T w w'
 ex:∃(ok' top':Nat->Prop) (fr fo:List Nat),FE P w' ok' top' v r fr/\FD P w' ok' top' ms us.toList xs os fo/\(fr++fo).Nodup/\(∀g∈fr++fo,g < w'.heap.size/\(g∈G\/w.heap.size<=g))/\(∀g,top' g->T g\/w.heap.size<=g)/\(∀g,ok' g->g < w'.heap.size/\¬top' g/\¬X g)
def Oh (P:Program) (ms:List Yw) (f:FuncId) (xs:List V) (r:V) (os:List V):Prop:=
 ∀(w:World) (us:Array Value) (G:List Nat) (T X ok:Nat->Prop),Mi w T->Oc P w ok T ms us.toList xs G->G.Nodup->(∀g∈G,g < w.heap.size/\¬X g)->(∀g,ok g->g < w.heap.size/\¬T g/\¬X g)->
  (∀g,X g->∃cur e,w.heap[g]?=some (.cells cur e (0,0)))->Calls P f us w (λe w'=>∃v,e=.returned v/\QR P ms w us xs G T X r os v w')
def Mz (b:Nat) (id:Id):Prop:=id.1=0/\b<=id.2
def Lm (w:World) (g:Nat):Be:=match w.heap[g]? with|some (.cells _ e _)=>⟨false,true,false,e,[]⟩|_=>⟨false,true,false,0,[]⟩
def XV (P:Program) (w:World) (g:Nat):GP:=match w.heap[g]? with|some (.cells cur e _)=>.Bn g cur.size 0 (P.cellsOf e)|_=>.emp
open Classical in
noncomputable def DM (b:Nat) (w:World) (X:Nat->Prop):St:=⟨λ_=>.undef,λid=>if id.1=0/\b<=id.2/\X (id.2 - b) then some (Lm w (id.2 - b)) else none,0⟩
open Classical in
noncomputable def CL (b:Nat) (P:Program) (w:World) (X:Nat->Prop):AZ:=λid=>if id.1=0/\b<=id.2/\X (id.2 - b) then some (XV P w (id.2 - b)) else none
theorem QS (b:Nat) (w:World) (X:Nat->Prop):Q4 (Mz b) ⟨λ_=>.undef,λ_=>none,0⟩ (DM b w X):=by
 refine⟨⟨rfl,λid Zu=>?_,λ_ _=>rfl⟩,rfl,λid bk hd hb=>?_⟩
 .simp only[DM]
  rw[Ai (λh=>Zu ⟨h.1,h.2.1⟩)]
 .simp only[DM] at hb
  split at hb
  .injection hb with hb
   subst hb;unfold Lm;split<;>rfl
  .cases hb
section
variable {P:Program} {M:X9} {C:Kr}
theorem QT {b:Nat} {w:World} {X T ok:Nat->Prop} {tmps:Array Value} {fl:List Nat} (hT:Mi w T) (hX:∀g,X g->∃cur e,w.heap[g]?=some (.cells cur e (0,0))) (BK:∀g∈fl,g < w.heap.size/\¬X g) (Cz:fl.Nodup):
  J0 P w.heap.size T w tmps (DM b w X) (CL b P w X) (λid=>[id.2 - b]) fl ok:=by
 have key:∀id k,(DM b w X).heap id=some k->id.1=0/\b<=id.2/\X (id.2 - b)/\k=Lm w (id.2 - b):=λid k hb=>by
  simp only[DM] at hb;split at hb
  .rename_i h;injection hb with hb;exact⟨h.1,h.2.1,h.2.2,hb.symm⟩
  .cases hb
 have lt:∀g,X g->g < w.heap.size:=λg hg=>by
  obtain⟨cur,e,h⟩:=hX g hg;exact (HM.1 h).1
 refine⟨λt v hv=>.undef,λt ht=>rfl,λid k hb=>?_,λid k hb ho g hg=>?_,λid k hb ho hc g hg=>?_,λid Ax k k' hb ho Y1 BS Yj g hg Yi=>?_,λid k hb ho=>by simp,λid Zu=>?_,⟨B2 _,hT.1,hT.2.1,λg hg=>hg.elim (hT.2.2 g) (λhh=>I1 hT.1 hh)⟩,λg hg=>(BK g hg).1,λid k hb ho g hg Yi=>?_,Cz⟩
 .obtain⟨h1,h2,h3,rfl⟩:=key id _ hb
  obtain⟨cur,e,h⟩:=hX _ h3;have hU:CL b P w X id=some (.Bn (id.2 - b) cur.size 0 (P.cellsOf e)):=by
   simp only[CL];rw[Ah ⟨h1,h2,h3⟩];simp only[XV,h]
  have DU:Lm w (id.2 - b)=⟨false,true,false,e,[]⟩:=by simp only[Lm,h]
  rw[hU,DU];exact .Cu rfl rfl rfl h (B2 _) (BM _) (by simp) (by simp) rfl (λhf=>by cases hf) (λ_=>⟨rfl,λk x hx=>by simp at hx⟩)
 .obtain⟨h1,h2,h3,rfl⟩:=key id _ hb
  rw[List.mem_singleton.1 hg];exact lt _ h3
 .obtain⟨h1,h2,h3,rfl⟩:=key id _ hb
  obtain⟨cur,e,h⟩:=hX _ h3;obtain⟨g1,o1,c1,z1,hi,hc⟩:=hc;simp only[CL] at hi;rw[Ah ⟨h1,h2,h3⟩] at hi;simp only[XV,h] at hi;injection hi with hi;injection hi with _ _ hi _;omega
 .obtain⟨h1,h2,h3,_⟩:=key id _ hb
  obtain⟨Lk,PK,h3',_⟩:=key Ax _ Y1;have e1:=List.mem_singleton.1 hg;have e2:=List.mem_singleton.1 Yi;apply Yj;obtain⟨i1,i2⟩:=id;obtain⟨j1,j2⟩:=Ax;simp only at*;rw[h1,Lk,show i2=j2 by omega]
 .simp only[CL] at Zu
  split at Zu
  .rename_i h;simp only[DM];omega
  .simp at Zu
 .obtain⟨h1,h2,h3,rfl⟩:=key id _ hb
  rw[List.mem_singleton.1 hg] at Yi;exact (BK _ Yi).2 h3
structure We (P:Program):Prop where
 mixed:P.follows .mixedOrders=true
 dst:∀(f:FuncId) (fn:Func) (c:Code),P.funcs[f]?=some fn->fn.body=some c->Fc fn.ntmps c=true
 name:∀(f:FuncId) (fn:Func),P.funcs[f]?=some fn->(fn.name == "runtime.NumGoroutine")=false
def Yv4:List Value->Value
 | [u]=>u
 | l=>.tuple l.toArray
theorem Y13 {fn:Func} {tmps:Array Value} {w:World} {us:List Value} (h:(fn.results.toList.mapM (QQ tmps)).run P w=.ok us w):
  (results fn tmps).run P w=.ok (Yv4 us) w:=by
 have e:results fn tmps=(fn.results.mapM (QQ tmps)) >>=λvs=>pure (if h:vs.size=1 then vs[0] else .tuple vs):=by
  unfold results
  congr 1
 rw[e,Array.mapM_eq_mapM_toList];simp only[Sem.run_bind,Sem.run_map,h,Result.andThen_ok,Sem.run_pure]
 match us with
 | []=>rfl
 | [u]=>rfl
 | u::v::l=>rfl
theorem Y9m {n m:Nat} (h:n<=m) {l:List Oper} (hl:Mw n l=true):Mw m l=true:=by
 unfold Mw at hl ⊢;rw[Cf] at hl ⊢;intro o ho;have:=hl o ho;cases hd:o.dst with
 | none=>rfl
 | some d=>
  rw[hd] at this;simp only[Bl] at this ⊢;exact Hq this h
theorem Y5o {n m:Nat} (h:n<=m):∀(c:Code),Fc n c=true->Fc m c=true:=by
 intro c
 induction c with
 | region id ops d=>exact Y9m h
 | seq a b yP yQ=>intro hc;simp only[Fc,Bh] at hc ⊢;exact⟨yP hc.1,yQ hc.2⟩
 | cond x a b yP yQ=>intro hc;simp only[Fc,Bh] at hc ⊢;exact⟨yP hc.1,yQ hc.2⟩
 | block i c ih=>intro hc;simp only[Fc] at hc ⊢;exact ih hc
 | loop c ih=>intro hc;simp only[Fc] at hc ⊢;exact ih hc
 | _=>intro _;rfl
theorem G5.C8 {w:World} {ok ok' top:Nat->Prop} {v:List Value} {x:List V} {fp:List Nat} (h:G5 P w ok top v x fp) (ht:∀g,ok g->ok' g):G5 P w ok' top v x fp:=by
 induction h with
 | nil=>exact .nil
 | cons h _ ih=>exact .cons (h.C8 ht) ih
theorem DD.QU {w:World} {ok top:Nat->Prop} {u:Value} {x:V} {fp:List Nat} (h:DD P w ok top u x fp):∀rs,x≠.AX rs:=by
 rintro rs rfl;cases h
theorem FE.of {w:World} {ok top:Nat->Prop} {us:List Value} {ys:List V} {fp:List Nat} (h:G5 P w ok top us ys fp):FE P w ok top (Yv4 us) (VH ys) fp:=by
 cases h with
 | nil=>exact⟨#[],rfl,.nil⟩
 | @cons u x us xs f1 f2 h hs=>
  cases hs with
  | nil=>
   rw[FZ];have:=h.QU;cases x<;>first|exact h|exact absurd rfl (this _)
  | @cons v y M0 xs' f3 f4 h2 Dv=>exact⟨(u::v::M0).toArray,rfl,.cons h (.cons h2 Dv)⟩
end
def QV (P:Program) (U:AZ) (u:Value) (x y:V):Prop:=∀id len,x=.sl id 0 len->∃g o c e rows,y=.own e rows/\U id=some (.Bn g o c (P.cellsOf e))/\u=.slice (some ⟨g,o,none⟩) len c/\0 < len
def Bk (P:Program) (U:AZ) (m:Yw) (u:Value) (x y:V):Prop:=
 match m with
 | .io=>∀id,x=.ptr id 0 0->∃cs g,y=.agg cs/\U id=some (.Bn g 0 1 cs.length)/\u=.pointer (some ⟨g,0,none⟩)
 | .EA=>(∃(us:Array Value) (xs ys:List V),thin x=.agg xs/\y=.agg ys/\u=.agg us/\us.size=xs.length/\ys.length=xs.length/\∀(j:Nat) (v:Value) (a b:V),us[j]?=some v->xs[j]?=some a->ys[j]?=some b->QV P U v a b)\/((∀cs,thin x≠.agg cs)/\(∀cs,y≠.agg cs)/\QV P U u (thin x) y)
 | _=>True
inductive M1 (P:Program) (U:AZ):List Yw->List Value->List V->List V->Prop
 | nil {ms:List Yw}:M1 P U ms [] [] []
 | cons {ms:List Yw} {u:Value} {us:List Value} {x y:V} {xs ys:List V} (h:Bk P U (ms.headD .rd) u x y) (hs:M1 P U ms.tail us xs ys):M1 P U ms (u::us) (x::xs) (y::ys)
def Ek:V->List Id
 | .sl id 0 _=>[id]
 | _=>[]
def QW:V->List Id
 | .agg cs=>cs.flatMap Ek
 | x=>Ek x
def Hb (m:Yw) (x:V):List Id:=match m with
 | .io=>match x with|.ptr id 0 0=>[id]|_=>[]
 | .EA=>QW (thin x)
 | _=>[]
def Ff:List Yw->List V->List Id
 | _,[]=>[]
 | ms,x::r=>Hb (ms.headD .rd) x++Ff ms.tail r
section
variable {P:Program} {B:Nat} {io:Nat->Prop} {w w':World} {tmps:Array Value} {s s' s1:St} {U U':AZ} {F F':Id->List Nat} {fl fl':List Nat} {ok ok' top:Nat->Prop}
theorem Yvd {t:Option TypeId} {x y:V} (h:s.AB t x=some (y,s')):(Ek x).Nodup/\∀id∈Ek x,s'.heap id=none/\∃b,s.heap id=some b:=by
 unfold Ek;split
 .rename_i id len
  refine⟨by simp,λAx Zu=>?_⟩;rw[List.mem_singleton.1 Zu];simp only[St.AB] at h;obtain⟨er,hw,he⟩:=AM.1 h;simp only[A7] at he;obtain⟨_,rfl⟩:=he;unfold St.whole at hw;obtain⟨b,hb,_⟩:=AA.1 hw;exact⟨Ke,b,hb⟩
 .exact⟨by simp,λid Zu=>by simp at Zu⟩
theorem XW {t:Option TypeId} {x y:V} (h:s.AB t x=some (y,s')):Wi s s':=by
 unfold St.AB at h;split at h
 .obtain⟨e,h1,he⟩:=AM.1 h
  simp only[A7] at he;rw[<-he.2];exact .refl _
 .simp only[AF,A7] at h;rw[<-h.2];exact .refl _
 .simp only[AF,A7] at h;rw[<-h.2];exact .refl _
 .simp only[AF,A7] at h;rw[<-h.2];exact .refl _
 .obtain⟨er,hw,he⟩:=AM.1 h
  simp only[A7] at he;rw[<-he.2];exact .kill _ _
 .cases h
theorem Yly {a b:List Id} {x z y:St} (ha:a.Nodup/\∀id∈a,z.heap id=none/\∃k,x.heap id=some k) (hb:b.Nodup/\∀id∈b,y.heap id=none/\∃k,z.heap id=some k) (h1:Wi x z) (h2:Wi z y):(a++b).Nodup/\∀id∈a++b,y.heap id=none/\∃k,x.heap id=some k:=by
 refine⟨EX.2 ⟨ha.1,hb.1,λi hi j hj e=>?_⟩,λid Zu=>?_⟩
 .subst e
  obtain⟨k,hk⟩:=(hb.2 i hj).2;rw[(ha.2 i hi).1] at hk;cases hk
 .rcases BP.1 Zu with h|h
  .exact⟨h2.none (ha.2 id h).1,(ha.2 id h).2⟩
  .obtain⟨k,hk⟩:=(hb.2 id h).2
   exact⟨(hb.2 id h).1,k,h1.sub id k hk⟩
theorem Yf9:∀{xs:List V} {s s':St} {ts:List (Option TypeId)} {ys:List V},s.AL ts xs=some (ys,s')->((xs.flatMap Ek).Nodup/\∀id∈xs.flatMap Ek,s'.heap id=none/\∃b,s.heap id=some b)/\Wi s s':=by
 intro xs
 induction xs with
 | nil=>
  intro s s' ts ys h;simp only[St.AL,AF,A7] at h;rw[<-h.2];exact⟨⟨by simp,λid Zu=>by simp at Zu⟩,.refl _⟩
 | cons x xs ih=>
  intro s s' ts ys h;simp only[St.AL] at h;obtain⟨⟨y1,s1⟩,h1,h⟩:=AA.1 h;obtain⟨⟨y2,s2⟩,h2,h⟩:=AM.1 h;simp only[A7] at h;obtain⟨_,rfl⟩:=h;obtain⟨i1,l1⟩:=ih h2;rw[FY];exact⟨Yly (Yvd h1) i1 (XW h1) l1,(XW h1).trans l1⟩
theorem Yw8 {ts:List (Option TypeId)} {id:Id} {ys:List V} (h:s.Bw ts id=some (ys,s')):(s'.heap id=none/\∃b,s.heap id=some b)/\Wi s s':=by
 unfold St.Bw at h;obtain⟨b,hb,h⟩:=AA.1 h;split at h
 .split at h
  .have:=(Yf9 h).2
   exact⟨⟨this.none Ke,b,hb⟩,(Wi.kill s id).trans this⟩
  .cases h
 .cases h
theorem Z84:∀{xs:List V} {s s':St} {ts:List (Option TypeId)} {ys:List V},s.AR ts xs=some (ys,s')->ys.length=xs.length/\Wi s s':=by
 intro xs
 induction xs with
 | nil=>
  intro s s' ts ys h;simp only[St.AR,AF,A7] at h;rw[<-h.1,<-h.2];exact⟨rfl,.refl _⟩
 | cons x xs ih=>
  intro s s' ts ys h;simp only[St.AR] at h;obtain⟨⟨y1,s1⟩,h1,h⟩:=AA.1 h;obtain⟨⟨y2,s2⟩,h2,h⟩:=AM.1 h;simp only[A7] at h;obtain⟨rfl,rfl⟩:=h;obtain⟨i1,l1⟩:=ih h2;refine⟨by simp[i1],Wi.trans ?_ l1⟩;unfold St.Bj at h1;split at h1
  .obtain⟨⟨cs,s4⟩,h3,he⟩:=AM.1 h1
   simp only[A7] at he;obtain⟨_,rfl⟩:=he;exact (Yw8 h3).2
  .exact XW h1
theorem Ytq {ts:List (Option TypeId)} {id:Id} {ys:List V} (h:s.Bg ts id=some (ys,s')):(s'.heap id=none/\∃b,s.heap id=some b)/\Wi s s':=by
 unfold St.Bg at h;obtain⟨b,hb,h⟩:=AA.1 h;split at h
 .split at h
  .have:=(Z84 h).2
   exact⟨⟨this.none Ke,b,hb⟩,(Wi.kill s id).trans this⟩
  .cases h
 .cases h
theorem Ygf {ts:List (Option TypeId)} {x y:V} (h:s.Bb ts x=some (y,s')):((QW x).Nodup/\∀id∈QW x,s'.heap id=none/\∃b,s.heap id=some b)/\Wi s s':=by
 unfold St.Bb at h;split at h
 .obtain⟨⟨ys,s2⟩,h1,he⟩:=AM.1 h
  simp only[A7] at he;obtain⟨_,rfl⟩:=he;exact Yf9 h1
 .rename_i Yj
  refine⟨?_,XW h⟩;unfold QW;split
  .rename_i cs;exact absurd rfl (Yj cs)
  .exact Yvd h
theorem yR:∀{xs:List V} {s s':St} {ts:List TypeId} {ms:List Yw} {ys:List V},s.Bt P ts ms xs=some (ys,s')->((Ff ms xs).Nodup/\∀id∈Ff ms xs,s'.heap id=none/\∃b,s.heap id=some b)/\Wi s s':=by
 intro xs
 induction xs with
 | nil=>
  intro s s' ts ms ys h;simp only[St.Bt,AF,A7] at h;rw[<-h.2];exact⟨⟨by simp[Ff],λid Zu=>by simp[Ff] at Zu⟩,.refl _⟩
 | cons x xs ih=>
  intro s s' ts ms ys h;simp only[St.Bt] at h;obtain⟨⟨y1,s1⟩,h1,h⟩:=AA.1 h;obtain⟨⟨y2,s2⟩,h2,h⟩:=AM.1 h;simp only[A7] at h;obtain⟨_,rfl⟩:=h;obtain⟨i1,l1⟩:=ih h2;have one:((Hb (ms.headD .rd) x).Nodup/\∀id∈Hb (ms.headD .rd) x,s1.heap id=none/\∃b,s.heap id=some b)/\Wi s s1:=by
   unfold St.Dl at h1;unfold Hb;split at h1
   .rename_i hm
    rw[hm];simp only[AF,A7] at h1;rw[<-h1.2];exact⟨⟨by simp,λid Zu=>by simp at Zu⟩,.refl _⟩
   .rename_i hm
    rw[hm];split at h1
    .obtain⟨⟨cs,s4⟩,h3,he⟩:=AM.1 h1
     simp only[A7] at he;obtain⟨_,rfl⟩:=he;have:=Ytq h3;exact⟨⟨by simp,λid Zu=>by rw[List.mem_singleton.1 Zu];exact this.1⟩,this.2⟩
    .cases h1
   .rename_i hm
    rw[hm];exact⟨⟨by simp,λid Zu=>by simp at Zu⟩,(Ygf h1).2⟩
   .rename_i hm
    rw[hm];exact Ygf h1
  unfold Ff;exact⟨Yly one.1 i1 one.2 l1,one.2.trans l1⟩
theorem Y9s (h:Rel P B io w tmps s U F fl) (hl:Wi s s1) {u:Value} {x y:V} {t:Option TypeId} (hu:En w (AI s U w) U u x) (hx:∀id,x≠.sl id 0 0) (hg:s1.AB t x=some (y,s')):QV P U u x y:=by
 rintro id len rfl;simp only[St.AB] at hg;obtain⟨⟨e,rows⟩,hw,he⟩:=AM.1 hg;simp only[A7] at he;obtain⟨rfl,_⟩:=he;unfold St.whole at hw;obtain⟨b,hb,hw⟩:=AA.1 hw;split at hw
 .rename_i hc
  simp only[AF,A7] at hw;obtain⟨rfl,rfl⟩:=hw;have hB:=h.heap id b (hl.sub id b hb);cases hu with
  | sle=>exact absurd rfl (hx id)
  | @sl _ g o c sz _ _ hU Co=>
   have Yp:0 < len:=vP λe=>by subst e;exact hx id rfl
   rw[hU] at hB;unfold Xw at hB;rw[hc.1,hc.2.1] at hB;rcases hB with⟨hi,_⟩|⟨g',o',c',cur,hi,_⟩
   .cases hi
   .cases hi
    exact⟨g,o,c,b.el,_,rfl,hU,by simp,Yp⟩
 .cases hw
theorem Yx7 (x:V):∀id,BY x≠.sl id 0 0:=λid e=>by
 unfold BY at e;split at e
 .cases e
 .rename_i Yj;subst e;exact Yj id 0 rfl
theorem Yup:∀{xs:List V} {s s':St} {ts:List (Option TypeId)} {ys:List V},s.AL ts xs=some (ys,s')->ys.length=xs.length/\∀(j:Nat) (a b:V),xs[j]?=some a->ys[j]?=some b->∃s1 s2 t,Wi s s1/\s1.AB t a=some (b,s2):=by
 intro xs
 induction xs with
 | nil=>
  intro s s' ts ys h;simp only[St.AL,AF,A7] at h;rw[<-h.1];exact⟨rfl,λj a b ha=>by simp at ha⟩
 | cons x xs ih=>
  intro s s' ts ys h;simp only[St.AL] at h;obtain⟨⟨y1,s1⟩,h1,h⟩:=AA.1 h;obtain⟨⟨y2,s2⟩,h2,h⟩:=AM.1 h;simp only[A7] at h;obtain⟨rfl,rfl⟩:=h;obtain⟨i1,i2⟩:=ih h2;refine⟨by simp[i1],λj a b ha hb=>?_⟩;cases j with
  | zero=>
   have e1:x=a:=by simpa using ha
   have e2:y1=b:=by simpa using hb
   subst e1;subst e2;exact⟨s,s1,_,.refl _,h1⟩
  | succ j=>
   obtain⟨s3,s4,t,k1,k2⟩:=i2 j a b (by simpa using ha) (by simpa using hb);exact⟨s3,s4,t,(XW h1).trans k1,k2⟩
theorem Xcr (h:Rel P B io w tmps s U F fl):∀{xs:List V} {us:List Value} {s1 s':St} {ts:List TypeId} {ms:List Yw} {ys:List V},Wi s s1->us.length=xs.length->(∀(j:Nat) (u:Value) (x:V),us[j]?=some u->xs[j]?=some x->En w (AI s U w) U u x)->
  s1.Bt P ts ms xs=some (ys,s')->M1 P U ms us xs ys:=by
 intro xs
 induction xs with
 | nil=>
  intro us s1 s' ts ms ys hl Yp Wa hg;have:us=[]:=GK (by simpa using Yp);subst this;simp only[St.Bt,AF,A7] at hg;rw[<-hg.1];exact .nil
 | cons x xs ih=>
  intro us s1 s' ts ms ys hl Yp Wa hg
  match us,Yp with
  | u::us,Yp=>
   have Je:=yR hg;simp only[St.Bt] at hg;obtain⟨⟨y,s2⟩,h1,hg⟩:=AA.1 hg;obtain⟨⟨zs,s3⟩,h2,hg⟩:=AM.1 hg;simp only[A7] at hg;obtain⟨rfl,rfl⟩:=hg;have hu:=Wa 0 u x rfl rfl;have CK:Wi s1 s2:=by
    have:=(yR (P:=P) (xs:=[x]) (s:=s1) (s':=s2) (ts:=ts) (ms:=ms) (ys:=[y]) (by simp only[St.Bt];rw[h1];rfl)).2;exact this
   refine .cons ?_ (ih (hl.trans CK) (by simpa using Yp) (λj v z hv hz=>Wa (j+1) v z (by simpa using hv) (by simpa using hz)) h2);unfold St.Dl at h1;unfold Bk;split at h1
   .rename_i hm;rw[hm];exact trivial
   .rename_i hm
    rw[hm];rintro id rfl;simp only at h1;obtain⟨⟨cs,s4⟩,h3,he⟩:=AM.1 h1;simp only[A7] at he;obtain⟨rfl,rfl⟩:=he;unfold St.Bg at h3;obtain⟨b,hb,h3⟩:=AA.1 h3;split at h3
    .rename_i hc
     split at h3
     .rename_i row hr
      have hB:=h.heap id b (hl.sub id b hb);unfold Xw at hB;rw[hc.1] at hB;obtain⟨_,g,cur,e,Ck,hi,Ei,Cl,hs,_⟩:=hB;rw[hr] at Cl;injection Cl with Cl _;subst Cl;generalize hq:V.ptr id 0 0=q at hu;cases hu<;>cases hq;rename_i g' o' c' sz hU;rw[hi] at hU;injection hU with hU;injection hU with e1 e2 e3 e4;subst e1;subst e2;exact⟨cs,g,rfl,by rw[hi,(Z84 h3).1],by simp⟩
     .cases h3
    .cases h3
   .rename_i hm;rw[hm];exact trivial
   .rename_i hm
    rw[hm];have QX:=hu.thin;have Yj:∀cs,thin x=.agg cs->∀c∈cs,∀id,c≠.sl id 0 0:=λcs BQ c hc id=>by
     unfold thin at BQ;split at BQ
     .injection BQ with BQ
      subst BQ;obtain⟨z,_,rfl⟩:=D7.1 hc;exact Yx7 z id
     .rename_i IB
      unfold BY at BQ;split at BQ
      .cases BQ
      .exact absurd BQ (IB cs)
    have XX:(∀cs,thin x≠.agg cs)->∀id,thin x≠.sl id 0 0:=λIB id=>by
     unfold thin at IB ⊢;split
     .simp
     .exact Yx7 x id
    generalize thin x=tx at h1 QX Yj XX;unfold St.Bb at h1;split at h1
    .rename_i cs
     obtain⟨⟨ys,s4⟩,h3,he⟩:=AM.1 h1;simp only[A7] at he;obtain⟨rfl,rfl⟩:=he;cases QX with
     | @agg vs _ W3 Co hr=>
      obtain⟨g1,g2⟩:=Yup h3;refine .inl ⟨vs,cs,ys,rfl,rfl,rfl,W3,g1,λj v a b hv ha hb=>?_⟩;obtain⟨s5,s6,t,k1,k2⟩:=g2 j a b ha hb;exact Y9s h (hl.trans k1) (hr j v a hv ha) (Yj cs rfl a (E8 ha)) k2
    .rename_i IB
     refine .inr ⟨IB,λcs e=>?_,Y9s h hl QX (XX IB) h1⟩;subst e;unfold St.AB at h1;split at h1<;>simp at h1
end
section
variable {P:Program} {B:Nat} {io:Nat->Prop} {w w':World} {tmps:Array Value} {s s' s1:St} {U U':AZ} {F F':Id->List Nat} {fl fl':List Nat} {ok ok' top:Nat->Prop}
theorem Xep {f1:List Nat} (h:J0 P B io w tmps s U F (f1++fl) ok) {id:Id} {len:Nat} {u:Value} {y:V} {e:TypeId} {rows Bu:List (List V)} (hb:QV P U u (.sl id 0 len) (.own e rows)) (hO:NK P w e u Bu f1) (ht:∀g,f1.head?=some g->top g) (Wf:∀g,top g->io g\/B<=g) (hn:s.heap id=none):
  ∃F',C9 P B io w tmps s U fl ok top (λAx=>Ax=id) (s.A6 id ⟨false,true,true,e,Bu⟩) U F':=by
 obtain⟨g,o,c,e',r,hy,hU,hu,Yp⟩:=hb id len rfl;injection hy with hy _;subst hy;rcases hO with⟨A,rfl,rfl,rfl⟩|⟨g',o',c',cur,BT,hv,hg,hl,hm,Ca,hz,T2,rfl⟩
 .injection hu with _ hu _;omega
 .rw[hu] at hv
  injection hv with hv CK hc;injection hv with hv;injection hv with e1 e2 _;subst e1;subst e2;subst hc;have Yo:id.1<=s.ep:=h.CB id (by rw[hU];rfl);refine⟨_,h.add hn Yo (λ_ _ h=>h) (λ_ _=>rfl) (by rw[hU];exact .Cu rfl rfl rfl hg hl hm Ca hz rfl (λ_=>T2) (λhf=>by cases hf)) (λ_ g' Yi=>Wf g' (ht g' Yi)),λ_ _ h=>h,λ_ h=>.inl h,rfl,rfl,λAx e=>X8 e,λg' Yi=>?_⟩;rcases XF (λ_ _=>rfl) Yi with h1|⟨_,o2,c2,z2,h1⟩
  .exact .inl h1
  .rw[hU] at h1
   injection h1 with h1;injection h1 with h1;subst h1;exact .inr (ht _ rfl)
theorem Yd4:∀(xs:List V) {us:List Value} {ys ns:List V} {s s':St} {F:Id->List Nat} {fo fl:List Nat},J0 P B io w tmps s U F (fo++fl) ok->H2 P w top us ys ns fo->us.length=xs.length->ys.length=xs.length->
  (∀(j:Nat) (v:Value) (a b:V),us[j]?=some v->xs[j]?=some a->ys[j]?=some b->QV P U v a b)->(∀g,top g->io g\/B<=g)->(xs.flatMap Ek).Nodup->(∀id∈xs.flatMap Ek,s.heap id=none)->s.AO xs ns=some s'->
  ∃F',C9 P B io w tmps s U fl ok top (λid=>id∈xs.flatMap Ek) s' U F':=by
 intro xs
 induction xs with
 | nil=>
  intro us ys ns s s' F fo fl h ho hl hly _ _ _ _ hs;simp only[St.AO,AF] at hs;subst hs;have:us=[]:=GK (by simpa using hl);subst this;cases ho;exact⟨F,(C9.refl h).mono (λ_ h=>h.elim)⟩
 | cons x xs ih=>
  intro us ys ns s s' F fo fl h ho hl hly DU Wf Dc Fg hs;rw[FY] at Dc Fg;have TE:=EX.1 Dc;have rest:∀{u:Value} {M0:List Value} {y:V} {QM:List V} {n:V} {XY:List V} {s2:St} {F2:Id->List Nat} {f2:List Nat},us=u::M0->ys=y::QM->J0 P B io w tmps s2 U F2 (f2++fl) ok->H2 P w top M0 QM XY f2->(∀id∈xs.flatMap Ek,s2.heap id=none)->s2.AO xs XY=some s'->
    ∃F',C9 P B io w tmps s2 U fl ok top (λid=>id∈xs.flatMap Ek) s' U F':=by
   intro u M0 y QM n XY s2 F2 f2 e1 e2 h2 HV QE Dv;subst e1;subst e2;exact ih h2 HV (by simpa using hl) (by simpa using hly) (λj v a b hv ha hb=>DU (j+1) v a b (by simpa using hv) (by simpa using ha) (by simpa using hb)) Wf TE.2.1 QE Dv
  have yS:∀id∈xs.flatMap Ek,s.heap id=none:=λid Zu=>Fg id (D3 _ Zu);cases ho with
  | nil=>simp at hl
  | @own u e rows Bu M0 QM XY f1 f2 hO ht Dv=>
   rw[List.append_assoc] at h;unfold St.AO at hs;split at hs
   .rename_i heq;cases heq
   .rename_i id len os1 e2 r2 ns2 Li QY
    injection Li with a1 a2;subst a1;subst a2;injection QY with b1 b2;injection b1 with b1 b3;subst b1;subst b3;subst b2;obtain⟨F1,t1⟩:=Xep (fl:=f2++fl) (y:=.undef) h (DU 0 u _ _ rfl rfl rfl) hO ht Wf (Fg id (CH _ (by simp[Ek])));obtain⟨F2,t2⟩:=rest (n:=.undef) rfl rfl t1.rel Dv (λAx H3=>by
     rw[t1.heap Ax (λe=>by
      subst e;exact TE.2.2 _ (by simp[Ek]) _ H3 rfl)]
     exact yS Ax H3) hs
    refine⟨F2,(t1.trans t2).mono (λAx H3=>?_)⟩;rw[FY];rcases H3 with rfl|H3
    .exact CH _ (by simp[Ek])
    .exact D3 _ H3
   .rename_i Li QY
    injection Li with a1 a2;subst a1;subst a2;injection QY with b1 b2;subst b2;obtain⟨F2,t2⟩:=rest (n:=.undef) rfl rfl (h.less (Ix _ _)) Dv yS hs;exact⟨F2,t2.mono (λAx H3=>by rw[FY];exact D3 _ H3)⟩
   .cases hs
  | @skip u y M0 QM XY f hx Dv=>
   unfold St.AO at hs;split at hs
   .rename_i heq;cases heq
   .rename_i Li QY
    injection QY with b1 b2;cases b1
   .rename_i Li QY
    injection Li with a1 a2;subst a1;subst a2;injection QY with b1 b2;subst b2;obtain⟨F2,t2⟩:=rest (n:=.undef) rfl rfl h Dv yS hs;exact⟨F2,t2.mono (λAx H3=>by rw[FY];exact D3 _ H3)⟩
   .cases hs
theorem Xe5 {fo:List Nat} (h:J0 P B io w tmps s U F (fo++fl) ok) {m:Yw} {e k:Nat} {u:Value} {x y o:V} (hb:Bk P U m u x y) (ho:My P w ok top m u y o fo) (Wf:∀g,top g->io g\/B<=g) (Yo:e<=s.ep) (Xa:∀j,64*k<=j->j < 64*k+64->U (e,j)=none/\s.heap (e,j)=none)
  (Dc:(Hb m x).Nodup) (Fg:∀id∈Hb m x,s.heap id=none) (hs:s.back m e k x o=some s'):
  ∃U' F',C9 P B io w tmps s U fl ok top (λid=>(id.1=e/\64*k<=id.2/\id.2 < 64*k+64)\/id∈Hb m x) s' U' F':=by
 unfold St.back at hs;split at hs
 .simp only[AF] at hs
  subst hs;have:fo=[]:=ho;subst this;exact⟨U,F,(C9.refl h).mono (λ_ h=>h.elim)⟩
 .simp only[AF] at hs
  subst hs;have:fo=[]:=ho;subst this;exact⟨U,F,(C9.refl h).mono (λ_ h=>h.elim)⟩
 .split at hs
  .rename_i id GV
   split at hs
   .rename_i hl62
    obtain⟨⟨zs,s2⟩,h1,rfl⟩:=AM.1 hs;obtain⟨cs,g,rfl,hU,hu⟩:=hb id rfl;obtain⟨cs0,cs1,e1,e2,Yp,g',cur,et,BT,Cn,Ei,GW,rfl,IT⟩:=ho;injection e1 with e1;injection e2 with e2;subst e1;subst e2;rw[hu] at Cn;injection Cn with Cn;injection Cn with Cn;injection Cn with Cn _ _;subst Cn;have xZ:((BT++([g]++fl)):List Nat).Perm (g::BT++fl):=Tu;obtain⟨U1,F1,t,l,c,en⟩:=Yc7 GV (fl:=[g]++fl) (h.perm xZ) GW Wf Yo (λj hj Ya=>Xa j hj (by omega)) h1;have yT:s.heap id=none:=Fg id (by simp[Hb]);have hidJ:¬(id.1=e/\64*k<=id.2/\id.2 < 64*k+wt GV):=λhh=>by
     have:=(Xa id.2 hh.2.1 (by omega)).1;rw[<-hh.1] at this;rw[show (id.1,id.2)=id from rfl,hU] at this;cases this
    have EE:U1 id=some (.Bn g 0 1 zs.length):=by
     rw[t.ext id _ hU];have:zs.length=cs.length:=by rw[<-l,<-Yp];exact GW.length
     rw[this]
    have HW:=t.rel.add (fp:=[g]) (fl:=fl) (id:=id) (U':=U1) (b:=⟨true,true,true,0,[zs]⟩) (by rw[t.heap _ hidJ];exact yT) (by rw[t.ep];exact h.CB id (by rw[hU];rfl)) (λ_ _ h=>h) (λ_ _=>rfl) (by
     rw[EE];exact .I9 rfl rfl rfl Ei rfl (by simpa using l) (λj v z hv hz=>en j v z (by simpa using hv) hz) c rfl) (λ_ g' Yi=>by
     have:g=g':=by simpa using Yi
     subst this;exact Wf g IT)
    refine⟨U1,_,⟨HW,t.ext,λAx hi=>?_,t.env,t.ep,λAx H3=>?_,λg' Yi=>?_⟩⟩
    .rcases t.CB Ax hi with hh|hh
     .exact .inl hh
     .exact .inr (.inl ⟨hh.1,hh.2.1,by omega⟩)
    .rw[X8 (λe=>H3 (.inr (by rw[e];simp[Hb])))]
     exact t.heap Ax (λhh=>H3 (.inl ⟨hh.1,hh.2.1,by omega⟩))
    .rcases XF (λ_ _=>rfl) Yi with h3|⟨_,o2,c2,z2,h3⟩
     .exact t.AK g' h3
     .rw[EE] at h3
      injection h3 with h3;injection h3 with h3;subst h3;exact .inr IT
   .cases hs
  .cases hs
 .unfold Bk at hb
  unfold My at ho;unfold Hb at Dc Fg ⊢;simp only at hb ho Dc Fg ⊢;rcases hb with⟨us,xs,ys,ht,rfl,rfl,W3,T4,DU⟩|⟨yU,hny,DU⟩
  .rw[ht] at hs Dc Fg ⊢
   simp only[QW] at Dc Fg ⊢;rcases ho with⟨M0,cs,ns,e1,e2,rfl,hO⟩|⟨Yj,_⟩
   .injection e1 with e1
    injection e2 with e2;subst e1;subst e2;simp only at hs;obtain⟨F',t⟩:=Yd4 xs h hO (by simpa using W3) T4 (λj v a b hv ha hb=>DU j v a b (by simpa using hv) ha hb) Wf Dc Fg hs;exact⟨U,F',t.mono (λid Zu=>.inr Zu)⟩
   .exact absurd rfl (Yj ys)
  .rcases ho with⟨M0,cs,ns,e1,_⟩|⟨_,hO⟩
   .exact absurd e1 (hny cs)
   .generalize thin x=tx at hs Dc Fg yU DU
    have HR:s.AO [tx] [o]=some s':=by
     split at hs
     .rename_i cs ns;exact absurd rfl (yU cs)
     .exact hs
    have yV:([tx].flatMap Ek)=Ek tx:=by simp
    have hm:QW tx=Ek tx:=by
     cases tx<;>first|rfl|exact absurd rfl (yU _)
    rw[hm] at Dc Fg;obtain⟨F',t⟩:=Yd4 [tx] h hO rfl rfl (λj v a b hv ha hb=>by
     cases j with
     | zero=>
      have e1:u=v:=by simpa using hv
      have e2:tx=a:=by simpa using ha
      have e3:y=b:=by simpa using hb
      subst e1;subst e2;subst e3;exact DU
     | succ j=>simp at hv) Wf (by rw[yV];exact Dc) (by rw[yV];exact Fg) HR
    exact⟨U,F',t.mono (λid Zu=>.inr (by rw[hm];rw[yV] at Zu;exact Zu))⟩
theorem Y3p {m:Yw} {u:Value} {x y:V} (hb:Bk P U m u x y) {w:World} (hu:En w ok U u x):∀id∈Hb m x,(U id).isSome=true:=by
 intro id Zu;unfold Hb at Zu;split at Zu
 .split at Zu
  .rename_i Ax
   rw[List.mem_singleton.1 Zu];obtain⟨cs,g,_,hU,_⟩:=hb Ax rfl;rw[hU];rfl
  .simp at Zu
 .have QX:=hu.thin
  have one:∀{v:Value} {c:V},En w ok U v c->id∈Ek c->(U id).isSome=true:=λ{v c} hv hc=>by
   unfold Ek at hc;split at hc
   .rw[List.mem_singleton.1 hc]
    cases hv with
    | sl h=>rw[h];rfl
    | sle h=>exact h
   .simp at hc
  unfold QW at Zu;split at Zu
  .rename_i cs BQ
   rw[BQ] at QX;obtain⟨c,hc,Zu⟩:=List.mem_flatMap.1 Zu;cases QX with
   | @agg vs _ hl _ hr=>
    obtain⟨j,hj⟩:=HN hc;have Ya:=(Dg.1 hj).1;exact one (hr j _ c (Var (by omega)) hj) Zu
  .exact one QX Zu
 .simp at Zu
theorem Xbl {e:Nat}:∀(xs:List V) {us:List Value} {ys os:List V} {ms:List Yw} {k:Nat} {s s':St} {U:AZ} {F:Id->List Nat} {fo fl:List Nat},J0 P B io w tmps s U F (fo++fl) ok->M1 P U ms us xs ys->FD P w ok top ms us ys os fo->
  (∀(j:Nat) (u:Value) (x:V),us[j]?=some u->xs[j]?=some x->∃w ok,En w ok U u x)->(∀g,top g->io g\/B<=g)->e<=s.ep->(∀j,64*k<=j->j < 64*(k+xs.length)->U (e,j)=none/\s.heap (e,j)=none)->
  (Ff ms xs).Nodup->(∀id∈Ff ms xs,s.heap id=none)->s.BF e ms k xs os=some s'->
  ∃U' F',C9 P B io w tmps s U fl ok top (λid=>(id.1=e/\64*k<=id.2/\id.2 < 64*(k+xs.length))\/id∈Ff ms xs) s' U' F':=by
 intro xs
 induction xs with
 | nil=>
  intro us ys os ms k s s' U F fo fl h hb ho Wa Wf Yo Xa Dc Fg hs;cases hb;cases ho;simp only[St.BF,AF] at hs;subst hs;exact⟨U,F,(C9.refl h).mono (λ_ h=>h.elim)⟩
 | cons x xs ih=>
  intro us ys os ms k s s' U F fo fl h hb ho Wa Wf Yo Xa Dc Fg hs;simp only[AP] at Xa;cases hb with
  | @cons _ u us _ y _ ys hb Lg=>
   cases ho with
   | @cons _ _ _ _ o _ os f1 f2 ho yW=>
    simp only[St.BF] at hs;obtain⟨s1,h1,hs⟩:=AA.1 hs;unfold Ff at Dc Fg;have TE:=EX.1 Dc;rw[List.append_assoc] at h;obtain⟨U1,F1,t1⟩:=Xe5 h hb ho Wf Yo (λj hj Ya=>Xa j hj (by omega)) TE.1 (λid Zu=>Fg id (CH _ Zu)) h1;have VQ:∀id∈Ff ms.tail xs,(U id).isSome=true:=by
     have key:∀{xs:List V} {ms:List Yw} {us:List Value} {ys:List V},M1 P U ms us xs ys->(∀(j:Nat) (u:Value) (x:V),us[j]?=some u->xs[j]?=some x->∃w ok,En w ok U u x)->∀id∈Ff ms xs,(U id).isSome=true:=by
      intro xs ms us ys hb
      induction hb with
      | nil=>intro _ id Zu;simp[Ff] at Zu
      | cons h _ ih=>
       intro Wa id Zu;unfold Ff at Zu;rcases BP.1 Zu with Zu|Zu
       .obtain⟨w',QZ,hu⟩:=Wa 0 _ _ rfl rfl
        exact Y3p h hu id Zu
       .exact ih (λj u x hu hx=>Wa (j+1) u x (by simpa using hu) (by simpa using hx)) id Zu
     exact key Lg (λj u x hu hx=>Wa (j+1) u x (by simpa using hu) (by simpa using hx))
    have Xfu:∀id∈Hb (ms.headD .rd) x,(U id).isSome=true:=λid Zu=>by
     obtain⟨w',QZ,hu⟩:=Wa 0 _ _ rfl rfl;exact Y3p hb hu id Zu
    have XZ:∀j,64*(k+1)<=j->j < 64*(k+1+xs.length)->U1 (e,j)=none/\s1.heap (e,j)=none:=λj hj Ya=>by
     obtain⟨a1,a2⟩:=Xa j (by omega) (by omega);have YA:¬((((e,j):Id).1=e/\64*k<=((e,j):Id).2/\((e,j):Id).2 < 64*k+64)\/(e,j)∈Hb (ms.headD .rd) x):=λhh=>by
      rcases hh with hh|hh
      .have:=hh.2.2;simp only at this;omega
      .have:=Xfu _ hh;rw[a1] at this;cases this
     refine⟨?_,by rw[t1.heap _ YA];exact a2⟩;cases hr:U1 (e,j) with
     | none=>rfl
     | some i=>
      rcases t1.CB (e,j) (by rw[hr];rfl) with hh|hh
      .rw[a1] at hh;cases hh
      .exact absurd hh YA
    have YB:M1 P U1 ms.tail us xs ys:=by
     have ce:∀{v:Value} {a b:V},QV P U v a b->QV P U1 v a b:=λhb id len hx=>by
      obtain⟨g,o,c,e,rows,h1,h2,h3⟩:=hb id len hx;exact⟨g,o,c,e,rows,h1,t1.ext _ _ h2,h3⟩
     have one:∀{m:Yw} {u:Value} {x y:V},Bk P U m u x y->Bk P U1 m u x y:=λ{m u x y} hb=>by
      cases m
      .exact trivial
      .intro id hx
       obtain⟨cs,g,h1,h2,h3⟩:=hb id hx;exact⟨cs,g,h1,t1.ext _ _ h2,h3⟩
      .exact trivial
      .rcases hb with⟨us,xs,ys,h1,h2,h3,h4,h5,h6⟩|⟨h1,h2,h3⟩
       .exact .inl ⟨us,xs,ys,h1,h2,h3,h4,h5,λj v a b hv ha hb=>ce (h6 j v a b hv ha hb)⟩
       .exact .inr ⟨h1,h2,ce h3⟩
     have key:∀{xs:List V} {ms:List Yw} {us:List Value} {ys:List V},M1 P U ms us xs ys->M1 P U1 ms us xs ys:=by
      intro xs ms us ys hb
      induction hb with
      | nil=>exact .nil
      | cons h _ ih=>exact .cons (one h) ih
     exact key Lg
    obtain⟨U2,F2,t2⟩:=ih t1.rel YB yW (λj u x hu hx=>by
     obtain⟨w',QZ,Cn⟩:=Wa (j+1) u x (by simpa using hu) (by simpa using hx);exact⟨w',QZ,Cn.ext (λ_ h=>h) t1.ext⟩) Wf (by rw[t1.ep];exact Yo) XZ TE.2.1 (λid Zu=>by
     rw[t1.heap id (λhh=>by
      rcases hh with hh|hh
      .have:=(Xa id.2 hh.2.1 (by omega)).1
       rw[<-hh.1,show (id.1,id.2)=id from rfl] at this;have h2:=VQ id Zu;rw[this] at h2;cases h2
      .exact TE.2.2 id hh id Zu rfl)]
     exact Fg id (D3 _ Zu)) hs
    refine⟨U2,F2,(t1.trans t2).mono (λid Zu=>?_)⟩;rcases Zu with (Zu|Zu)|(Zu|Zu)
    .exact .inl ⟨Zu.1,Zu.2.1,by simp only[AP];omega⟩
    .exact .inr (by unfold Ff;exact CH _ Zu)
    .exact .inl ⟨Zu.1,by omega,by simp only[AP];omega⟩
    .exact .inr (by unfold Ff;exact D3 _ Zu)
theorem Y66 {e:Nat}:∀(xs:List V) {us:List Value} {k:Nat} {fp fl:List Nat} {s s':St} {U:AZ} {F:Id->List Nat} {ys:List V},J0 P B io w tmps s U F (fp++fl) ok->G5 P w ok top us xs fp->(∀g,top g->io g\/B<=g)->e<=s.ep->
  (∀j,64*k<=j->j < 64*(k+xs.length)->U (e,j)=none/\s.heap (e,j)=none)->s.Bx e k xs=some (ys,s')->
  ∃U' F',C9 P B io w tmps s U fl ok top (λid=>id.1=e/\64*k<=id.2/\id.2 < 64*(k+xs.length)) s' U' F'/\us.length=ys.length/\(∀(j:Nat) (u:Value) (y:V),us[j]?=some u->ys[j]?=some y->En w ok U' u y):=by
 intro xs
 induction xs with
 | nil=>
  intro us k fp fl s s' U F ys h hg Wf Yo Xa ht;cases hg;simp only[St.Bx,AF,A7] at ht;obtain⟨rfl,rfl⟩:=ht;exact⟨U,F,(C9.refl h).mono (λ_ h=>h.elim),rfl,λj u y hu=>by simp at hu⟩
 | cons x xs ih=>
  intro us k fp fl s s' U F ys h hg Wf Yo Xa ht;simp only[AP] at Xa;cases hg with
  | @cons u _ us _ f1 f2 hg XG=>
   simp only[St.Bx] at ht;obtain⟨⟨y,s1⟩,h1,ht⟩:=AA.1 ht;obtain⟨⟨zs,s2⟩,h2,ht⟩:=AM.1 ht;simp only[A7] at ht;obtain⟨rfl,rfl⟩:=ht;simp only at h2;obtain⟨U1,F1,t1,e1⟩:=xY (fl:=f2++fl) (by rw[<-List.append_assoc];exact h) hg Wf Yo (λj hj Ya=>Xa j hj (by omega)) h1;obtain⟨U2,F2,t2,l2,e2⟩:=ih t1.rel XG Wf (by rw[t1.ep];exact Yo) (λj hj Ya=>by
    obtain⟨a1,a2⟩:=Xa j (by omega) (by omega);have Yj:¬(((e,j):Id).1=e/\64*k<=((e,j):Id).2/\((e,j):Id).2 < 64*k+64):=λhh=>by have:=hh.2.2;simp only at this;omega
    refine⟨?_,by rw[t1.heap _ Yj];exact a2⟩;cases hr:U1 (e,j) with
    | none=>rfl
    | some i=>
     rcases t1.CB (e,j) (by rw[hr];rfl) with hh|hh
     .rw[a1] at hh;cases hh
     .exact absurd hh Yj) h2
   refine⟨U2,F2,(t1.trans t2).mono (λid Zu=>?_),by simp[l2],λj u' z hu hz=>?_⟩
   .rcases Zu with⟨a,b,c⟩|⟨a,b,c⟩
    .exact⟨a,b,by simp only[AP];omega⟩
    .exact⟨a,by omega,by simp only[AP];omega⟩
   .cases j with
    | zero=>
     have a1:u=u':=by simpa using hu
     have a2:y=z:=by simpa using hz
     subst a1;subst a2;exact e1.ext (λ_ h=>h) t2.ext
    | succ j=>exact e2 j u' z (by simpa using hu) (by simpa using hz)
theorem Y6s {fp:List Nat} (h:J0 P B io w tmps s U F (fp++fl) ok) {u:Value} {x y:V} (hg:FE P w ok top u x fp) (Wf:∀g,top g->io g\/B<=g) {e k:Nat} (Yo:e<=s.ep) (Xa:∀j,64*k<=j->j < 64*(k+8)->U (e,j)=none/\s.heap (e,j)=none) (ht:s.BB e k x=some (y,s')):
  ∃U' F',C9 P B io w tmps s U fl ok top (λid=>id.1=e/\64*k<=id.2/\id.2 < 64*(k+8)) s' U' F'/\En w ok U' u y:=by
 unfold St.BB at ht;split at ht
 .rename_i vs
  split at ht
  .rename_i hl
   obtain⟨⟨ys,s1⟩,h1,he⟩:=AM.1 ht;simp only[A7] at he;obtain⟨rfl,rfl⟩:=he;obtain⟨us,rfl,GW⟩:=hg;obtain⟨U',F',t,l,en⟩:=Y66 vs h GW Wf Yo (λj hj Ya=>Xa j hj (by omega)) h1;exact⟨U',F',t.mono (λid Zu=>⟨Zu.1,Zu.2.1,by omega⟩),.AX (by simpa using l) (λj v z hv hz=>en j v z (by simpa using hv) hz)⟩
  .cases ht
 .rename_i Yj
  have Yi:DD P w ok top u x fp:=by
   cases x<;>first|exact hg|exact absurd rfl (Yj _)
  obtain⟨U',F',t,en⟩:=xY h Yi Wf Yo (λj hj Ya=>Xa j hj (by omega)) ht;exact⟨U',F',t.mono (λid Zu=>⟨Zu.1,Zu.2.1,by omega⟩),en⟩
end
section
variable {P:Program} {M:X9} {C:Kr}
theorem Y2k:∀{xs:List V} {s s':St} {ts:List TypeId} {ms:List Yw} {ys:List V},s.Bt P ts ms xs=some (ys,s')->I5 ms xs=true->I5 ms ys=true:=by
 intro xs
 induction xs with
 | nil=>
  intro s s' ts ms ys h _;simp only[St.Bt,AF,A7] at h;rw[<-h.1];rfl
 | cons x xs ih=>
  intro s s' ts ms ys h hp;simp only[St.Bt] at h;obtain⟨⟨y1,s1⟩,h1,h⟩:=AA.1 h;obtain⟨⟨y2,s2⟩,h2,h⟩:=AM.1 h;simp only[A7] at h;obtain⟨rfl,rfl⟩:=h;simp only[I5,Bh] at hp ⊢;refine⟨?_,ih h2 hp.2⟩;unfold St.Dl at h1;unfold wE at hp ⊢;split at h1
  .rename_i hm
   rw[hm] at hp ⊢;simp only[AF,A7] at h1;rw[<-h1.1];exact hp.1
  all_goals (rename_i hm;rw[hm])
theorem yX {w:World} {ok ok' top:Nat->Prop} {v:Value} {x:V} {fp:List Nat} (h:Dh P w ok top v x fp) (ht:P8 x=false):Dh P w ok' top v x fp:=by
 cases h with
 | lit h=>exact .lit h
 | tr h=>simp[P8] at ht
 | own h k=>exact .own h k
theorem yY {w:World} {ok ok' top:Nat->Prop} {v:List Value} {x:List V} {fp:List Nat} (h:FC P w ok top v x fp) (ht:x.any P8=false):FC P w ok' top v x fp:=by
 induction h with
 | nil=>exact .nil
 | cons h _ ih=>
  simp only[NC,P0] at ht;exact .cons (yX h ht.1) (ih ht.2)
theorem yZ {x:V} (h:I4 x=false):P8 x=false:=by
 cases x<;>first|exact h|rfl
theorem Yyh {xs:List V} (h:xs.any I4=false):xs.any P8=false:=by
 rw[List.any_eq_false] at h ⊢;exactλx hx=>by rw[yZ (by simpa using h x hx)];decide
theorem Y86 {w:World} {ok ok' top:Nat->Prop} {v:List Value} {x:List V} {fp:List Nat} (h:Gd P w ok top v x fp) (ht:x.any I4=false):Gd P w ok' top v x fp:=by
 induction h with
 | nil=>exact .nil
 | cons h _ ih=>
  simp only[NC,P0] at ht;refine .cons ?_ (ih ht.2);cases h with
  | one h=>exact .one (yX h (yZ ht.1))
  | box h=>
   obtain⟨g,cur,e,BT,h1,h2,h3,h4,h5⟩:=h;exact .box ⟨g,cur,e,BT,h1,h2,yY h3 ht.1,h4,h5⟩
theorem Yo2 {w:World} {ok ok' top:Nat->Prop} {v:Value} {x:V} {fp:List Nat} (h:DD P w ok top v x fp) (ht:HQ x=false):DD P w ok' top v x fp:=by
 cases x
 case agg cs=>obtain⟨us,h1,h2⟩:=h;exact⟨us,h1,yY h2 (Yyh ht)⟩
 case CQ cs=>obtain⟨g,cur,e,BT,h1,h2,h3,h4,h5⟩:=h;exact⟨g,cur,e,BT,h1,h2,yY h3 (Yyh ht),h4,h5⟩
 all_goals exact yX h (yZ ht)
theorem Y6q {w:World} {ok ok' top:Nat->Prop} {v:List Value} {x:List V} {fp:List Nat} (h:G5 P w ok top v x fp) (ht:x.any HQ=false):G5 P w ok' top v x fp:=by
 induction h with
 | nil=>exact .nil
 | cons h _ ih=>
  simp only[NC,P0] at ht;exact .cons (Yo2 h ht.1) (ih ht.2)
theorem Y80 {w:World} {ok ok' top:Nat->Prop} {v:Value} {x:V} {fp:List Nat} (h:FE P w ok top v x fp) (ht:P9 x=false):FE P w ok' top v x fp:=by
 cases x
 case AX rs=>obtain⟨us,h1,h2⟩:=h;exact⟨us,h1,Y6q h2 ht⟩
 all_goals (simp only[FE] at h ⊢;exact Yo2 h ht)
theorem Xbh {w:World} {ok ok' top:Nat->Prop} {m:Yw} {u:Value} {x o:V} {fp:List Nat} (h:My P w ok top m u x o fp) (ht:(∀g,ok g->ok' g)\/HQ o=false):My P w ok' top m u x o fp:=by
 cases m
 .exact h
 .obtain⟨cs,GV,h1,rfl,h3,h4⟩:=h
  refine⟨cs,GV,h1,rfl,h3,?_⟩;rcases ht with ht|ht
  .exact h4.C8 ht
  .obtain⟨g,cur,e,BT,e1,e2,e3,e4,e5⟩:=h4
   exact⟨g,cur,e,BT,e1,e2,Y86 e3 ht,e4,e5⟩
 .exact h
 .exact h
theorem Xab {w:World} {ok ok' top:Nat->Prop} {ms:List Yw} {us:List Value} {xs os:List V} {fp:List Nat} (h:FD P w ok top ms us xs os fp) (ht:(∀g,ok g->ok' g)\/os.any HQ=false):FD P w ok' top ms us xs os fp:=by
 induction h with
 | nil=>exact .nil
 | cons h _ ih=>
  refine .cons (Xbh h (ht.imp (λh=>h) (λh=>by simp only[NC,P0] at h;exact h.1))) (ih (ht.imp (λh=>h) (λh=>by simp only[NC,P0] at h;exact h.2)))
theorem Xcd {w:World} {ok ok' top:Nat->Prop} {v:Value} {x:V} {fp:List Nat} (h:FE P w ok top v x fp) (ht:∀g,ok g->ok' g):FE P w ok' top v x fp:=by
 cases x
 case AX rs=>obtain⟨us,h1,h2⟩:=h;exact⟨us,h1,h2.C8 ht⟩
 all_goals (simp only[FE] at h ⊢;exact DD.C8 h ht)
theorem Xcb {w:World} {ok top:Nat->Prop}:∀{ys:List V} {ms:List Yw} {us:List Value} {xs os:List V} {fp:List Nat} {s:St},s.BN ms ys=some xs->FD P w ok top ms us xs os fp->FD P w ok top ms us ys os fp:=by
 intro ys
 induction ys with
 | nil=>
  intro ms us xs os fp s hr h;simp only[St.BN,AF] at hr;subst hr;exact h
 | cons y ys ih=>
  intro ms us xs os fp s hr h;simp only[St.BN] at hr;obtain⟨z,h1,hr⟩:=AA.1 hr;obtain⟨zs,h2,rfl⟩:=AM.1 hr;cases h with
  | cons h hs=>
   refine .cons ?_ (ih h2 hs);unfold St.Cr at h1;cases hm:ms.headD .rd with
   | rd=>rw[hm] at h;exact h
   | io=>rw[hm] at h h1;simp only[AF] at h1;subst h1;exact h
   | mv=>rw[hm] at h;exact h
   | EA=>rw[hm] at h h1;simp only[AF] at h1;subst h1;exact h
theorem Ywv (hP:We P) (y4:∀(f:FuncId) (xs:List V) (r:V) (os:List V),C f xs=some (r,os)->(∃fn,P.funcs[f]?=some fn/\fn.body.isSome=true)/\Oh P (M.AV f) f xs r os):HX P M C:=by
 intro B io w tmps s U F fl k v s' h Xa g args us W3 Wa he;unfold KV at he;split at he
 case isFalse=>cases he
 rename_i y5;obtain⟨⟨ys,s1⟩,j6,he⟩:=AA.1 he;obtain⟨xs,E0,he⟩:=AA.1 he;obtain⟨⟨r,os⟩,hc,he⟩:=AA.1 he;simp only at E0 he;split at he
 case isTrue=>cases he
 rename_i Xfv;obtain⟨s2,YC,TF⟩:=AA.1 he;obtain⟨⟨fn,CU,YD⟩,Ytc⟩:=y4 g xs r os hc;have Ml:∀(j:Nat) (u:Value) (x:V),us.toList[j]?=some u->args[j]?=some x->En w (AI s U w) U u x:=λj u x hu hx=>Wa j u x (by simpa using hu) hx;obtain⟨G,DE,Xar,Da⟩:=Xbo h args (us:=us.toList) h (.refl _) (by simpa using W3) Ml j6;have DU:=Xcr h (.refl _) (by simpa using W3) Ml j6;have j7:=yR j6;refine⟨fn,CU,YD,hP.name g fn CU,?_⟩;have Oi:=(EX.1 DE.AU).1;have YE:∀x∈G,x < w.heap.size:=λx hx=>DE.AS x (CH _ hx)
 let T:Nat->Prop:=DK s s1 U F
 have hTA:Mi w T:=⟨h.Cv.Fz.1,h.Cv.Fz.2.1,λx ⟨id,b,h1,h2,h3,h4,h5⟩=>h.Cv.Fz.2.2 x (h.top id b h1 h2 h5 x h4)⟩;have YF:∀x,T x->AK s U x:=λx ⟨id,b,h1,h2,h3,h4,_⟩=>h.E1 h1 h2 h4;have Xas:∀x,AK s1 U x->AK s U x:=λx ⟨id,b,o,c,sz,h1,h2,h3⟩=>⟨id,b,o,c,sz,Da.sub id b h1,h2,h3⟩;have XJ:∀id b,s1.heap id=some b->b.own=true->∀x∈F id,¬T x:=λid b hb ho x hx ⟨G0,b2,h1,h2,h3,h4,_⟩=>by
  have Yj:id≠G0:=λe=>by subst e;rw[hb] at h3;cases h3
  have D9:x∈F G0:=by
   cases hf:F G0 with
   | nil=>rw[hf] at h4;simp at h4
   | cons y l=>
          rw[hf] at h4;have:y=x:=by simpa using h4
          subst this;exact BI
  exact h.apart id G0 b b2 (Da.sub id b hb) ho h1 h2 Yj x hx D9
 have Xfq:∀x,AK s1 U x->¬T x/\x ∉ G:=λx ⟨id,b,o,c,sz,h1,h2,h3⟩=>by
  have hx:x∈F id:=by
   have:=DE.heap id b h1;rw[h3] at this;exact this.top h2
  exact⟨XJ id b h1 h2 x hx,λhg=>DE.A8 id b h1 h2 x hx (CH _ hg)⟩
 have behind:∀(X:Nat->Prop) (y6:Nat->Prop),(∀x,AI s U w x->y6 x)->(∀x,y6 x->x < w.heap.size/\¬T x)->(P9 r=false/\os.any HQ=false\/(∀x,AK s1 U x->X x))->∀(val:Value) (w':World),QR P (M.AV g) w us xs G T X r os val w'->Cj P B io w tmps s U fl k v s' val w':=by
  intro X y6 _ _ y7 val w' hd;obtain⟨Gc,ok',top',fr,fo,Xdn,j8,Dc,j9,Xdo,VZ⟩:=hd;have Ld:∀x,AI s U w x->w'.heap[x]?=w.heap[x]?:=λx hx=>Gc.block x hx.2 (λht=>hx.1 (YF x ht));have Xfw:∀id b,s1.heap id=some b->∀x∈F id,w'.heap[x]?=w.heap[x]?:=λid b hb x hx=>by
   refine Gc.block x (DE.IE hb x hx) ?_;cases ho:b.own with
   | true=>exact XJ id b hb ho x hx
   | false=>
    have hB:=h.heap id b (Da.sub id b hb);unfold Xw at hB;rw[ho] at hB;split at hB
    .cases hB.1
    .rename_i h2;cases h2
    .rw[hB.1] at hx;cases hx
  have YG:∀x∈fl,x < w.heap.size:=λx hx=>h.AS x hx
  let okc:Nat->Prop:=λx=>AI s U w x\/(ok' x/\¬AK s1 U x)
  have hRG:J0 P B io w' tmps s1 U F (fo++(fr++fl)) (λx=>AI s U w x\/(ok' x/\¬AK s1 U x)):=by
   refine⟨λt u hu=>?_,λt ht=>by rw[Da.env];exact h.out t ht,λid b hb=>?_,λid b hb ho x hx=>Hq (DE.CR id b hb ho x hx) Gc.size,λid b hb ho F8 x hx=>DE.top id b hb ho F8 x hx,DE.apart,DE.once,λid Zu=>DE.CB id Zu,h.Cv.step Gc.size (λk hk Hw=>Gc.block k (Hq hk h.base) (λ⟨id,b,h1,h2,h3,h4,h5⟩=>by
    rcases h.top id b h1 h2 h5 k h4 with h6|h6
    .exact Hw h6
    .omega)),λx hx=>?_,λid b hb ho x hx D9=>?_,?_⟩
   .rw[Da.env]
    exact ((h.env t u hu).world Ld).ext (λx hx=>.inl hx) (λ_ _ h=>h)
   .exact ((h.heap id b (Da.sub id b hb)).world Ld (Xfw id b hb)).ext (λx hx=>.inl hx) (λ_ _ h=>h)
   .rcases BP.1 hx with hx|hx
    .exact (j9 x (D3 _ hx)).1
    .rcases BP.1 hx with hx|hx
     .exact (j9 x (CH _ hx)).1
     .exact Hq (YG x hx) Gc.size
   .have Ya:=DE.CR id b hb ho x hx
    have nf:x ∉ fr++fo:=λhm=>by
     rcases (j9 x hm).2 with hG|NV
     .exact DE.A8 id b hb ho x hx (CH _ hG)
     .omega
    rcases BP.1 D9 with D9|D9
    .exact nf (D3 _ D9)
    .rcases BP.1 D9 with D9|D9
     .exact nf (CH _ D9)
     .exact DE.A8 id b hb ho x hx (D3 _ D9)
   .have n1:((fr++fo)++fl).Nodup:=EX.2 ⟨Dc,h.AU,λx hx y hy e=>by
     subst e;rcases (j9 x hx).2 with hG|NV
     .exact (EX.1 DE.AU).2.2 x hG x hy rfl
     .have:=YG x hy;omega⟩
    have p1:(fo++(fr++fl)).Perm ((fr++fo)++fl):=by
     rw[<-List.append_assoc];exact Veh _ iC
    exact p1.nodup_iff.2 n1
  have Xat:∀x,top' x->io x\/B<=x:=λx hx=>by
   rcases Xdo x hx with⟨id,b,h1,h2,h3,h4,h5⟩|NV
   .exact h.top id b h1 h2 h5 x h4
   .have:=h.base;exact .inr (by omega)
  have Xdp:P9 r=false/\os.any HQ=false\/∀x,ok' x->(AI s U w x\/(ok' x/\¬AK s1 U x)):=by
   rcases y7 with h1|h1
   .exact .inl h1
   .exact .inr λx hx=>.inr ⟨hx,λht=>(VZ x hx).2.2 (h1 x ht)⟩
  have Xfx:FD P w' (λx=>AI s U w x\/(ok' x/\¬AK s1 U x)) top' (M.AV g) us.toList ys os fo:=
   Xab (Xcb E0 j8) (Xdp.symm.imp (λh=>h) (λh=>h.2))
  have Xfy:FE P w' (λx=>AI s U w x\/(ok' x/\¬AK s1 U x)) top' val r fr:=by
   rcases Xdp with h1|h1
   .exact Y80 Xdn h1.1
   .exact Xcd Xdn h1
  have Xdq:∀id:Id,id.1=s.ep->id.2 / 1024=k->U id=none/\s1.heap id=none:=λid h1 h2=>by
   have hn:=Xa id h1 h2;refine⟨hn,?_⟩;cases hb:s1.heap id with
   | none=>rfl
   | some b=>
    exfalso;have hB:=DE.heap id b hb;rw[hn] at hB;unfold Xw at hB;split at hB
    .obtain⟨_,_,_,_,_,hi,_⟩:=hB;cases hi
    .rcases hB with⟨hi,_⟩|⟨_,_,_,_,hi,_⟩<;>cases hi
    .obtain⟨_,hB⟩:=hB
     rcases hB with⟨hi,_⟩|⟨_,_,_,_,hi,_⟩<;>cases hi
  obtain⟨U2,F2,t2⟩:=Xbl (e:=s.ep) (k:=16*k+8) args hRG DU Xfx (λj u x hu hx=>⟨w,AI s U w,Ml j u x hu hx⟩) Xat (by rw[Da.ep];exact B2 _) (λj hj Ya=>Xdq _ rfl (by simp only;omega)) j7.1.1 (λid Zu=>(j7.1.2 id Zu).1) YC;have y8:∀id∈Ff (M.AV g) args,∀j,64*(16*k)<=j->j < 64*(16*k+8)->id≠(s.ep,j):=λid Zu j hj Ya e=>by
   subst e;obtain⟨b,hb⟩:=(j7.1.2 _ Zu).2;have hB:=h.heap _ b hb;rw[Xa (s.ep,j) rfl (by simp only;omega)] at hB;unfold Xw at hB;split at hB
   .obtain⟨_,_,_,_,_,hi,_⟩:=hB;cases hi
   .rcases hB with⟨hi,_⟩|⟨_,_,_,_,hi,_⟩<;>cases hi
   .obtain⟨_,hB⟩:=hB
    rcases hB with⟨hi,_⟩|⟨_,_,_,_,hi,_⟩<;>cases hi
  obtain⟨U3,F3,t3,en3⟩:=Y6s (e:=s.ep) (k:=16*k) t2.rel Xfy Xat (by rw[t2.ep,Da.ep];exact B2 _) (λj hj Ya=>by
   obtain⟨a1,a2⟩:=Xdq (s.ep,j) rfl (by simp only;omega);have YA:¬((((s.ep,j):Id).1=s.ep/\64*(16*k+8)<=((s.ep,j):Id).2/\((s.ep,j):Id).2 < 64*(16*k+8+args.length))\/(s.ep,j)∈Ff (M.AV g) args):=λhh=>by
    rcases hh with hh|hh
    .have:=hh.2.1;simp only at this;omega
    .exact y8 _ hh j hj Ya rfl
   refine⟨?_,by rw[t2.heap _ YA];exact a2⟩;cases hr:U2 (s.ep,j) with
   | none=>rfl
   | some i=>
    rcases t2.CB _ (by rw[hr];rfl) with hh|hh
    .rw[a1] at hh;cases hh
    .exact absurd hh YA) TF
  have YH:∀x,(AI s U w x\/(ok' x/\¬AK s1 U x))->AI s' U3 w' x:=λx hx=>by
   have Xdr:AK s' U3 x->AK s1 U x\/top' x:=λht=>by
    rcases t3.AK x ht with h1|h1
    .exact t2.AK x h1
    .exact .inr h1
   rcases hx with hx|hx
   .refine⟨λht=>?_,Hq hx.2 Gc.size⟩
    rcases Xdr ht with h1|h1
    .exact hx.1 (Xas x h1)
    .rcases Xdo x h1 with h2|h2
     .exact hx.1 (YF x h2)
     .have:=hx.2;omega
   .refine⟨λht=>?_,(VZ x hx.1).1⟩
    rcases Xdr ht with h1|h1
    .exact hx.2 h1
    .exact (VZ x hx.1).2.1 h1
  refine⟨by rw[t3.env,t2.env,Da.env],by rw[t3.ep,t2.ep,Da.ep],⟨Gc.os,Gc.tape,Gc.output,Gc.size,λx hx Hw=>Gc.block x (by have:=h.base;omega) (λ⟨id,b,h1,h2,h3,h4,h5⟩=>?_)⟩,U3,F3,t3.rel.IQ YH,en3.ext YH (λ_ _ h=>h),λid i hi=>t3.ext id i (t2.ext id i hi),λid Zu=>?_⟩
  .rcases h.top id b h1 h2 h5 x h4 with h6|h6
   .exact Hw h6
   .omega
  .rcases t3.CB id Zu with h1|h1
   .rcases t2.CB id h1 with h2|h2
    .exact .inl h2
    .rcases h2 with h2|h2
     .exact .inr ⟨h2.1,by omega⟩
     .left
      obtain⟨b,hb⟩:=(j7.1.2 id h2).2;have hB:=h.heap id b hb;cases hr:U id with
      | some i=>rfl
      | none=>
       exfalso;rw[hr] at hB;unfold Xw at hB;split at hB
       .obtain⟨_,_,_,_,_,hi,_⟩:=hB;cases hi
       .rcases hB with⟨hi,_⟩|⟨_,_,_,_,hi,_⟩<;>cases hi
       .obtain⟨_,hB⟩:=hB
        rcases hB with⟨hi,_⟩|⟨_,_,_,_,hi,_⟩<;>cases hi
   .exact .inr ⟨h1.1,by omega⟩
 by_cases kA:P9 r=false/\os.any HQ=false
 .have kB:∀x,AI s U w x->x < w.heap.size/\¬T x/\¬False:=λx hx=>⟨hx.2,λht=>hx.1 (YF x ht),λh=>h⟩
  refine (Ytc w us G T (λ_=>False) (λx=>x < w.heap.size/\¬T x) hTA ?_ Oi (λx hx=>⟨YE x hx,λh=>h⟩) (λx hx=>⟨hx.1,hx.2,λh=>h⟩) (λx hx=>hx.elim)).mono (λe w' ⟨val,he,hd⟩=>⟨val,he,behind _ (λx=>x < w.heap.size/\¬T x) (λx hx=>⟨(kB x hx).1,(kB x hx).2.1⟩) (λx hx=>hx) (.inl kA) val w' hd⟩);refine Yu5 h Da (λx hx=>⟨(kB x hx).1,(kB x hx).2.1⟩) Xar (.inr λid b x o c sz hb ho hU=>?_) E0;have hx:x∈F id:=by
   have:=DE.heap id b hb;rw[hU] at this;exact this.top ho
  exact⟨DE.CR id b hb ho x hx,XJ id b hb ho x hx⟩
 .have NZ:I5 (M.AV g) args=true:=by
   cases hp:I5 (M.AV g) args with
   | true=>rfl
   | false=>
    exfalso;apply Xfv;rw[hp];cases h1:P9 r<;>cases h2:os.any HQ<;>simp;exact kA ⟨h1,h2⟩
  refine (Ytc w us G T (AK s1 U) (AI s U w) hTA ?_ Oi (λx hx=>⟨YE x hx,λht=>(Xfq x ht).2 hx⟩) (λx hx=>⟨hx.2,λht=>hx.1 (YF x ht),λht=>hx.1 (Xas x ht)⟩) (λx hx=>?_)).mono (λe w' ⟨val,he,hd⟩=>⟨val,he,behind _ (AI s U w) (λx hx=>hx) (λx hx=>⟨hx.2,λht=>hx.1 (YF x ht)⟩) (.inr λx hx=>hx) val w' hd⟩)
  .exact Yu5 h Da (λx hx=>hx) Xar (.inl (Y2k j6 NZ)) E0
  .obtain⟨id,b,o,c,sz,h1,h2,h3⟩:=hx
   have hB:=DE.heap id b h1;rw[h3] at hB;unfold Xw at hB;split at hB
   .obtain⟨_,g',cur,e,row,hi,hg,_⟩:=hB
    cases hi;exact⟨cur,e,hg⟩
   .rcases hB with⟨hi,_⟩|⟨g',o',c',cur,hi,hg,_⟩
    .cases hi
    .cases hi;exact⟨cur,_,hg⟩
   .rename_i hh;rw[h2] at hh;cases hh
end
end Go.Proofs.YthdljdelfgofdaaGreatDoor.Ev
namespace Go.Proofs.YthdljdelfgofdaaGreatDoor.Ev
open Go
variable [Anchor]
def M3 (op:BinOp) (k k':IntKind) (a b:Int):Option V:=
 match op with
 | .shl=>if b < 0 then none else some (.lit (.int k (k.wrap (a*2^min b.toNat k.bits))))
 | .shr=>if b < 0 then none else some (.lit (.int k (a.fdiv (2^min b.toNat k.bits))))
 | op=>if k=k' then match op with
  | .add=>some (.lit (.int k (k.wrap (a+b))))
  | .sub=>some (.lit (.int k (k.wrap (a - b))))
  | .mul=>some (.lit (.int k (k.wrap (a*b))))
  | .quo=>if b=0 then none else some (.lit (.int k (k.wrap (a.tdiv b))))
  | .rem=>if b=0 then none else some (.lit (.int k (a.tmod b)))
  | .and=>some (.lit (.int k (k.wrap ((BitVec.ofInt k.bits a &&& BitVec.ofInt k.bits b).toNat))))
  | .or=>some (.lit (.int k (k.wrap ((BitVec.ofInt k.bits a ||| BitVec.ofInt k.bits b).toNat))))
  | .xor=>some (.lit (.int k (k.wrap ((BitVec.ofInt k.bits a ^^^ BitVec.ofInt k.bits b).toNat))))
  | .andNot=>some (.lit (.int k (k.wrap ((BitVec.ofInt k.bits a &&& ~~~BitVec.ofInt k.bits b).toNat))))
  | .eql=>some (.lit (.bool (decide (a=b))))
  | .neq=>some (.lit (.bool (decide (a≠b))))
  | .lss=>some (.lit (.bool (decide (a < b))))
  | .leq=>some (.lit (.bool (decide (a<=b))))
  | .gtr=>some (.lit (.bool (decide (a > b))))
  | .geq=>some (.lit (.bool (decide (a≥b))))
  | _=>none
  else none
def IY (op:BinOp) (a b:ByteArray):Option V:=
 match op with
 | .add=>if ((a.size+b.size:Nat):Int) > IntKind.i64.max then none else some (.lit (.string (a++b)))
 | .eql=>some (.lit (.bool (a.toList == b.toList)))
 | .neq=>some (.lit (.bool (!(a.toList == b.toList))))
 | .lss=>some (.lit (.bool (Go.Op.bytesLess a.toList b.toList)))
 | .leq=>some (.lit (.bool (Go.Op.bytesLess a.toList b.toList||a.toList == b.toList)))
 | .gtr=>some (.lit (.bool (!(Go.Op.bytesLess a.toList b.toList||a.toList == b.toList))))
 | .geq=>some (.lit (.bool (!(Go.Op.bytesLess a.toList b.toList))))
 | _=>none
section
variable {P:Program} {v:Operand->V}
theorem Xv {α β:Type} (x:Sem α) (f:α->Sem β):eval? P (x >>= f)=(eval? P x).bind λa=>eval? P (f a):=by
 induction x with
 | pure a=>rfl
 | program k ih=>exact ih P
 | _=>rfl
theorem YI {α β:Type} (x:Sem α) (f:α->β):eval? P (f <$> x)=(eval? P x).map f:=by
 induction x with
 | pure a=>rfl
 | program k ih=>exact ih P
 | _=>rfl
def Fh (P:Program) (op:BinOp) (t:TypeId) (x y:Operand) (X Y:V):Option V:=
 if (Qu X).isSome&&(Qu Y).isSome then (eval? P (do eqGuard op t x y ((Qu X).getD undef) ((Qu Y).getD undef);binOp op t ((Qu X).getD undef) ((Qu Y).getD undef))).bind GN else none
theorem y9 {x:Sem Value}:(match eval? P (Next.value <$> x) with|some (.value v)=>GN v|_=>none)=(eval? P x).bind GN:=by
 rw[YI];cases eval? P x<;>rfl
theorem Y8d {d:Option Tmp} {op:BinOp} {t yt ty:TypeId} {x y:Operand} {p:String} {af:Array Edge} {g:Option (Nat×Bool)}:Qj P v ⟨d,.binOp op t x y yt,ty,p,af,g⟩=Fh P op t x y (v x) (v y):=by
 unfold Qj Fh;rw[<-y9];simp only[ND,Op.operands,Hs,Ef,VD,Ma];rfl
theorem Y04 {op:BinOp} {t:TypeId} {x y:Operand} {k k':IntKind} {a b:Int}:eqGuard op t x y (.int k a) (.int k' b)=pure ():=by
 unfold eqGuard;cases op<;>rfl
theorem Y2e {op:BinOp} {t:TypeId} {x y:Operand} {a b:ByteArray}:eqGuard op t x y (.string a) (.string b)=pure ():=by
 unfold eqGuard;cases op<;>rfl
theorem Yeu {op:BinOp} {t:TypeId} {x y:Operand} {a b:Bool}:eqGuard op t x y (.bool a) (.bool b)=pure ():=by
 unfold eqGuard;cases op<;>rfl
theorem Xcp {op:BinOp} {t:TypeId} {x y:Operand} {k k':IntKind} {a b:Int}:Fh P op t x y (.lit (.int k a)) (.lit (.int k' b))=M3 op k k' a b:=by
 have e:Fh P op t x y (.lit (.int k a)) (.lit (.int k' b))=(eval? P (binOp op t (.int k a) (.int k' b))).bind GN:=by
  simp only[Fh,Qu,P3,Mb,if_true,Gr,Y04];rfl
 rw[e];unfold binOp;by_cases hk:k=k'
 .subst hk
  cases op<;>simp only[ne_eq,not_true,if_false,if_true,M3]<;>first|rfl|skip
  .unfold Go.Op.intDiv;by_cases hb:b=0<;>simp only[hb,if_true,if_false]<;>rfl
  .unfold Go.Op.intDiv;by_cases hb:b=0<;>simp only[hb,if_true,if_false]<;>rfl
  .unfold Go.Op.shift;by_cases hb:b < 0<;>simp only[hb,if_true,if_false]<;>rfl
  .unfold Go.Op.shift;by_cases hb:b < 0<;>simp only[hb,if_true,if_false]<;>rfl
  .simp only[Go.Op.intCmp,bne];exact congrArg (λc=>some (V.lit (.bool c))) (by by_cases h:a=b<;>simp[h])
 .cases op<;>simp only[ne_eq,hk,not_false_eq_true,if_true,if_false,M3]<;>first|rfl|skip
  .unfold Go.Op.shift;by_cases hb:b < 0<;>simp only[hb,if_true,if_false]<;>rfl
  .unfold Go.Op.shift;by_cases hb:b < 0<;>simp only[hb,if_true,if_false]<;>rfl
theorem Xcn {op:BinOp} {t:TypeId} {x y:Operand} {a b:ByteArray}:Fh P op t x y (.lit (.string a)) (.lit (.string b))=IY op a b:=by
 have e:Fh P op t x y (.lit (.string a)) (.lit (.string b))=(eval? P (binOp op t (.string a) (.string b))).bind GN:=by
  simp only[Fh,Qu,P3,Mb,if_true,Gr,Y2e];rfl
 rw[e];unfold binOp;cases op<;>simp only[IY]<;>first|rfl|skip
 unfold Go.Op.stringOp;simp only[];by_cases hb:((a.size+b.size:Nat):Int) > IntKind.i64.max<;>simp only[hb,if_true,if_false]<;>rfl
theorem Yod {t:TypeId} {a b:Bool} (ht:P.underlying t=some .bool):eval? P (Go.Op.equal t (.bool a) (.bool b))=some (a == b):=by
 have hu:eval? P (underlying t)=some .bool:=by
  unfold underlying;rw[Xv];show eval? P (match P.underlying t with|some d=>pure d|none=>stuck "no such type" : Sem TypeDesc)=some .bool;rw[ht];rfl
 show eval? P (Go.Op.equalIn (9999+1) t (.bool a) (.bool b))=_;unfold Go.Op.equalIn;rw[Xv,hu];rfl
theorem Xcj {t:TypeId} {x y:Operand} {a b:Bool} (ht:P.underlying t=some .bool):Fh P .eql t x y (.lit (.bool a)) (.lit (.bool b))=some (.lit (.bool (a == b))):=by
 simp only[Fh,Qu,P3,Mb,if_true,Gr,Yeu];have e:(pure () >>=λ_=>binOp .eql t (.bool a) (.bool b):Sem Value)=((λb=>Value.bool b) <$> Go.Op.equal t (.bool a) (.bool b)):=rfl;rw[e,YI,Yod ht];rfl
theorem Xb6 {t:TypeId} {x y:Operand} {a b:Bool} (ht:P.underlying t=some .bool):Fh P .neq t x y (.lit (.bool a)) (.lit (.bool b))=some (.lit (.bool (a != b))):=by
 simp only[Fh,Qu,P3,Mb,if_true,Gr,Yeu];have e:(pure () >>=λ_=>binOp .neq t (.bool a) (.bool b):Sem Value)=((λb=>Value.bool (!b)) <$> Go.Op.equal t (.bool a) (.bool b)):=rfl;rw[e,YI,Yod ht];rfl
end
def IZ (b:ByteArray) (i:V):Option Int:=(W1 i).bind λn=>(b[n]?).map λc=>(c.toNat:Int)
def M4 (b:ByteArray) (lo hi:Option V):Option ByteArray:=
 (match hi with|some v=>W1 v|none=>some b.size).bind λh=>(match lo with|some v=>W1 v|none=>some 0).bind λl=>if l<=h/\h<=b.size then some (b.extract l h) else none
def M5 (rows:List (List V)):Option ByteArray:=(NH rows).map λbs=>⟨bs.toArray⟩
section
variable {P:Program} {v:Operand->V} {d:Option Tmp} {t ty:TypeId} {x ix:Operand} {p:String} {af:Array Edge} {g:Option (Nat×Bool)} {b:ByteArray}
theorem zA {t:TypeId} {d:TypeDesc} (ht:P.underlying t=some d):eval? P (underlying t)=some d:=by
 unfold underlying;rw[Xv];show eval? P (match P.underlying t with|some d=>pure d|none=>stuck "no such type" : Sem TypeDesc)=some d;rw[ht];rfl
theorem YJ {x:V} {n:Nat} (h:W1 x=some n):∃k i,x=.lit (.int k i)/\0<=i/\n=i.toNat:=by
 unfold W1 at h;split at h
 .rename_i k i
  split at h
  .rename_i h0;injection h with h;exact⟨k,i,rfl,h0,h.symm⟩
  .cases h
 .cases h
theorem Xbk {m:Int} (ht:P.underlying t=some .string) (hx:v x=.lit (.string b)) (h:IZ b (v ix)=some m):Qj P v ⟨d,.index t x ix,ty,p,af,g⟩=some (.lit (.int .u8 m)):=by
 unfold IZ at h;obtain⟨n,hn,h⟩:=AA.1 h;obtain⟨c,hc,rfl⟩:=AM.1 h;obtain⟨k,i,hi,h0,rfl⟩:=YJ hn;have key:Qj P v ⟨d,.index t x ix,ty,p,af,g⟩=if (Qu (v x)).isSome&&(Qu (v ix)).isSome then (eval? P (Instr.index t ((Qu (v x)).getD undef) ((Qu (v ix)).getD undef))).bind GN else none:=by
  unfold Qj;rw[<-y9];simp only[ND,Op.operands,Hs,Ef,VD,Ma];rfl
 rw[key,hx,hi];show (eval? P (Instr.index t (.string b) (.int k i))).bind GN=_;have e:eval? P (Instr.index t (.string b) (.int k i))=some (.int .u8 c.toNat):=by
  unfold Instr.index;rw[Xv];show eval? P (underlying t >>= _)=_;rw[Xv,zA ht,Ag];show eval? P (match (if 0<=i then b[i.toNat]? else none:Option UInt8) with|some b=>(pure (Value.int .u8 b.toNat):Sem Value)|none=>boundsPanic k i b.size .index)=_;rw[Ah h0,hc];rfl
 rw[e];rfl
theorem zB {k:IntKind} {i:Int} {y:Nat} {code:BoundsCode} (h0:0<=i) (h:i.toNat<=y):eval? P (Instr.sliceBound (.int k i) y code)=some i.toNat:=by
 unfold Instr.sliceBound;rw[Xv];show eval? P (if 0<=i/\i<=y then pure i.toNat else boundsPanic k i y code)=_;rw[Ah ⟨h0,by omega⟩];rfl
theorem Y14 {n l h:Nat} {lo hi:Option V} (hh:(match hi with|some v=>W1 v|none=>some n)=some h) (hl:(match lo with|some v=>W1 v|none=>some 0)=some l) (h1:l<=h) (h2:h<=n):
  eval? P (Instr.sliceBounds false n n (lo.map λv=>(Qu v).getD undef) (hi.map λv=>(Qu v).getD undef) none)=some (l,h,n):=by
 have pu:∀{α:Type} (a:α),eval? P (pure a:Sem α)=some a:=λ_=>rfl;unfold Instr.sliceBounds;cases hi with
 | none=>
  simp only[AF] at hh;subst hh;cases lo with
  | none=>
   simp only[AF] at hl;subst hl;simp only[iM,Xv,pu,Ag]
  | some u=>
   obtain⟨k,i,rfl,h0,rfl⟩:=YJ hl;have e2:=λc=>zB (P:=P) (k:=k) (code:=c) h0 h1;simp only[iM,DI,Qu,Gr,Xv,pu,Ag,e2]
 | some z=>
  obtain⟨k',i',rfl,kC,rfl⟩:=YJ hh;have e1:=λc=>zB (P:=P) (k:=k') (code:=c) kC h2;cases lo with
  | none=>
   simp only[AF] at hl;subst hl;simp only[iM,DI,Qu,Gr,Xv,pu,Ag,e1]
  | some u=>
   obtain⟨k,i,rfl,h0,rfl⟩:=YJ hl;have e2:=λc=>zB (P:=P) (k:=k) (code:=c) h0 h1;simp only[iM,DI,Qu,Gr,Xv,pu,Ag,e1,e2]
theorem Y9j {lo hi:Option Operand} {c:ByteArray} (ht:P.underlying t=some .string) (hx:v x=.lit (.string b)) (h:M4 b (lo.map v) (hi.map v)=some c):Qj P v ⟨d,.slice t x lo hi none,ty,p,af,g⟩=some (.lit (.string c)):=by
 unfold M4 at h;obtain⟨h',hh,h⟩:=AA.1 h;obtain⟨l,hl,h⟩:=AA.1 h;split at h
 case isFalse=>cases h
 rename_i h1;injection h with h;subst h;have kD:∀{z:Operand} {m:Nat},W1 (v z)=some m->(Qu (v z)).isSome=true:=λ{z m} ho=>by
  obtain⟨k,i,e,_⟩:=YJ ho;rw[e];rfl
 have key:Qj P v ⟨d,.slice t x lo hi none,ty,p,af,g⟩=(eval? P (Instr.sliceAt t ((Qu (v x)).getD undef) (lo.map λy=>(Qu (v y)).getD undef) (hi.map λy=>(Qu (v y)).getD undef) none)).bind GN:=by
  unfold Qj;rw[<-y9];rw[Ah (by
   simp only[ND,Hs,Cf];intro y hy;cases lo with
   | none=>cases hi with
    | none=>
     have:y=x:=by simpa [Op.operands] using hy
     subst this;rw[hx];rfl
    | some z=>
     have:y=x\/y=z:=by simpa [Op.operands] using hy
     rcases this with e|e
     .subst e;rw[hx];rfl
     .subst e;exact kD (m:=h') hh
   | some u=>cases hi with
    | none=>
     have:y=x\/y=u:=by simpa [Op.operands] using hy
     rcases this with e|e
     .subst e;rw[hx];rfl
     .subst e;exact kD (m:=l) hl
    | some z=>
     have:y=x\/y=u\/y=z:=by simpa [Op.operands] using hy
     rcases this with e|e|e
     .subst e;rw[hx];rfl
     .subst e;exact kD (m:=l) hl
     .subst e;exact kD (m:=h') hh)]
  rfl
 rw[key,hx];have em:∀o:Option Operand,(o.map λy=>(Qu (v y)).getD undef)=(o.map v).map λz=>(Qu z).getD undef:=λo=>by cases o<;>rfl
 rw[em,em];have e:eval? P (Instr.sliceAt t (.string b) ((lo.map v).map λz=>(Qu z).getD undef) ((hi.map v).map λz=>(Qu z).getD undef) none)=some (.string (b.extract l h')):=by
  unfold Instr.sliceAt;rw[Xv,zA ht];show eval? P (Instr.slice t (.string b) _ _ none)=_;unfold Instr.slice;rw[Xv,zA ht];show eval? P (Instr.sliceBounds false b.size b.size _ _ none >>= _)=_;rw[Xv,Y14 hh hl h1.1 h1.2];rfl
 show (eval? P (Instr.sliceAt t (.string b) _ _ none)).bind GN=_;rw[e];rfl
end
end Go.Proofs.YthdljdelfgofdaaGreatDoor.Ev
namespace Go.Proofs.YthdljdelfgofdaaGreatDoor.Ev
open Go Go.RowKit Go.ChangeShapes Go.WideShapes
section
variable {H:Type} {enc:TypeId×Value->H} {P:Program} {w:World}
def okW (w:World) (g:Nat):Prop:=g < w.heap.size
def M6 (w:World) (cs:List Value) (xs:List V):Prop:=cs.length=xs.length/\∀(k:Nat) (v:Value) (x:V),cs[k]?=some v->xs[k]?=some x->Rd w (okW w) v x
theorem M6.one {v:Value} {x:V} (h:Rd w (okW w) v x):M6 w [v] [x]:=by
 refine⟨rfl,λk u y h1 h2=>?_⟩;cases k with
 | zero=>simp at h1 h2;subst h1;subst h2;exact h
 | succ k=>simp at h1
theorem M6.append {cs ds:List Value} {xs ys:List V} (h:M6 w cs xs) (k:M6 w ds ys):M6 w (cs++ds) (xs++ys):=by
 refine⟨by rw[BW,BW,h.1,k.1],λi v x h1 h2=>?_⟩;rcases Mc i cs.length with hi|hi
 .rw[EW hi] at h1
  rw[EW (by rw[<-h.1];exact hi)] at h2;exact h.2 i v x h1 h2
 .rw[Fq hi] at h1
  rw[Fq (by rw[<-h.1];exact hi),<-h.1] at h2;exact k.2 _ v x h1 h2
def JA {α:Type} (enc:TypeId×Value->H) (P:Program) (w:World) (t:TypeId) (e:α->List V) (Q:α->Prop):Prop:=
 ∀(fuel:Nat) (cs:List Value) (x:DataW H×List MemPlace),DataW.trod enc P w 0 (λ_=>true) true fuel t cs=some x->∃a,M6 w cs (e a)/\Q a
theorem Xeg {t:TypeId} {k:IntKind} (ht:P.underlying t=some (.int k)):JA enc P w t (λn:Int=>[.lit (.int k n)]) (λn=>(Lit.int k n).wf=true):=by
 intro fuel cs x h;obtain⟨n,rfl,_,hw⟩:=DataW.trod_int ht h;exact⟨n,.one (.lit rfl),hw⟩
theorem YK {t:TypeId} (ht:P.underlying t=some .bool):JA enc P w t (λb:Bool=>[.lit (.bool b)]) (λ_=>True):=by
 intro fuel cs x h;obtain⟨n,rfl,_⟩:=DataW.trod_bool ht h;exact⟨n,.one (.lit rfl),trivial⟩
theorem kE {α β:Type} {t:TypeId} {e:α->List V} {e':β->List V} {Q:α->Prop} {Q':β->Prop} (h:JA enc P w t e Q) (f:α->β) (he:∀a,Q a->e' (f a)=e a) (hq:∀a,Q a->Q' (f a)):JA enc P w t e' Q':=by
 intro fuel cs x hx;obtain⟨a,h1,h2⟩:=h fuel cs x hx;exact⟨f a,by rw[he a h2];exact h1,hq a h2⟩
theorem Y83 {α:Type} {t el:TypeId} {e:α->List V} {Q:α->Prop} (ht:P.underlying t=some (.slice el)) (hs:∀a,(e a).length=P.cellsOf el) (hz:P.cellsOf el≠0) (he:JA enc P w el e Q):
  JA enc P w t (λxs:List α=>[.tr (xs.map e)]) (λxs=>xs.length<=maxLen/\∀x∈xs,Q x):=by
 intro fuel cs x h;rcases DataW.trod_slice ht h with⟨rfl,_⟩|⟨a,len,cap,elems,rest,n,_,rfl,rfl,hb,hl,hm,Yp,PX,_,_⟩
 .exact⟨[],.one .emp,by simp,by simp⟩
 .have each:∀i:Fin len,∃p,∃c:List Value,M6 w c (e p)/\Q p/\c.length=P.cellsOf el/\∀(j:Nat) (u:Value),c[j]?=some u->w.cell? (a.add (i.1*P.cellsOf el+j))=some u:=by
   intro i;have h1:=PX i.1 i.2;have h2:elems[i.1]?=some elems[i.1]:=C6 (by omega);rw[h2] at h1;obtain⟨c,hc,hy⟩:=AA.1 h1;obtain⟨p,hK,hQ⟩:=he _ _ _ hy;obtain⟨_,Qf,Co⟩:=World.cells?_some hc;refine⟨p,c,hK,hQ,Qf,λj u hj=>?_⟩;have KX:j < P.cellsOf el:=by
    have:=(Dg.1 hj).1;omega
   have h3:=Co j KX;rw[hj] at h3;rw[<-h3]
   congr 1
   simp only[Addr.add];split<;>split<;>split<;>simp_all<;>omega
  refine⟨List.ofFn λi=>Classical.choose (each i),.one ?_,by simp;omega,?_⟩
  .rcases vQ len with rfl|HZ
   .exact .emp
   .have NR:∀(k:Nat) (x:V),((List.ofFn λi=>Classical.choose (each i)).map e).flatten[k]?=some x->∃v,w.cell? (a.add k)=some v/\Rd w (okW w) v x:=by
     intro k x hk
     haveI:Anchor:=⟨w⟩
     obtain⟨i,j,row,h1,h2,rfl⟩:=wQ (sz:=P.cellsOf el) (λr hr=>by
      obtain⟨p,_,rfl⟩:=D7.1 hr;exact hs p) hk
     rw[D5] at h1;obtain⟨p,h3,rfl⟩:=AM.1 h1;obtain⟨hi,rfl⟩:=Dg.1 h3;rw[List.length_ofFn] at hi;obtain⟨c,hK,hQ,Qf,Co⟩:=V0 (each ⟨i,hi⟩);rw[List.getElem_ofFn] at h2;have KX:j < c.length:=by
      have:=(Dg.1 h2).1;rw[hK.1];exact this
     exact⟨c[j],Co j _ (C6 KX),hK.2 j _ _ (C6 KX) h2⟩
    have Xds:a.spot=none:=by
     obtain⟨c,hK,hQ,Qf,Co⟩:=V0 (each ⟨0,HZ⟩);have h0:=Co 0 c[0] (C6 (by omega));simp only[iP,Fv,Addr.add,if_true] at h0;exact World.cell?_spot h0
    obtain⟨g,o,sp⟩:=a;simp only at Xds;subst Xds;have HW:∀k,(Addr.mk g o none).add k=⟨g,o+k,none⟩:=λk=>by
     unfold Addr.add;split
     .rename_i h;rw[h];rfl
     .rfl
    refine .tr (u:=λk=>(w.cell? ⟨g,o+k,none⟩).getD undef) (by simp) hl hm (sz:=P.cellsOf el) (λr hr=>by
      obtain⟨p,_,rfl⟩:=D7.1 hr;exact hs p) ?_ (λk x hk=>?_) (λk x hk=>?_)
    .obtain⟨c,hK,hQ,Qf,Co⟩:=V0 (each ⟨0,HZ⟩)
     have h0:=Co 0 c[0] (C6 (by omega));rw[HW] at h0;exact iS h0
    .obtain⟨v,hv,_⟩:=NR k x hk
     rw[HW] at hv;rw[hv];rfl
    .obtain⟨v,hv,hr⟩:=NR k x hk
     rw[HW] at hv;rw[hv];exact hr
  .intro p hp
   obtain⟨i,rfl⟩:=List.mem_ofFn.1 hp;obtain⟨c,hK,hQ,_⟩:=V0 (each i);exact hQ
def M7 {α:Type} (enc:TypeId×Value->H) (P:Program) (w:World) (fs:List Field) (off sz:Nat) (e:α->List V) (Q:α->Prop):Prop:=
 ∀(n:Nat) (cs:List Value) (xs:List (DataW H×List MemPlace)),cs.length=off+sz->xs.length=fs.length->
  (∀(i:Nat) (f:Field),fs[i]?=some f->DataW.trod enc P w 0 (λ_=>true) true n f.type ((cs.drop f.offset).take (P.cellsOf f.type))=xs[i]?)->∃a,M6 w (cs.drop off) (e a)/\Q a
theorem YL {α:Type} {f:Field} {off sz:Nat} {e:α->List V} {Q:α->Prop} (ho:f.offset=off) (hs:P.cellsOf f.type=sz) (h:JA enc P w f.type e Q):M7 enc P w [f] off sz e Q:=by
 intro n cs xs hl hx hf;have h0:=hf 0 f rfl
 match xs,hx with
 | [y],_=>
  obtain⟨a,hK,hQ⟩:=h _ _ _ h0;refine⟨a,?_,hQ⟩;rw[ho,hs,DH (by rw[KO];omega)] at hK;exact hK
theorem TG {α β:Type} {f:Field} {fs:List Field} {off sa sb:Nat} {a:α->List V} {b:β->List V} {Qa:α->Prop} {Qb:β->Prop} (ho:f.offset=off) (hs:P.cellsOf f.type=sa) (ha:JA enc P w f.type a Qa)
  (hb:M7 enc P w fs (off+sa) sb b Qb):M7 enc P w (f::fs) off (sa+sb) (λx:α×β=>a x.1++b x.2) (λx=>Qa x.1/\Qb x.2):=by
 intro n cs xs hl hx hf
 match xs,hx with
 | y::ys,hx=>
  have h0:=hf 0 f rfl;obtain⟨x0,hK,hQ⟩:=ha _ _ _ h0;obtain⟨x1,hK1,hQ1⟩:=hb n cs ys (by omega) (by simpa using hx) (λi g hg=>by simpa using hf (i+1) g (by simpa using hg));refine⟨(x0,x1),?_,hQ,hQ1⟩;rw[ho,hs] at hK;have e:cs.drop off=(cs.drop off).take sa++cs.drop (off+sa):=by rw[<-List.drop_drop,List.take_append_drop]
  rw[e];exact hK.append hK1
theorem Xf3 {α:Type} {t:TypeId} {fs:Array Field} {e:α->List V} {Q:α->Prop} {sz:Nat} (ht:P.underlying t=some (.struct fs)) (hs:P.cellsOf t=sz) (h:M7 enc P w fs.toList 0 sz e Q):JA enc P w t e Q:=by
 intro fuel cs x hx;obtain⟨xs,n,_,rfl,hl,kF,hf⟩:=DataW.trod_struct ht hx;obtain⟨a,hK,hQ⟩:=h n cs xs (by omega) (by simpa using kF) (λi f kG=>hf i f (by simpa using kG));exact⟨a,by simpa using hK,hQ⟩
theorem Rd.JB {ok:Nat->Prop} {v:Value} {x:V} (h:Rd w ok v x):Ev.AG x=true:=by
 cases h<;>rfl
theorem Y4t {α:Type} {t el:TypeId} {e:α->V} {Q:α->Prop} {r:Reach} {b0:Nat} {v:Value} {x:DataW H} {p:List MemPlace} (ht:P.underlying t=some (.slice el)) (ho:JA enc P w t (λa=>[e a]) Q)
  (hv:Value.okWide P w r b0 t v) (h:DataW.Trod enc P w 0 (λ_=>true) true t v x p):∃a:α,Q a/\∀U,En w (okW w) U v (e a):=by
 obtain⟨A0,len,cap,rfl⟩:=okWide_slice ht hv;obtain⟨n,hn⟩:=h;obtain⟨a,hK,hQ⟩:=ho _ _ _ hn
 haveI:Anchor:=⟨w⟩
 exact⟨a,hQ,λU=>(hK.2 0 _ _ rfl rfl).en⟩
theorem Xf2 {α:Type} {t:TypeId} {fs:Array Field} {e:α->List V} {Q:α->Prop} {r:Reach} {b0:Nat} {v:Value} {x:DataW H} {p:List MemPlace} (ht:P.underlying t=some (.struct fs)) (ho:JA enc P w t e Q)
  (hv:Value.okWide P w r b0 t v) (h:DataW.Trod enc P w 0 (λ_=>true) true t v x p):∃a:α,Q a/\∀U,En w (okW w) U v (.agg (e a)):=by
 obtain⟨cs,rfl,_⟩:=okWide_struct ht hv;obtain⟨n,hn⟩:=h;obtain⟨a,hK,hQ⟩:=ho _ _ _ hn;simp only[Value.cells] at hK
 haveI:Anchor:=⟨w⟩
 refine⟨a,hQ,λU=>.agg (by rw[<-Array.length_toList];exact hK.1) (λy hy=>?_) (λk u y h1 h2=>(hK.2 k u y (by simpa using h1) h2).en)⟩;obtain⟨k,hk,rfl⟩:=P2 hy;exact (hK.2 k _ _ (C6 (by rw[hK.1];exact hk)) (C6 hk)).JB
inductive Ra (w:World):List Value->List V->Prop
 | nil:Ra w [] []
 | cons {u:Value} {x:V} {us:List Value} {xs:List V} (h:∀U,En w (okW w) U u x) (hs:Ra w us xs):Ra w (u::us) (x::xs)
theorem Xfc:Ra w [] []:=.nil
theorem Xcx {u:Value} {x:V} {us:List Value} {xs:List V} (h:∀U,En w (okW w) U u x) (hs:Ra w us xs):Ra w (u::us) (x::xs):=.cons h hs
theorem Xec {us:List Value} {xs:List V} (h:Ra w us xs):∀(j:Nat) (u:Value) (x:V),us[j]?=some u->xs[j]?=some x->∀U,En w (okW w) U u x:=by
 induction h with
 | nil=>intro j u x h1;simp at h1
 | cons h hs ih=>
  intro j u x h1 h2;cases j with
  | zero=>simp at h1 h2;subst h1;subst h2;exact h
  | succ j=>exact ih j u x (by simpa using h1) (by simpa using h2)
theorem Xbx [Anchor] {M:X9} {f:FuncId} {us:List Value} {xs os:List V} (YM:Anchor.w=w) (hm:M.AV f=[]) (hc:Oh P (M.AV f) f xs (.lit (.bool true)) os) (ha:us.length=xs.length) (he:∀(j:Nat) (u:Value) (x:V),us[j]?=some u->xs[j]?=some x->∀U,En w (okW w) U u x):
  Calls P f us.toArray w (λe w'=>e=.returned (.bool true)/\Below w.heap.size w w'):=by
 have hA:∀(us:List Value) (xs:List V),us.length=xs.length->(∀(j:Nat) (u:Value) (x:V),us[j]?=some u->xs[j]?=some x->∀U,En w (okW w) U u x)->Oc P w (okW w) (λ_=>False) [] us xs []:=by
  intro us
  induction us with
  | nil=>intro xs hl _;cases xs with
   | nil=>exact .nil
   | cons x xs=>simp at hl
  | cons u us ih=>intro xs hl he;cases xs with
   | nil=>simp at hl
   | cons x xs=>exact .cons (f1:=[]) (f2:=[]) ⟨he 0 u x rfl rfl,rfl⟩ (ih xs (by simpa using hl) (λj v y h1 h2=>he (j+1) v y (by simpa using h1) (by simpa using h2)))
 refine (hc w us.toArray [] (λ_=>False) (λ_=>False) (okW w) ⟨by rw[YM];exact B2 _,λk _=>by rw[YM],λg hg=>hg.elim⟩ (by rw[hm];exact hA us xs ha he) List.nodup_nil (λg hg=>by simp at hg) (λg hg=>⟨hg,λh=>h,λh=>h⟩) (λg hg=>hg.elim)).mono (λe w' ⟨v,hv,hd⟩=>?_);obtain⟨Gc,ok',top',fr,fo,TF,_⟩:=hd;have:v=.bool true:=by
  simp only[FE] at TF;cases TF with
  | lit h=>rfl
 subst this;exact⟨hv,Gc.below⟩
end
end Go.Proofs.YthdljdelfgofdaaGreatDoor.Ev
namespace Go.Proofs.YthdljdelfgofdaaGreatDoor.Ev
open Go Go.RowKit
variable [Anchor]
def Lw (P:Program) (c:Code) (Q:Exit->Act->World->Prop) (a:Act) (w:World):Prop:=
 ∀(b:Frame) (k:List Item) (cs:List Frame),∃e a' w',Q e a' w'/\Arrives P (lone (b.at a (.code c::.inLoop c::k)) cs w) b k cs e a' w'
def wpL (P:Program) (c:Code) (Q:Exit->Act->World->Prop) (a:Act) (w:World):Prop:=
 match c with
 | .loop c=>Lw P c Q a w
 | c=>c.wp P Q a w
section
variable {P:Program} {c:Code} {Q:Exit->Act->World->Prop} {a:Act} {w:World}
theorem TH (h:wpL P c Q a w):c.wp P Q a w:=by
 cases c with
 | loop c=>
  intro b k cs;obtain⟨e,a',w',hq,Z1i⟩:=h b k cs;exact⟨e,a',w',hq,.of_steps (.one step_loop) Z1i⟩
 | _=>exact h
theorem Xbt (h:c.wp P (Exit.then (λa' w'=>Lw P c Q a' w') Q) a w):Lw P c Q a w:=by
 intro b k cs;obtain⟨e,a₁,w₁,hq,Z1i⟩:=h b (.inLoop c::k) cs;cases e with
 | normal=>
  obtain⟨e₂,a₂,w₂,hq₂,Z1i₂⟩:=hq b k cs;exact⟨e₂,a₂,w₂,hq₂,.of_steps (Steps.trans Z1i (.one step_inLoop)) Z1i₂⟩
 | exit id=>exact⟨_,a₁,w₁,hq,.pass (x:=.inLoop c) rfl (λ_ _=>.inl (by simp)) Z1i⟩
 | goto l=>exact⟨_,a₁,w₁,hq,.pass (x:=.inLoop c) rfl (λ_ _=>.inl (by simp)) Z1i⟩
 | ret=>exact⟨_,a₁,w₁,hq,.pass (x:=.inLoop c) rfl (λ_ _=>.inl (by simp)) Z1i⟩
 | panic ch=>exact⟨_,a₁,w₁,hq,.pass (x:=.inLoop c) rfl (λ_ _=>.inl (by simp)) Z1i⟩
 | outgrown=>exact⟨_,a₁,w₁,hq,.pass (x:=.inLoop c) rfl (λ_ _=>.inl (by simp)) Z1i⟩
end
def D0:Id->Prop:=Mz 64000
theorem D0.zero {id:Id} (h:D0 id):id.1=0:=h.1
def YN (P:Program) (B:Nat) (io:Nat->Prop) (fl:List Nat) (w:World) (a:Act) (U:AZ) (t':St) (a':Act) (w':World):Prop:=
 ∃U' F',Rel P B io w' a'.tmps t' U' F' fl/\C3 B io w w'/\(∀id i,id.1=0->U id=some i->U' id=some i)/\a'.tmps.size=a.tmps.size/\a'.defers=a.defers
def Cx (P:Program) (c:Code) (S:St) (R:Ex->St->Prop):Prop:=
 ∀(t:St) (B:Nat) (io:Nat->Prop) (w:World) (a:Act) (U:AZ) (F:Id->List Nat) (fl:List Nat) (Q:Exit->Act->World->Prop),Q4 D0 S t->Rel P B io w a.tmps t U F fl->Fc a.tmps.size c=true->
  (∀ex S' t' a' w',R ex S'->Fe D0 t S' t'->YN P B io fl w a U t' a' w'->Q ex.to a' w')->wpL P c Q a w
section
variable {P:Program} {M:X9} {C:Kr} {S:St} {R:Ex->St->Prop} {B:Nat} {io:Nat->Prop} {w w1:World} {a a1 a':Act} {w':World} {U U1:AZ} {F F1:Id->List Nat} {fl:List Nat} {t t':St}
theorem GX.x (h:GX P B io fl w a U t' a' w'):YN P B io fl w a U t' a' w':=by
 obtain⟨U',F',h1,h2,h3,h4,h5⟩:=h;exact⟨U',F',h1,h2,λid i _ h=>h3 id i h,h4,h5⟩
theorem YN.trans (hl:C3 B io w w1) (hU:∀id i,id.1=0->U id=some i->U1 id=some i) (ht:a1.tmps.size=a.tmps.size) (hd:a1.defers=a.defers) (h:YN P B io fl w1 a1 U1 t' a' w'):YN P B io fl w a U t' a' w':=by
 obtain⟨U',F',h1,h2,h3,h4,h5⟩:=h;exact⟨U',F',h1,hl.trans h2,λid i h0 h=>h3 id i h0 (hU id i h0 h),h4.trans ht,h5.trans hd⟩
theorem Xfn (h:R .normal S):Cx P .skip S R:=λt B io w a U F fl Q hE hR hd hQ=>wp_skip (hQ _ _ _ _ _ h hE.three (GX.refl hR).x)
theorem Rb (h:R .ret S):Cx P .ret S R:=λt B io w a U F fl Q hE hR hd hQ=>wp_ret (hQ _ _ _ _ _ h hE.three (GX.refl hR).x)
theorem Xe4 {i:Nat} (h:R (.exit i) S):Cx P (.exit i) S R:=λt B io w a U F fl Q hE hR hd hQ=>wp_exit (hQ _ _ _ _ _ h hE.three (GX.refl hR).x)
def Oj (K:St->Prop) (R:Ex->St->Prop):Ex->St->Prop
 | .normal,s=>K s
 | e,s=>R e s
theorem Rc {x y:Code} (h:Cx P x S (Oj (λs=>Cx P y s R) R)):Cx P (.seq x y) S R:=by
 intro t B io w a U F fl Q hE hR hd hQ;simp only[Fc,Bh] at hd;refine wp_seq (TH (h t B io w a U F fl _ hE hR hd.1 (λex S' t' a' w' hr hx hA=>?_)));cases ex with
 | normal=>
  obtain⟨U',F',r1,r2,r3,r4,r5⟩:=hA;show y.wp P Q a' w';exact TH (hr t' B io w' a' U' F' fl Q hx.1 r1 (by rw[r4];exact hd.2) (λex2 S2 t2 a2 w2 Cw D9 zC=>hQ _ _ _ _ _ Cw (hx.trans D9) (.trans r2 r3 r4 r5 zC)))
 | ret=>exact hQ _ _ _ _ _ hr hx hA
 | exit i=>exact hQ _ _ _ _ _ hr hx hA
theorem Y3t {c:Operand} {x y:Code} {b:Bool} (hc:S.AQ c=.lit (.bool b)) (h:Cx P (if b then x else y) S R):Cx P (.cond c x y) S R:=by
 intro t B io w a U F fl Q hE hR hd hQ;simp only[Fc,Bh] at hd;have hv:=hR.AQ c;rw[hE.AQ,hc] at hv;generalize hq:a.eval c=q at hv;cases hv;refine wp_cond hq (TH ?_);refine h t B io w a U F fl Q hE hR ?_ hQ;cases b
 .exact hd.2
 .exact hd.1
def inX (i:Nat) (R:Ex->St->Prop):Ex->St->Prop
 | .exit j,s=>if j=i then R .normal s else R (.exit j) s
 | e,s=>R e s
theorem Xcq {i:Nat} {c:Code} (h:Cx P c S (inX i R)):Cx P (.block i c) S R:=by
 intro t B io w a U F fl Q hE hR hd hQ;simp only[Fc] at hd;refine wp_block (TH (h t B io w a U F fl _ hE hR hd (λex S' t' a' w' hr hx hA=>?_)));cases ex with
 | exit j=>
  show Exit.inBlock i Q (.exit j) a' w';simp only[inX] at hr;by_cases hj:j=i
  .subst hj
   rw[Ah rfl] at hr;simp only[Exit.inBlock,if_true];exact hQ _ _ _ _ _ hr hx hA
  .rw[Ai hj] at hr
   simp only[Exit.inBlock,Ai hj];exact hQ _ _ _ _ _ hr hx hA
 | normal=>exact hQ _ _ _ _ _ hr hx hA
 | ret=>exact hQ _ _ _ _ _ hr hx hA
theorem Xd1 {c:Code} (h:Cx P c S (Oj (λs=>Cx P (.loop c) s R) R)):Cx P (.loop c) S R:=by
 intro t B io w a U F fl Q hE hR hd hQ;refine Xbt (TH (h t B io w a U F fl _ hE hR hd (λex S' t' a' w' hr hx hA=>?_)));cases ex with
 | normal=>
  obtain⟨U',F',r1,r2,r3,r4,r5⟩:=hA;show Lw P c Q a' w';exact hr t' B io w' a' U' F' fl Q hx.1 r1 (by rw[r4];exact hd) (λex2 S2 t2 a2 w2 Cw D9 zC=>hQ _ _ _ _ _ Cw (hx.trans D9) (.trans r2 r3 r4 r5 zC))
 | ret=>exact hQ _ _ _ _ _ hr hx hA
 | exit i=>exact hQ _ _ _ _ _ hr hx hA
theorem zD {c:Code} {R':Ex->St->Prop} (h:Cx P c S R) (hR:∀e s,R e s->R' e s):Cx P c S R':=λt B io w a U F fl Q hE zE hd hQ=>h t B io w a U F fl Q hE zE hd (λex S' t' a' w' hr=>hQ ex S' t' a' w' (hR _ _ hr))
abbrev zF:=FuncId×List V×V×List V
open Classical in
noncomputable def one (q:zF):Kr:=λf xs=>if f=q.1/\xs=q.2.1 then some q.2.2 else none
def X4:Kr:=λ_ _=>none
def Zq (P:Program) (M:X9) (q:zF):Prop:=(∃fn,P.funcs[q.1]?=some fn/\fn.body.isSome=true)/\Oh P (M.AV q.1) q.1 q.2.1 q.2.2.1 q.2.2.2
theorem Re (hP:We P) {q:zF} (h:Zq P M q):HX P M (one q):=Ywv hP λf xs r os hc=>by
 obtain⟨q1,q2,q3,q4⟩:=q;unfold one at hc;split at hc
 .rename_i hh
  obtain⟨rfl,rfl⟩:=hh;injection hc with hc;injection hc with h1 h2;subst h1;subst h2;exact h
 .cases hc
theorem Wn (hP:We P):HX P M X4:=Ywv hP λf xs r os hc=>by cases hc
theorem Rf (hP:We P) (C:Nat->Kr) (hC:∀k,HX P M (C k)) {i:Nat} {ops:Array Oper} {S':St} (he:Gb P M C ops ⟨S.env,S.heap,S.ep+1⟩ 0 ops.toList=some S') (h:R .normal S'):Cx P (.region i ops false) S R:=by
 intro t B io w a U F fl Q hE hR hd hQ;have ht:=hE.tick;obtain⟨t',g,x,_⟩:=Q4.XT (D:=D0) (λid h=>h.zero) ops.toList ht.1 (by simp) he;have Xa:∀id:Id,id.1=t.ep+1->U id=none:=λid Zu=>by
  cases hr:U id with
  | none=>rfl
  | some x=>have:=hR.CB id (by rw[hr];rfl);omega
 refine wp_region ?_;rw[vK,<-Array.length_toList];exact Xbv hC ops.toList hR.tick (by simp) hd (λid h2 _=>Xa id h2) g (λa' w' hA=>hQ _ _ _ _ _ h (ht.trans x) hA.x)
theorem Xfm (hP:We P) (C:Nat->Kr) (hC:∀k,HX P M (C k)) {i:Nat} {ops:Array Oper} (hs:Region.noSelect ops=true) {S':St} (he:Fy P M C ops ⟨S.env,S.heap,S.ep+1⟩ [] 0 ops.toList=some S') (h:R .normal S'):Cx P (.region i ops true) S R:=by
 intro t B io w a U F fl Q hE hR hd hQ;have ht:=hE.tick;obtain⟨t',g,x⟩:=Q4.draw (D:=D0) (λid h=>h.zero) ops.toList ht.1 (by simp) he;have Xa:∀id:Id,id.1=t.ep+1->U id=none:=λid Zu=>by
  cases hr:U id with
  | none=>rfl
  | some x=>have:=hR.CB id (by rw[hr];rfl);omega
 refine wp_region_any hP.mixed (Y82 hC (hR.tick.drawn _) g Xa hd (λa' w' hA=>hQ _ _ _ _ _ h (ht.trans x) ?_));obtain⟨U',F',r1,r2,r3,r4,r5⟩:=hA;exact⟨U',F',r1,⟨r2.os,r2.tape,r2.output,r2.size,r2.block⟩,λid i _ h=>r3 id i h,r4,r5⟩
end
section
variable {P:Program} {M:X9} {B:Nat} {io:Nat->Prop} {w:World} {a:Act} {s:St} {U:AZ} {F:Id->List Nat} {fl:List Nat} {k:Nat} {o:Oper}
theorem Y4j (h:Rel P B io w a.tmps s U F fl) {t yt e:TypeId} {x y:Operand} (ho:o.op=.binOp .eql t x y yt) (Q6:Q0 P t=some e) (hx:s.AQ x=.tr []) (hy:s.AQ y=.lit (.slice none 0 0)):
  ∃b,Ci P o a w (Cj P B io w a.tmps s U fl k (.lit (.bool b)) s):=by
 have ht:=Mj Q6;have WZ:∃ad n c,a.eval x=.slice ad n c:=by
  have hR:=h.rowsOf (ok':=λg=>g < w.heap.size) (h.AQ x) (by rw[hx];rfl) (λg hg=>hg.2) (λ_ _ _ _ _ _ _ _ _ _ _ _ hg _=>hg);generalize a.eval x=q at hR;cases hR with
  | emp=>exact⟨_,_,_,rfl⟩
  | tr=>exact⟨_,_,_,rfl⟩
 obtain⟨ad,n,c,WZ⟩:=WZ;have IL:a.eval y=.slice none 0 0:=by
  have:=h.AQ y;rw[hy] at this;generalize a.eval y=q at this;cases this;rfl
 refine⟨ad.isNone,.value (v:=.bool ad.isNone) (w':=w) ?_ (.same h (.lit rfl))⟩;have g3:(eqGuard .eql t x y (.slice ad n c) (.slice none 0 0)).run P w=.ok () w:=by simp[eqGuard]
 have g4:(binOp .eql t (.slice ad n c) (.slice none 0 0)).run P w=.ok (.bool ad.isNone) w:=by
  have h1:∀d,(Op.equalIn (d+1) t (.slice ad n c) (.slice none 0 0)).run P w=.ok ad.isNone w:=by
   intro d;cases ad<;>simp[Op.equalIn,run_underlying ht]
  have h2:(Op.equal t (.slice ad n c) (.slice none 0 0)).run P w=.ok ad.isNone w:=h1 9999;simp[binOp,h2]
 simp only[execOp,ho,Sem.run_bind,Sem.run_pure,Result.andThen_ok,WZ,IL,g3,g4]
theorem Xfh (M:X9) (hP:We P) {S:St} {R:Ex->St->Prop} {i:Nat} {d0 d1:Tmp} {x0 y:Operand} {t yt e Rg Ln:TypeId} {p0 p1:String} {Rh Lo:Array Edge} (Q6:Q0 P t=some e) (hx:S.AQ x0=.tr []) (hy:(({S with ep:=S.ep+1}:St).put (some d0) (.tr [])).AQ y=.lit (.slice none 0 0))
  (h:∀b,R .normal ((({S with ep:=S.ep+1}:St).put (some d0) (.tr [])).put (some d1) (.lit (.bool b)))):
  Cx P (.region i #[⟨some d0,.move x0,Rg,p0,Rh,none⟩,⟨some d1,.binOp .eql t (.tmp d0) y yt,Ln,p1,Lo,none⟩] false) S R:=by
 intro t1 B io w a U F fl Q hE hR hd hQ;have ht:=hE.tick;have YO:∀{s s':St} (x:Operand),s'.env=s.env->s'.AQ x=s.AQ x:=λ{s s'} x he=>by cases x<;>simp[St.AQ,he]
 have Xa:∀id:Id,id.1=t1.ep+1->U id=none:=λid Zu=>by
  cases hr:U id with
  | none=>rfl
  | some x=>have:=hR.CB id (by rw[hr];rfl);omega
 refine wp_region ?_;show wpOps P _ Q (List.range 2) a w;rw[show List.range 2=[0,1] from rfl,wpOps_cons];have hdd:Mw a.tmps.size [⟨some d0,.move x0,Rg,p0,Rh,none⟩,⟨some d1,.binOp .eql t (.tmp d0) y yt,Ln,p1,Lo,none⟩]=true:=hd;have EC:({t1 with ep:=t1.ep+1}:St).AQ x0=.tr []:=(YO (s:=S) (s':={t1 with ep:=t1.ep+1}) x0 hE.env).trans hx;refine XL (M:=M) (C:=X4) (v:=.tr []) (s1:={t1 with ep:=t1.ep+1}) (g:=true) hR.tick rfl (jR (i:=0) hdd rfl) rfl (λ_ id h1 _=>Xa id h1) (λ_=>by simp[I6,Xn,EC]) (λ_=>Wn hP _ _ _ _ _ _ F _ _ _ _ hR.tick (λid h1 _=>Xa id h1)) (λa' w' U' F' DE zG hL1 hU1 hdom1 YP zH=>?_);simp only[if_true] at DE zG;rw[wpOps_cons];have YQ:(({t1 with ep:=t1.ep+1}:St).put (some d0) (.tr [])).env=(({S with ep:=S.ep+1}:St).put (some d0) (.tr [])).env:=by
  simp[St.put,hE.env]
 have HT:=(YO (s:=({S with ep:=S.ep+1}:St).put (some d0) (.tr [])) (s':=({t1 with ep:=t1.ep+1}:St).put (some d0) (.tr [])) y YQ).trans hy;have zI:(({t1 with ep:=t1.ep+1}:St).put (some d0) (.tr [])).AQ (.tmp d0)=.tr []:=by simp[St.AQ,St.put,Bm]
 obtain⟨b,hb⟩:=Y4j (k:=1) (o:=⟨some d1,.binOp .eql t (.tmp d0) y yt,Ln,p1,Lo,none⟩) DE rfl Q6 zI HT;unfold wpOp;rw[show (#[(⟨some d0,.move x0,Rg,p0,Rh,none⟩:Oper),⟨some d1,.binOp .eql t (.tmp d0) y yt,Ln,p1,Lo,none⟩])[1]?=some ⟨some d1,.binOp .eql t (.tmp d0) y yt,Ln,p1,Lo,none⟩ from rfl];simp only;rw[Ysp DE (o:=⟨some d1,.binOp .eql t (.tmp d0) y yt,Ln,p1,Lo,none⟩) (g:=true) rfl];simp only[if_true];refine .inl (hb.Cs _ _ (λval w2 hp=>?_));obtain⟨CW,Yo,hl,U2,F2,Lf,Wa,kH,hdom2⟩:=hp;have zJ:=Lf.QI (dst:=some d1) (λd hd=>by rw[YP];exact jR (i:=1) hdd rfl d hd) Wa;refine hQ _ _ _ _ _ (h b) ((ht.trans (ht.1.put (some d0) (.tr []))).trans ((ht.1.put (some d0) (.tr [])).1.put (some d1) (.lit (.bool b)))) ⟨U2,F2,zJ,hL1.trans hl,λid i h0 hi=>kH _ _ (hU1 _ _ hi),(x6 _ _ _).trans YP,(x7 _ _ _).trans zH⟩
end
theorem En.zK {w:World} {ok:Nat->Prop} {U U':AZ} {v:Value} {id:Id} {i off:Nat} (hU:∀i,U id=some i->U' id=some i) (h:En w ok U v (.ptr id i off)):En w ok U' v (.ptr id i off):=by
 generalize hq:V.ptr id i off=q at h;cases h<;>cases hq;rename_i h;exact .ptr (hU _ h)
theorem En.sl0 {w:World} {ok:Nat->Prop} {U U':AZ} {v:Value} {id:Id} {off len:Nat} (hU:∀i,U id=some i->U' id=some i) (h:En w ok U v (.sl id off len)):En w ok U' v (.sl id off len):=by
 cases h with
 | sl h hc=>exact .sl (hU _ h) hc
 | sle h=>
  obtain⟨i,hi⟩:=Ft.1 h;exact .sle (by rw[hU _ hi];rfl)
theorem Pl.Ri {U U':AZ} (hU:∀id i,id.1=0->U id=some i->U' id=some i) {p:Nat} {m:Yw} {u:Value} {x:V} (h:Pl U p m u x):Pl U' p m u x:=by
 cases m
 .exact trivial
 .exactλw ok=>(h w ok).zK (λi=>hU _ i rfl)
 .exact trivial
 .unfold Pl at h ⊢
  simp only at h ⊢;split
  .obtain⟨us,h1,h2,h3⟩:=h
   exact⟨us,h1,h2,λj v e rows hv hc w ok=>(h3 j v e rows hv hc w ok).sl0 (λi=>hU _ i rfl)⟩
  .rename_i Yj
   split at h
   .rename_i cs;exact absurd rfl (Yj cs)
   .exactλe rows he w ok=>(h e rows he w ok).sl0 (λi=>hU _ i rfl)
theorem Og.Ri {U U':AZ} (hU:∀id i,id.1=0->U id=some i->U' id=some i) {p:Nat} {ms:List Yw} {us:List Value} {xs:List V} (h:Og U p ms us xs):Og U' p ms us xs:=by
 induction h with
 | nil=>exact .nil
 | cons h _ ih=>exact .cons (h.Ri hU) ih
def Rj (P:Program) (M:X9) (f:FuncId) (fn:Func) (xs:List V) (y:V×List V) (e:Ex) (s:St):Prop:=
 (match e with|.exit _=>False|_=>True)/\((GO P s fn.results.toList).bind λvs=>(s.liftAll P fn.resultTypes.toList vs).bind λz=>(z.2.outs P 0 fn.params.toList (M.AV f) xs).map λos=>(VH z.1,os))=some y
section
variable {P:Program} {M:X9}
theorem Xeu (hP:We P) {f:FuncId} {fn:Func} {c:Code} {xs:List V} {r:V} {os:List V} {s1:St} (CU:P.funcs[f]?=some fn) (hc:fn.body=some c) (zL:St.enters ⟨λ_=>.undef,λ_=>none,0⟩ 0 (M.AV f) xs=some s1)
  (WH:Cx P c s1 (Rj P M f fn xs (r,os))):Oh P (M.AV f) f xs r os:=by
 intro w us G T X ok hT M8 Oi hG Yl hX;obtain⟨b,hb⟩:∃b,b=64000:=⟨_,rfl⟩;have hD1:∀id:Id,Mz b id->64000<=id.2:=λid Zu=>by rw[<-hb];exact Zu.2
 have hD0:∀id:Id,Mz b id->id.1=0:=λid Zu=>Zu.1;obtain⟨t1,YR,e1⟩:=Q4.enters hD1 (QS b w X) zL
 let tmps:=us++Array.replicate (fn.ntmps - us.size) undef
 open Classical in
 let Ia:List Nat:=(List.range w.heap.size).filter λg=>decide (g ∉ G/\¬X g)
 have NQ:∀g,g∈Ia↔g < w.heap.size/\g ∉ G/\¬X g:=λg=>by
  simp only[Ia,P5,V9,Bl]
 have zM:(G++Ia).Nodup:=EX.2 ⟨Oi,List.nodup_range.sublist List.filter_sublist,λx hx y hy e=>by subst e;exact ((NQ x).1 hy).2.1 hx⟩;have YS:J0 P w.heap.size T w tmps (DM b w X) (CL b P w X) (λid=>[id.2 - b]) (G++Ia) ok:=
  QT hT hX (λg hg=>by
   rcases BP.1 hg with h|h
   .exact hG g h
   .exact⟨((NQ g).1 h).1,((NQ g).1 h).2.2⟩) zM
 obtain⟨U1,F1,c1,p1⟩:=Y8o (io:=T) (fl:=Ia) xs YS M8 (λj u hu=>by
  have Ya:=(Dg.1 hu).1;rw[P6];simp only[tmps];rw[iA (by simpa using Ya)];simpa using hu) rfl (λj h1 h2=>by
  simp only[DM,CL];constructor
  .rw[Ai (λh=>by have:=h.2.1;omega)]
  .rw[Ai (λh=>by have:=h.2.1;omega)]) YR
 have zN:J0 P w.heap.size T w tmps t1 U1 F1 Ia ok:=c1.rel;have DE:Rel P w.heap.size T w tmps t1 U1 F1 Ia:=zN.IQ λg hg=>⟨λht=>by
  obtain⟨h1,h2,h3⟩:=Yl g hg;rcases c1.AK g ht with h4|h4
  .obtain⟨id,bk,o,cc,sz,q1,q2,q3⟩:=h4
   simp only[DM] at q1;split at q1
   .rename_i hh
    obtain⟨cur,e,QH⟩:=hX _ hh.2.2;simp only[CL] at q3;rw[Ah hh] at q3;simp only[XV,QH] at q3;injection q3 with q3;injection q3 with q3;exact h3 (q3▸hh.2.2)
   .cases q1
  .exact h2 h4,(Yl g hg).1⟩
 have hDb:D0=Mz b:=by rw[hb];rfl
 have EF:Q4 D0 s1 t1:=by rw[hDb];exact e1.1
 refine calls_of_wp CU hc (TH (WH t1 w.heap.size T w {tmps:=tmps,defers:=[]} U1 F1 Ia _ EF DE ?_ (λex s2 t2 a' w' Lp hx hA=>?_)))
 .refine Y5o ?_ c (hP.dst f fn c CU hc)
  simp only[tmps,vS,Array.size_replicate];omega
 have e2:Fe (Mz b) t1 s2 t2:=by rw[<-hDb];exact hx
 obtain⟨zO,Lp⟩:=Lp;obtain⟨vs,TF,Lp⟩:=AA.1 Lp;obtain⟨⟨ys,s3⟩,YT,Lp⟩:=AA.1 Lp;obtain⟨os',j8,Lp⟩:=AM.1 Lp;simp only[A7] at Lp;obtain⟨rfl,rfl⟩:=Lp;have zP:ex=.normal\/ex=.ret:=by
  cases ex with
  | normal=>exact .inl rfl
  | ret=>exact .inr rfl
  | exit i=>exact zO.elim
 have YU:=e2.1.res TF;obtain⟨t3,Xfz,e3⟩:=Ext.liftAll e2.1.ext YT;have Xf0:=Ext.outs e3.1 j8;have YV:∀g,X g->t2.heap (0,b+g)=some (Lm w g):=λg hg=>by
  have hd:Mz b (0,b+g):=⟨rfl,by simp⟩;rw[e2.2 _ hd,e1.2 _ hd];simp only[DM];rw[Ah ⟨by trivial,by omega,by rw[Vy];exact hg⟩,Vy]
 obtain⟨U2,F2,Lf,M9,kH,GZ,Eh⟩:=hA;obtain⟨rus,Du,YW,zQ⟩:=Xd5 Lf fn.results.toList YU;obtain⟨fr,zJ,Lq,hl3⟩:=Y49 Lf vs (fl1:=Ia) Lf (.refl _) Du zQ Xfz;obtain⟨t4,fo,hd4,YX,yW,hl4⟩:=Xen (D:=Mz b) Lf xs zJ hl3 (p1.Ri kH) e3.1 j8 Xf0;have YY:∀g,X g->∃e,Lm w g=⟨false,true,false,e,[]⟩:=λg hg=>by
  obtain⟨cur,e,QH⟩:=hX g hg;exact⟨e,by simp only[Lm,QH]⟩
 have YZ:∀g,X g->∃o c sz,U2 (0,b+g)=some (.Bn g o c sz):=λg hg=>by
  obtain⟨cur,e,QH⟩:=hX g hg;have h1:CL b P w X (0,b+g)=some (.Bn g cur.size 0 (P.cellsOf e)):=by
   simp only[CL];rw[Ah ⟨by trivial,by omega,by rw[Vy];exact hg⟩,Vy];simp only[XV,QH]
  exact⟨_,_,_,kH _ _ rfl (c1.ext _ _ h1)⟩
 have ZA:∀g,X g->AK t2 U2 g:=λg hg=>by
  obtain⟨e,he⟩:=YY g hg;obtain⟨o,c,sz,hr⟩:=YZ g hg;exact⟨(0,b+g),_,o,c,sz,YV g hg,by rw[he],hr⟩
 have hkt:∀g,DK t2 t4 U2 F2 g->AK t2 U2 g:=λg ⟨id,bk,h1,h2,h3,h4,_⟩=>Lf.E1 h1 h2 h4;have hXF:∀g,X g->∀x∈fo++(fr++Ia),x≠g:=λg hg x hx e=>by
  subst e;obtain⟨e,he⟩:=YY x hg;obtain⟨o,c,sz,hr⟩:=YZ x hg;have Lh:t4.heap (0,b+x)=some (Lm w x):=by
   have hd:Mz b (0,b+x):=⟨rfl,by simp⟩;rw[hd4 _ hd,e3.2.1 _ hd];exact YV x hg
  have Yz:(Lm w x).own=true:=by rw[he]
  have hB:=YX.heap _ _ Lh;rw[hr] at hB;exact YX.A8 _ _ Lh Yz x (hB.top Yz) hx
 have Xdt:bodyPost P fn (λe w'=>∃v,e=.returned v/\QR P (M.AV f) w us xs G T X (VH ys) os' v w') .normal a' w':=by
  refine⟨Eh,_,Y13 YW,_,rfl,M9,AI t2 U2 w',λg=>DK t2 t4 U2 F2 g,fr,fo,?_,?_,?_,?_,?_,?_⟩
  .exact FE.of (Lq.top λg hg=>hg.left hl4)
  .exact yW.top λg hg=>hg.right hl3
  .have h1:=YX.AU
   rw[<-List.append_assoc] at h1;exact (iC.nodup_iff).1 (EX.1 h1).1
  .intro g hg
   have hm:g∈fo++(fr++Ia):=by
    rcases BP.1 hg with h|h
    .exact D3 _ (CH _ h)
    .exact CH _ h
   refine⟨YX.AS g hm,?_⟩;rcases Mc g w.heap.size with Ya|NV
   .left
    rcases Classical.em (g∈G) with h|h
    .exact h
    .exfalso
     rcases Classical.em (X g) with hx|hx
     .exact hXF g hx g hm rfl
     .have hf:g∈Ia:=(NQ g).2 ⟨Ya,h,hx⟩
      have h1:=YX.AU;rw[<-List.append_assoc] at h1;refine (EX.1 h1).2.2 g ?_ g hf rfl;rcases BP.1 hg with h|h
      .exact D3 _ h
      .exact CH _ h
   .exact .inr NV
  .rintro g ⟨id,bk,h1,h2,h3,h4,h5⟩
   exact Lf.top id bk h1 h2 h5 g h4
  .exactλg hg=>⟨hg.2,λh=>hg.1 (hkt g h),λh=>hg.1 (ZA g h)⟩
 rcases zP with rfl|rfl
 .exact Xdt
 .exact Xdt
theorem Xd2 (hP:We P) {f:FuncId} {fn:Func} {c:Code} {xs:List V} {r:V} {os:List V} {s1:St} (CU:P.funcs[f]?=some fn) (hc:fn.body=some c) (zL:St.enters ⟨λ_=>.undef,λ_=>none,0⟩ 0 (M.AV f) xs=some s1)
  (WH:Cx P c s1 (Rj P M f fn xs (r,os))):Zq P M (f,xs,r,os):=⟨⟨fn,CU,by rw[hc];rfl⟩,Xeu hP CU hc zL WH⟩
end
def TI (l:List (Nat×V)):Nat->V:=λt=>(l.lookup t).getD .undef
def zR (l:List (Id×Be)):Id->Option Be:=λid=>l.lookup id
def Ok (l:List (Nat×V)) (h:List (Id×Be)) (ep:Nat):St:=⟨TI l,zR h,ep⟩
def Di (f:List (Id×Id)) (id:Id):Option Id:=if id.1=0 then some id else f.lookup id
def Dj (f:List (Id×Id)):V->V->Prop
 | .undef,_=>True
 | .lit v,y=>y=.lit v
 | .tr rows,y=>y=.tr rows
 | .vw rows,y=>y=.vw rows
 | .rp sh row off,y=>y=.rp sh row off
 | .ptr id i off,.ptr Ax i' F6=>Di f id=some Ax/\i=i'/\off=F6
 | .sl id off len,.sl Ax F6 Mm=>Di f id=some Ax/\off=F6/\len=Mm
 | .sl id off len,.lit (.slice none 0 0)=>Di f id=none/\off=0/\len=0
 | _,_=>False
def JC (f:List (Id×Id)):List V->List V->Prop
 | [],[]=>True
 | x::xs,y::ys=>Dj f x y/\JC f xs ys
 | _,_=>False
def VR (f:List (Id×Id)):V->V->Prop
 | .agg xs,.agg ys=>JC f xs ys
 | .AX xs,.AX ys=>JC f xs ys
 | .fn g xs,.fn g' ys=>g=g'/\JC f xs ys
 | x,y=>Dj f x y
def BR (f:List (Id×Id)) (S:St) (id:Id) (b:Be):Prop:=
 match Di f id with
 | none=>b.box=false/\b.own=true/\b.rows=[]
 | some Ax=>∃c,S.heap Ax=some c/\c.box=b.box/\c.own=b.own/\c.cl=b.cl/\(if b.box then (∃xs ys,b.rows=[xs]/\c.rows=[ys]/\JC f xs ys) else (c.el=b.el/\c.rows=b.rows))
def MA (h:List (Id×Be)) (id:Id):Bool:=id.1 == 0||(h.lookup id).isSome
def JD (h:List (Id×Be)):V->Bool
 | .ptr id _ _|.sl id _ _=>MA h id
 | .undef=>false
 | _=>true
def JE (h:List (Id×Be)):V->Bool
 | .agg xs|.AX xs|.fn _ xs=>xs.all (JD h)
 | x=>JD h x
def hasB (h:List (Id×Be)) (b:Be):Bool:=if b.box then b.rows.all (λr=>r.all (JD h)) else true
def kI (f:List (Id×Id)) (l:List (Nat×V)) (h:List (Id×Be)) (ep:Nat):Bool:=
 decide ((h.filterMap λp=>Di f p.1).Nodup)&&decide ((h.map (·.1)).Nodup)&&h.all (λp=>decide (p.1.1<=ep)&&decide (p.1.2 < 64000))&&l.all (λp=>JE h p.2)&&h.all λp=>hasB h p.2
structure Lr (f:List (Id×Id)) (S:St) (l:List (Nat×V)) (h:List (Id×Be)) (ep:Nat):Prop where
 env:∀p∈l,VR f p.2 (S.env p.1)
 heap:∀p∈h,BR f S p.1 p.2
 ok:kI f l h ep=true
theorem ZB {α β:Type} [BEq α] [LawfulBEq α] {l:List (α×β)} {a:α} {b:β} (h:l.lookup a=some b):(a,b)∈l:=by
 induction l with
 | nil=>simp at h
 | cons p l ih=>
  obtain⟨x,y⟩:=p;simp only[List.lookup] at h;split at h
  .rename_i he
   injection h with h;subst h;rw[eq_of_beq he];exact BI
  .exact Cg _ (ih h)
section
variable {P:Program} {B:Nat} {io:Nat->Prop} {w:World} {tmps:Array Value} {S t:St} {U:AZ} {F:Id->List Nat} {fl:List Nat} {f:List (Id×Id)} {l:List (Nat×V)} {h:List (Id×Be)} {ep:Nat}
open Classical in
noncomputable def DN (t:St) (l:List (Nat×V)) (h:List (Id×Be)) (ep:Nat):St:=⟨TI l,λid=>if D0 id then t.heap id else zR h id,ep⟩
noncomputable def Cc (U:AZ) (f:List (Id×Id)) (h:List (Id×Be)):AZ:=λid=>if id.1=0 then U id else if (h.lookup id).isSome then (match f.lookup id with|some Ax=>U Ax|none=>some .emp) else none
def Ol (F:Id->List Nat) (f:List (Id×Id)):Id->List Nat:=λid=>if id.1=0 then F id else match f.lookup id with|some Ax=>F Ax|none=>[]
theorem MB {id Ax:Id} (hh:MA h id=true) (hr:Di f id=some Ax):Cc U f h id=U Ax:=by
 unfold Cc Di at*;by_cases h0:id.1=0
 .rw[Ah h0] at hr ⊢;injection hr with hr;rw[hr]
 .rw[Ai h0] at hr ⊢
  simp only[MA,NB,beq_iff_eq,h0,false_or] at hh;rw[Ah hh,hr]
theorem kJ {id Ax:Id} (hr:Di f id=some Ax):Ol F f id=F Ax:=by
 unfold Ol Di at*;by_cases h0:id.1=0
 .rw[Ah h0] at hr ⊢;injection hr with hr;rw[hr]
 .rw[Ai h0] at hr ⊢;rw[hr]
theorem zS {id:Id} (hh:MA h id=true) (hr:Di f id=none):Cc U f h id=some .emp:=by
 unfold Cc Di at*;by_cases h0:id.1=0
 .rw[Ah h0] at hr;cases hr
 .rw[Ai h0] at hr ⊢
  simp only[MA,NB,beq_iff_eq,h0,false_or] at hh;rw[Ah hh,hr]
theorem Y25 {id:Id} (hr:Di f id=none):Ol F f id=[]:=by
 unfold Ol Di at*;by_cases h0:id.1=0
 .rw[Ah h0] at hr;cases hr
 .rw[Ai h0] at hr ⊢;rw[hr]
theorem Dj.en {ok ok':Nat->Prop} (Yl:∀g,ok g->ok' g) {v:Value} {x y:V} (hh:JD h x=true) (hr:Dj f x y) (hv:En w ok U v y):En w ok' (Cc U f h) v x:=by
 cases x with
 | undef=>exact .undef
 | lit u=>simp only[Dj] at hr;subst hr;cases hv with|lit h=>exact .lit h
 | tr rows=>simp only[Dj] at hr;subst hr;cases hv with|tr h=>exact .tr (h.C8 Yl)
 | vw rows=>simp only[Dj] at hr;subst hr;cases hv with|vw h=>exact .vw (h.C8 Yl)
 | rp sh row off=>simp only[Dj] at hr;subst hr;cases hv with|rp h=>exact .rp (h.C8 Yl)
 | ptr id i off=>
  cases y<;>simp only[Dj] at hr;obtain⟨h1,rfl,rfl⟩:=hr;simp only[JD] at hh;generalize hq:V.ptr _ i off=q at hv;cases hv<;>cases hq;rename_i h2;exact .ptr (by rw[MB hh h1];exact h2)
 | sl id off len=>
  simp only[JD] at hh;cases y with
  | sl Ax F6 Mm=>
   simp only[Dj] at hr;obtain⟨h1,rfl,rfl⟩:=hr;cases hv with
   | sl h2 hc=>exact .sl (by rw[MB hh h1];exact h2) hc
   | sle h2=>exact .sle (by rw[MB hh h1];exact h2)
  | lit u=>
   unfold Dj at hr;split at hr<;>rename_i h1 h2<;>first|cases h1|skip
   all_goals first|exact hr.elim|skip
   all_goals try (cases h2)
   obtain⟨h3,rfl,rfl⟩:=hr;cases hv;exact .sle (by rw[zS hh h3];rfl)
  | _=>simp[Dj] at hr
 | agg _=>simp[Dj] at hr
 | AX _=>simp[Dj] at hr
 | fn _ _=>simp[Dj] at hr
 | own _ _=>simp[Dj] at hr
 | CQ _=>simp[Dj] at hr
theorem JC.get:∀{xs ys:List V},JC f xs ys->xs.length=ys.length/\∀(k:Nat) (x:V),xs[k]?=some x->∃y,ys[k]?=some y/\Dj f x y:=by
 intro xs
 induction xs with
 | nil=>intro ys hr;cases ys with
  | nil=>exact⟨rfl,λk x hk=>by simp at hk⟩
  | cons y ys=>exact hr.elim
 | cons x xs ih=>intro ys hr;cases ys with
  | nil=>exact hr.elim
  | cons y ys=>
   obtain⟨h1,h2⟩:=hr;obtain⟨h3,h4⟩:=ih h2;refine⟨by simp[h3],λk z hk=>?_⟩;cases k with
   | zero=>simp at hk;subst hk;exact⟨y,rfl,h1⟩
   | succ k=>simpa using h4 k z (by simpa using hk)
theorem Dj.AG {x y:V} (hr:Dj f x y) (hx:x≠.undef):Ev.AG x=true:=by
 cases x with
 | undef=>exact absurd rfl hx
 | agg _=>simp[Dj] at hr
 | AX _=>simp[Dj] at hr
 | own _ _=>simp[Dj] at hr
 | CQ _=>simp[Dj] at hr
 | fn _ _=>simp[Dj] at hr
 | _=>rfl
theorem JC.all {ok ok':Nat->Prop} (Yl:∀g,ok g->ok' g) {xs ys:List V} (hr:JC f xs ys) (hh:xs.all (JD h)=true) {vs:List Value} (hv:∀(k:Nat) (v:Value) (y:V),vs[k]?=some v->ys[k]?=some y->En w ok U v y):
  ∀(k:Nat) (v:Value) (x:V),vs[k]?=some v->xs[k]?=some x->En w ok' (Cc U f h) v x:=λk v x h1 h2=>by
 obtain⟨y,h3,h4⟩:=hr.get.2 k x h2;exact h4.en Yl (Cf.1 hh x (E8 h2)) (hv k v y h1 h3)
theorem Y3l {x:V} (hh:JD h x=true):x≠.undef:=by rintro rfl;simp[JD] at hh
theorem VR.en {ok ok':Nat->Prop} (Yl:∀g,ok g->ok' g) {v:Value} {x y:V} (hh:JE h x=true) (hr:VR f x y) (hv:En w ok U v y):En w ok' (Cc U f h) v x:=by
 unfold VR at hr;split at hr
 .rename_i xs ys
  simp only[JE] at hh;cases hv with
  | @agg us _ hl hc he=>
   refine .agg (by rw[hl,hr.get.1]) (λx hx=>?_) (λk v x h1 h2=>hr.all Yl hh (vs:=us.toList) (λk v y h1 h2=>he k v y (by simpa using h1) h2) k v x (by simpa using h1) h2);obtain⟨k,hk,rfl⟩:=P2 hx;obtain⟨y,_,h4⟩:=hr.get.2 k _ (C6 hk);exact h4.AG (Y3l (Cf.1 hh _ (B6 hk)))
 .rename_i xs ys
  simp only[JE] at hh;cases hv with
  | @AX us _ hl he=>exact .AX (by rw[hl,hr.get.1]) (λk v x h1 h2=>hr.all Yl hh (vs:=us.toList) (λk v y h1 h2=>he k v y (by simpa using h1) h2) k v x (by simpa using h1) h2)
 .rename_i g xs g' ys
  obtain⟨rfl,hr⟩:=hr;simp only[JE] at hh;cases hv with
  | @fn _ us _ hl he=>exact .fn (by rw[hl,hr.get.1]) (λk v x h1 h2=>hr.all Yl hh (vs:=us.toList) (λk v y h1 h2=>he k v y (by simpa using h1) h2) k v x (by simpa using h1) h2)
 .have h2:JD h x=true:=by
   cases x<;>first|exact hh|(simp[Dj] at hr)
  exact hr.en Yl h2 hv
theorem Lr.ext (hw:Lr f S l h ep) (hE:Q4 D0 S t):Q4 D0 (Ok l h ep) (DN t l h ep):=by
 have hz:=hw.ok;simp only[kI,Bh,Bl,Cf] at hz;refine⟨⟨rfl,λid Zu=>?_,λid Zu=>?_⟩,rfl,λid b hd hb=>?_⟩
 .simp only[DN,Ok];rw[Ai Zu]
 .simp only[Ok]
  cases hb:zR h id with
  | none=>rfl
  | some b=>
   have:=(hz.1.1.2 _ (ZB hb)).2;have:=Zu.2;simp only at *;omega
 .simp only[DN] at hb
  rw[Ah hd] at hb;exact hE.ph id b hd hb
theorem Lr.Bn (hw:Lr f S l h ep) (hE:Q4 D0 S t) {id:Id} {b:Be} (hb:(DN t l h ep).heap id=some b):
  (D0 id/\t.heap id=some b)\/(¬D0 id/\(id,b)∈h/\MA h id=true/\((Di f id=none/\b.box=false/\b.own=true/\b.rows=[])\/
   ∃Ax c,Di f id=some Ax/\t.heap Ax=some c/\¬D0 Ax/\c.box=b.box/\c.own=b.own/\c.cl=b.cl/\(if b.box then (∃xs ys,b.rows=[xs]/\c.rows=[ys]/\JC f xs ys) else (c.el=b.el/\c.rows=b.rows)))):=by
 simp only[DN] at hb;split at hb
 .rename_i hd;exact .inl ⟨hd,hb⟩
 .rename_i hd
  have hm:=ZB hb;refine .inr ⟨hd,hm,?_,?_⟩
  .simp only[MA,NB];right;rw[show h.lookup id=some b from hb];rfl
  .have:=hw.heap _ hm
   unfold BR at this;simp only at this;split at this
   .rename_i hr;exact .inl ⟨hr,this⟩
   .rename_i Ax hr
    obtain⟨c,h1,h2⟩:=this;exact .inr ⟨Ax,c,hr,hE.ext.get h1,hE.ext.Dn h1,h2⟩
theorem D0.MC {id:Id} (hd:D0 id):Di f id=some id:=by unfold Di;rw[Ah hd.zero]
theorem D0.has {id:Id} (hd:D0 id):MA h id=true:=by simp[MA,hd.zero]
theorem Lr.AK (hw:Lr f S l h ep) (hE:Q4 D0 S t) {g:Nat} (ht:Ev.AK (DN t l h ep) (Cc U f h) g):Ev.AK t U g:=by
 obtain⟨id,b,o,c,sz,h1,h2,h3⟩:=ht;rcases hw.Bn hE h1 with⟨hd,hb⟩|⟨hd,hm,hi,⟨hr,_⟩|⟨Ax,k,hr,hk,_,_,ho,_⟩⟩
 .rw[MB hd.has hd.MC] at h3
  exact⟨id,b,o,c,sz,hb,h2,h3⟩
 .rw[zS hi hr] at h3;cases h3
 .rw[MB hi hr] at h3
  exact⟨Ax,k,o,c,sz,hk,ho.trans h2,h3⟩
theorem Xee:∀{h:List (Id×Be)} {id G0 Ax:Id} {b b2:Be},(h.filterMap λp=>Di f p.1).Nodup->(id,b)∈h->(G0,b2)∈h->Di f id=some Ax->Di f G0=some Ax->id=G0:=by
 intro h
 induction h with
 | nil=>intro id G0 Ax b b2 _ h1;simp at h1
 | cons p h ih=>
  intro id G0 Ax b b2 hn h1 h2 hr Cw;have mem:∀{i:Id} {c:Be},(i,c)∈h->Di f i=some Ax->Ax∈h.filterMap λp=>Di f p.1:=λhm hi=>List.mem_filterMap.2 ⟨_,hm,hi⟩;rw[List.filterMap_cons] at hn;rcases BX.1 h1 with e1|e1
  .rcases BX.1 h2 with e2|e2
   .rw[<-e1] at e2;injection e2 with e2;exact e2.symm
   .rw[<-e1] at hn
    simp only[hr] at hn;exact absurd (mem e2 Cw) (EY.1 hn).1
  .rcases BX.1 h2 with e2|e2
   .rw[<-e2] at hn
    simp only[Cw] at hn;exact absurd (mem e1 hr) (EY.1 hn).1
   .refine ih ?_ e1 e2 hr Cw
    split at hn
    .exact hn
    .exact (EY.1 hn).2
theorem Lr.rel (hw:Lr f S l h ep) (hE:Q4 D0 S t) (hR:Rel P B io w tmps t U F fl):Rel P B io w tmps (DN t l h ep) (Cc U f h) (Ol F f) fl:=by
 have hz:=hw.ok;simp only[kI,Bh,Bl,Cf] at hz;have Yl:∀g,AI t U w g->AI (DN t l h ep) (Cc U f h) w g:=λg hg=>⟨λht=>hg.1 (hw.AK hE ht),hg.2⟩;have key:∀{id:Id} {b:Be},(DN t l h ep).heap id=some b->b.own=true->Ol F f id=[]\/∃Ax c,t.heap Ax=some c/\c.own=true/\Ol F f id=F Ax/\Cc U f h id=U Ax/\Di f id=some Ax/\(D0 id\/(id,b)∈h/\¬D0 Ax):=λ{id b} hb ho=>by
  rcases hw.Bn hE hb with⟨hd,hb⟩|⟨hd,hm,hi,⟨hr,_⟩|⟨Ax,k,hr,hk,Dc,_,HV,_⟩⟩
  .exact .inr ⟨id,b,hb,ho,kJ hd.MC,MB hd.has hd.MC,hd.MC,.inl hd⟩
  .exact .inl (Y25 hr)
  .exact .inr ⟨Ax,k,hk,HV.trans ho,kJ hr,MB hi hr,hr,.inr ⟨hm,Dc⟩⟩
 refine⟨λt' v hv=>?_,λt' QB=>?_,λid b hb=>?_,λid b hb ho g hg=>?_,λid b hb ho hc g hg=>?_,λid G0 b b2 hb ho DT HV Yj g hg IS=>?_,λid b hb ho=>?_,λid Zu=>?_,hR.Cv,hR.AS,λid b hb ho g hg=>?_,hR.AU⟩
 .show En w _ _ v (TI l t')
  unfold TI;cases hl:l.lookup t' with
  | none=>exact .undef
  | some x=>
   have hm:=ZB hl;have h1:=hw.env _ hm;simp only at h1;rw[<-hE.env] at h1;exact h1.en Yl (hz.1.2 _ hm) (hR.env t' v hv)
 .show TI l t'=.undef
  unfold TI;cases hl:l.lookup t' with
  | none=>rfl
  | some x=>
   have hm:=ZB hl;have h1:=hw.env _ hm;simp only at h1;rw[<-hE.env,hR.out t' QB] at h1;simp only[Gr];cases x<;>simp[VR,Dj] at h1 ⊢
 .rcases hw.Bn hE hb with⟨hd,hb⟩|⟨hd,hm,hi,⟨hr,h1,h2,h3⟩|⟨Ax,k,hr,hk,_,Ge,ho,Qf,Wu⟩⟩
  .rw[MB hd.has hd.MC,kJ hd.MC]
   have hB:=hR.heap id b hb;have hph:=hE.ph id b hd hb;unfold Xw at hB ⊢;split at hB
   .obtain⟨_,g,cur,e,row,hi,hg,hr,_⟩:=hB;rw[hph] at hr;cases hr
   .rcases hB with hB|⟨g,o,c,cur,hi,hg,hl,hm,hu,hz,fp,hF,q1,q2⟩
    .exact .inl hB
    .exact .inr ⟨g,o,c,cur,hi,hg,hl,hm,hu,hz,fp,hF,q1,λhc=>⟨(q2 hc).1,λk x hx=>by rw[hph] at hx;simp at hx⟩⟩
   .obtain⟨h0,hB⟩:=hB
    refine⟨h0,?_⟩;rcases hB with hB|⟨g,o,c,sz,hi,hu,hr⟩
    .exact .inl hB
    .exact .inr ⟨g,o,c,sz,hi,hu,hr.C8 Yl⟩
  .rw[zS hi hr,Y25 hr]
   exact .IA h1 h2 rfl h3 rfl
  .rw[MB hi hr,kJ hr]
   have hB:=hR.heap Ax k hk;unfold Xw at hB ⊢;rw[Ge,ho] at hB;cases CG:b.box with
   | true=>
    rw[CG] at hB;simp only[CG,if_true] at Wu hB ⊢;obtain⟨q0,g,cur,e,row,Y7,hg,Cl,hs,he,hc,hF⟩:=hB;obtain⟨xs,ys,e1,e2,hv⟩:=Wu;rw[e2] at Cl;injection Cl with Cl _;subst Cl;have kF:=hv.get.1;have Je:xs.all (JD h)=true:=by
     have h7:=hz.2 _ hm;unfold hasB at h7;simp only[CG,if_true,e1,Ef,VD,Ma] at h7;exact h7
    refine⟨q0,g,cur,e,xs,by rw[Y7,kF],hg,e1,by rw[hs,kF],λj v x h1 h2=>?_,λx hx=>?_,hF⟩
    .exact hv.all Yl Je (vs:=cur.toList) (λk v y h1 h2=>he k v y (by simpa using h1) h2) j v x (by simpa using h1) h2
    .obtain⟨j,hj,rfl⟩:=P2 hx
     obtain⟨y,_,h4⟩:=hv.get.2 j _ (C6 hj);exact h4.AG (Y3l (Cf.1 Je _ (B6 hj)))
   | false=>
    rw[CG] at hB;simp only[CG,Bp,if_false] at Wu hB ⊢;obtain⟨e1,e2⟩:=Wu;cases PG:b.own with
    | true=>
     rw[PG] at hB;simp only at hB ⊢;rcases hB with⟨q1,q2,q3⟩|⟨g,o,c,cur,Y7,hg,hl,Dm,hu,PC,fp,hF,q1,q2⟩
     .exact .inl ⟨q1,by rw[<-e2];exact q2,q3⟩
     .refine .inr ⟨g,o,c,cur,by rw[<-e1];exact Y7,by rw[<-e1];exact hg,by rw[<-e2];exact hl,Dm,by rw[<-e1,<-e2];exact hu,by rw[<-e1];exact PC,fp,hF,λhc=>?_,λhc=>?_⟩
      .rw[<-e1,<-e2];exact q1 (by rw[Qf];exact hc)
      .obtain⟨q3,q4⟩:=q2 (by rw[Qf];exact hc)
       refine⟨q3,λj x hx=>?_⟩;obtain⟨v,hv,E0⟩:=q4 j x (by rw[e2];exact hx);exact⟨v,hv,E0.C8 Yl⟩
    | false=>
     rw[PG] at hB;simp only at hB ⊢;obtain⟨h0,hB⟩:=hB;refine⟨h0,?_⟩;rcases hB with⟨q1,q2⟩|⟨g,o,c,sz,Y7,hu,Cl⟩
     .exact .inl ⟨q1,by rw[<-e2];exact q2⟩
     .exact .inr ⟨g,o,c,sz,Y7,by rw[<-e2];exact hu,by rw[<-e2];exact Cl.C8 Yl⟩
 .rcases key hb ho with h0|⟨Ax,c,h1,h2,h3,_⟩
  .rw[h0] at hg;simp at hg
  .rw[h3] at hg;exact hR.CR Ax c h1 h2 g hg
 .rcases key hb ho with h0|⟨Ax,c,h1,h2,h3,h4,_⟩
  .rw[h0] at hg;simp at hg
  .rw[h3] at hg;exact hR.top Ax c h1 h2 (by rw[<-h4];exact hc) g hg
 .rcases key hb ho with h0|⟨i1,c,h1,h2,h3,h4,h5,h6⟩
  .rw[h0] at hg;simp at hg
  .rcases key DT HV with k0|⟨i2,c2,k1,k2,k3,k4,k5,k6⟩
   .rw[k0] at IS;simp at IS
   .rw[h3] at hg
    rw[k3] at IS;refine hR.apart i1 i2 c c2 h1 h2 k1 k2 (λe=>?_) g hg IS;subst e;rcases h6 with h6|⟨h6,h7⟩
    .rw[h6.MC] at h5;injection h5 with h5;subst h5
     rcases k6 with k6|⟨k6,k7⟩
     .rw[k6.MC] at k5;injection k5 with k5;exact Yj k5.symm
     .exact k7 h6
    .rcases k6 with k6|⟨k6,k7⟩
     .rw[k6.MC] at k5;injection k5 with k5;subst k5;exact h7 k6
     .exact Yj (Xee hz.1.1.1.1 h6 k6 h5 k5)
 .rcases key hb ho with h0|⟨Ax,c,h1,h2,h3,_⟩
  .rw[h0];exact List.nodup_nil
  .rw[h3];exact hR.once Ax c h1 h2
 .show id.1<=ep
  by_cases h0:id.1=0
  .omega
  .unfold Cc at Zu
   rw[Ai h0] at Zu;split at Zu
   .rename_i hs
    obtain⟨b,hb⟩:=Ft.1 hs;exact (hz.1.1.2 _ (ZB hb)).1
   .simp at Zu
 .rcases key hb ho with h0|⟨Ax,c,h1,h2,h3,_⟩
  .rw[h0] at hg;simp at hg
  .rw[h3] at hg;exact hR.A8 Ax c h1 h2 g hg
theorem Xe2 {c:Code} {R:Ex->St->Prop} (f:List (Id×Id)) (hw:Lr f S l h ep) (hc:Cx P c (Ok l h ep) R):Cx P c S R:=by
 intro t B io w a U F fl Q hE hR hd hQ;refine hc (DN t l h ep) B io w a (Cc U f h) (Ol F f) fl Q (hw.ext hE) (hw.rel hE hR) hd (λex S' t' a' w' hr hx hA=>hQ ex S' t' a' w' hr ⟨hx.1,λid Zu=>?_⟩ ?_)
 .rw[hx.2 id Zu];simp only[DN];rw[Ah Zu]
 .obtain⟨U',F',h1,h2,h3,h4,h5⟩:=hA
  exact⟨U',F',h1,h2,λid i h0 hi=>h3 id i h0 (by unfold Cc;rw[Ah h0];exact hi),h4,h5⟩
end
end Go.Proofs.YthdljdelfgofdaaGreatDoor.Ev
namespace Go.Proofs.YthdljdelfgofdaaGreatDoor.Ev
open Go
variable [Anchor]
section
variable {P:Program}
def Gf:List V->List V->Option Bool
 | [],[]=>some true
 | .lit (.int k a)::xs,.lit (.int k' b)::ys=>if k=k' then (Gf xs ys).map λr=>decide (a=b)&&r else none
 | .lit (.bool a)::xs,.lit (.bool b)::ys=>(Gf xs ys).map λr=>(a == b)&&r
 | _,_=>none
def JF (P:Program):Nat->List Field->List V->Bool
 | _,[],[]=>true
 | i,f::fs,.lit (.int _ _)::xs=>(f.name != "_")&&(f.offset == i)&&!(HP P f.type)&&(match P.underlying f.type with|some (.int _)=>true|_=>false)&&JF P (i+1) fs xs
 | i,f::fs,.lit (.bool _)::xs=>(f.name != "_")&&(f.offset == i)&&!(HP P f.type)&&(match P.underlying f.type with|some .bool=>true|_=>false)&&JF P (i+1) fs xs
 | _,_,_=>false
theorem kK {t:TypeId} {d:TypeDesc} (ht:P.underlying t=some d):eval? P (underlying t)=some d:=by
 unfold underlying;rw[Xv];show eval? P (match P.underlying t with|some d=>pure d|none=>stuck "no such type" : Sem TypeDesc)=some d;rw[ht];rfl
theorem Y9d {n:Nat} {t:TypeId} {k0 k:IntKind} {a b:Int} (ht:P.underlying t=some (.int k0)):eval? P (Go.Op.equalIn (n+1) t (.int k a) (.int k b))=some (decide (a=b)):=by
 unfold Go.Op.equalIn;rw[Xv,kK ht];simp only[Ag,if_true];show some (a == b)=some (decide (a=b));by_cases h:a=b<;>simp[h]
theorem Y16 {n:Nat} {t:TypeId} {a b:Bool} (ht:P.underlying t=some .bool):eval? P (Go.Op.equalIn (n+1) t (.bool a) (.bool b))=some (a == b):=by
 unfold Go.Op.equalIn;rw[Xv,kK ht];rfl
theorem Y5c {t:TypeId} (h:(P.underlying t).isSome=true) (ha:HP P t=false):eval? P (isAgg t)=some false:=by
 obtain⟨d,hd⟩:=Ft.1 h;unfold isAgg;rw[Xv,kK hd];unfold HP at ha;rw[hd] at ha;cases d<;>first|rfl|cases ha
theorem Ysh {t:TypeId} {cs:Array Value} {off:Nat} {v:Value} (h:(P.underlying t).isSome=true) (ha:HP P t=false) (hv:cs[off]?=some v):eval? P (part t cs off)=some v:=by
 unfold part;rw[Xv,Y5c h ha];simp only[Ag,Bp,if_false,hv];rfl
theorem Ync:∀{xs:List V} {l:List Value},EZ xs=some l->xs=l.map V.lit:=by
 intro xs
 induction xs with
 | nil=>intro l h;simp only[EZ,AF] at h;subst h;rfl
 | cons x xs ih=>
  intro l h;cases x<;>simp only[EZ] at h<;>try cases h
  obtain⟨l',h1,rfl⟩:=AM.1 h;rw[ih h1];rfl
def ZC (n:Nat) (X Y:Array Value) (f:Field) (s:Option Bool×Unit):Sem (ForInStep (Option Bool×Unit)):=
 if f.name ≠ "_" then do
  let a <-part f.type X f.offset
  let b <-part f.type Y f.offset
  let c <-Go.Op.equalIn (n+1) f.type a b
  if (!c)=true then pure (ForInStep.done (some false,())) else pure (ForInStep.yield (none,()))
 else pure (ForInStep.yield (none,()))
theorem Y9p {n:Nat} {X Y:Array Value} {f:Field} {s:Option Bool×Unit} {u v:Value} {c:Bool} (hn:(f.name != "_")=true) (hu:(P.underlying f.type).isSome=true) (ha:HP P f.type=false) (hx:X[f.offset]?=some u) (hy:Y[f.offset]?=some v) (hc:eval? P (Go.Op.equalIn (n+1) f.type u v)=some c):
  eval? P (ZC n X Y f s)=some (if c then .yield (none,()) else .done (some false,())):=by
 unfold ZC;rw[Ah (by simpa using hn),Xv,Ysh hu ha hx,Ag,Xv,Ysh hu ha hy,Ag,Xv,hc,Ag];cases c<;>rfl
theorem Rk {n:Nat} {X Y:List Value}:∀(l:List Field) (i:Nat) (b:Bool),JF P i l ((X.drop i).map V.lit)=true->Gf ((X.drop i).map V.lit) ((Y.drop i).map V.lit)=some b->
  eval? P (forIn l (none,()) (ZC n X.toArray Y.toArray))=some (if b then (none,()) else (some false,())):=by
 intro l
 induction l with
 | nil=>
  intro i b hf he;cases hX:X.drop i with
  | cons v l=>rw[hX] at hf;simp[JF] at hf
  | nil=>
   rw[hX] at he;cases hY:Y.drop i with
   | cons v l=>rw[hY] at he;simp[Gf] at he
   | nil=>
    rw[hY] at he;simp only[Ht,Gf,AF] at he;subst he;rfl
 | cons f l ih=>
  intro i b hf he;have Om:∀{Z:List Value} {v:Value} {zs:List Value},Z.drop i=v::zs->Z.drop (i+1)=zs/\Z.toArray[i]?=some v:=λ{Z v zs} hz=>by
   constructor
   .rw[<-List.drop_drop,hz];rfl
   .have:=congrArg List.head? hz
    rw[List.head?_drop] at this;simpa using this
  have step:∀(u v:Value) (xs ys:List Value) (c b':Bool),X.drop i=u::xs->Y.drop i=v::ys->(f.name != "_")=true->f.offset=i->HP P f.type=false->(P.underlying f.type).isSome=true->eval? P (Go.Op.equalIn (n+1) f.type u v)=some c->
    JF P (i+1) l (xs.map V.lit)=true->Gf (xs.map V.lit) (ys.map V.lit)=some b'->b=(c&&b')->eval? P (forIn (f::l) (none,()) (ZC n X.toArray Y.toArray))=some (if b then (none,()) else (some false,())):=by
   intro u v xs ys c b' hX hY hn ho ha hu hc BK PX hb;obtain⟨dx,ax⟩:=Om hX;obtain⟨dy,ay⟩:=Om hY;rw[List.forIn_cons,Xv,Y9p hn hu ha (by rw[ho];exact ax) (by rw[ho];exact ay) hc];cases c with
   | true=>
    simp only[if_true,Ag];rw[ih (i+1) b' (by rw[dx];exact BK) (by rw[dx,dy];exact PX),hb];rfl
   | false=>
    simp only[Bp,if_false,Ag];rw[hb];rfl
  cases hX:X.drop i with
  | nil=>rw[hX] at hf;simp[JF] at hf
  | cons u xs=>
   rw[hX] at hf he;cases hY:Y.drop i with
   | nil=>rw[hY] at he;cases u<;>simp[Gf] at he
   | cons v ys=>
    rw[hY] at he;simp only[CD] at hf he;cases u with
    | int k a=>
     simp only[JF,Bh,NA,beq_iff_eq] at hf;obtain⟨⟨⟨⟨h1,h2⟩,h3⟩,h4⟩,h5⟩:=hf;cases v with
     | int k' b2=>
      simp only[Gf] at he;split at he
      .rename_i hk
       subst hk;obtain⟨b',h6,h7⟩:=AM.1 he;split at h4
       .rename_i k0 ZD
        exact step _ _ _ _ _ _ hX hY h1 h2 h3 (by rw[ZD];rfl) (Y9d ZD) h5 h6 h7.symm
       .cases h4
      .cases he
     | _=>simp[Gf] at he
    | bool a=>
     simp only[JF,Bh,NA,beq_iff_eq] at hf;obtain⟨⟨⟨⟨h1,h2⟩,h3⟩,h4⟩,h5⟩:=hf;cases v with
     | bool b2=>
      simp only[Gf] at he;obtain⟨b',h6,h7⟩:=AM.1 he;split at h4
      .rename_i ZD
       exact step _ _ _ _ _ _ hX hY h1 h2 h3 (by rw[ZD];rfl) (Y16 ZD) h5 h6 h7.symm
      .cases h4
     | _=>simp[Gf] at he
    | _=>simp[JF] at hf
theorem Yv9 {n:Nat} {t:TypeId} {fs:Array Field} {X Y:List Value} {b:Bool} (ht:P.underlying t=some (.struct fs)) (hs:P.stoodInHeld t=false) (hx:JF P 0 fs.toList (X.map V.lit)=true) (he:Gf (X.map V.lit) (Y.map V.lit)=some b):
  eval? P (Go.Op.equalIn (n+2) t (.agg X.toArray) (.agg Y.toArray))=some b:=by
 unfold Go.Op.equalIn;rw[Xv,kK ht];simp only[Ag];rw[Xv];show (some P).bind _=_;simp only[Ag,hs,Bp,if_false];have key:=Rk (P:=P) (n:=n) (X:=X) (Y:=Y) fs.toList 0 b (by simpa using hx) (by simpa using he);rw[Array.forIn_toList] at key;rw[Xv];show (eval? P (forIn fs (none,()) (ZC n X.toArray Y.toArray))).bind _=_;rw[key];cases b<;>rfl
def Rl (P:Program) (t:TypeId) (xs:List V):Bool:=match P.underlying t with
 | some (.struct fs)=>!(P.stoodInHeld t)&&!(P.eqGuardType P.depth t)&&JF P 0 fs.toList xs
 | _=>false
theorem Ysg {t:TypeId} {xs ys:List V} {X Y:List Value} {b:Bool} (hx:EZ xs=some X) (hy:EZ ys=some Y) (hf:Rl P t xs=true) (he:Gf xs ys=some b):eval? P (Go.Op.equal t (.agg X.toArray) (.agg Y.toArray))=some b:=by
 unfold Rl at hf;split at hf
 .rename_i fs ht
  simp only[Bh,NA] at hf;have e1:=Ync hx;have e2:=Ync hy;rw[e1] at hf he;rw[e2] at he;exact Yv9 (n:=9998) ht hf.1.1 hf.2 he
 .cases hf
theorem Yjk {op:BinOp} {t:TypeId} {x y:Operand} {xs:List V} {X Y:Array Value} (hf:Rl P t xs=true):eval? P (eqGuard op t x y (.agg X) (.agg Y))=some ():=by
 unfold Rl at hf;split at hf
 .simp only[Bh,NA] at hf
  unfold eqGuard;cases op<;>first
   | rfl
   | (
     simp only[D6,Bp,if_false];rw[Xv];show (some P).bind _=_;simp only[Ag];rw[Xv];show (some P).bind _=_;simp only[Ag,hf.1.2,Ga,if_true];rfl)
 .cases hf
theorem Xam {t:TypeId} {x y:Operand} {xs ys:List V} {b:Bool} (hx:(EZ xs).isSome=true) (hy:(EZ ys).isSome=true) (hf:Rl P t xs=true) (he:Gf xs ys=some b):Fh P .eql t x y (.agg xs) (.agg ys)=some (.lit (.bool b)):=by
 obtain⟨X,h1⟩:=Ft.1 hx;obtain⟨Y,h2⟩:=Ft.1 hy;simp only[Fh,Qu,h1,h2,DI,P3,Mb,if_true,Gr];rw[Xv,Yjk hf,Ag];have e:(binOp .eql t (.agg X.toArray) (.agg Y.toArray):Sem Value)=((λb=>Value.bool b) <$> Go.Op.equal t (.agg X.toArray) (.agg Y.toArray)):=rfl;rw[e,YI,Ysg h1 h2 hf he];rfl
theorem Y98 {t:TypeId} {x y:Operand} {xs ys:List V} {b:Bool} (hx:(EZ xs).isSome=true) (hy:(EZ ys).isSome=true) (hf:Rl P t xs=true) (he:Gf xs ys=some b):Fh P .neq t x y (.agg xs) (.agg ys)=some (.lit (.bool (!b))):=by
 obtain⟨X,h1⟩:=Ft.1 hx;obtain⟨Y,h2⟩:=Ft.1 hy;simp only[Fh,Qu,h1,h2,DI,P3,Mb,if_true,Gr];rw[Xv,Yjk hf,Ag];have e:(binOp .neq t (.agg X.toArray) (.agg Y.toArray):Sem Value)=((λb=>Value.bool (!b)) <$> Go.Op.equal t (.agg X.toArray) (.agg Y.toArray)):=rfl;rw[e,YI,Ysg h1 h2 hf he];rfl
end
end Go.Proofs.YthdljdelfgofdaaGreatDoor.Ev
