/- A part of the proof of FnExactDesk: see the text YthdljdelfgofdaaGreatDoorLawFnExactDesk for what is proved and its conditions. Conditions here: those in each line. -/
import Derived.Test.YthdljdelfgofdaaGreatDoorA1
import Derived.ChangeOld
import Derived.OpenShut
import Derived.Orders
import Derived.ProofKit
import Derived.Tactics
import Derived.WalkKit
set_option linter.unusedSimpArgs false
set_option linter.unusedVariables false
set_option linter.unusedSectionVars false
namespace Go.Proofs.YthdljdelfgofdaaGreatDoor.Ev
open Go Go.RowKit
variable [Anchor]
def VN (P:Program) (w:World) (ok top:Nat->Prop) (m:Yt) (u:Value) (x:V) (fp:List Nat):Prop:=
 match m with
 | .rd=>(∀U,En w ok U u x)/\fp=[]
 | .io=>∃cs,x=.agg cs/\Ix P w ok top u cs fp
 | .mv|.Er=>(∀cs,x≠.CM cs)/\Dz P w ok top u x fp
inductive N9 (P:Program) (w:World) (ok top:Nat->Prop):List Yt->List Value->List V->List Nat->Prop
 | nil {ms:List Yt}:N9 P w ok top ms [] [] []
 | cons {ms:List Yt} {u:Value} {us:List Value} {x:V} {xs:List V} {f1 f2:List Nat} (h:VN P w ok top (ms.headD .rd) u x f1) (hs:N9 P w ok top ms.tail us xs f2):N9 P w ok top ms (u::us) (x::xs) (f1++f2)
def I1 (P:Program) (w:World) (ok top:Nat->Prop) (U:AY) (m:Yt) (u:Value) (x:V) (fp:List Nat):Prop:=
 match m with
 | .rd=>En w ok U u x/\fp=[]
 | .io=>∃cs,x=.agg cs/\Ix P w ok top u cs fp
 | .mv|.Er=>(∀cs,x≠.CM cs)/\Dz P w ok top u x fp
inductive NA (P:Program) (w:World) (ok top:Nat->Prop) (U:AY):List Yt->List Value->List V->List Nat->Prop
 | nil {ms:List Yt}:NA P w ok top U ms [] [] []
 | cons {ms:List Yt} {u:Value} {us:List Value} {x:V} {xs:List V} {f1 f2:List Nat} (h:I1 P w ok top U (ms.headD .rd) u x f1) (hs:NA P w ok top U ms.tail us xs f2):NA P w ok top U ms (u::us) (x::xs) (f1++f2)
theorem CY.C2 {P:Program} {w:World} {ok ok' top:Nat->Prop} {v:Value} {x:V} {fp:List Nat} (h:CY P w ok top v x fp) (ht:∀g,ok g->ok' g):CY P w ok' top v x fp:=by
 cases h with
 | lit h=>exact .lit h
 | tr h=>exact .tr (Rd.C2 h ht)
 | own h k=>exact .own h k
theorem Fm.C2 {P:Program} {w:World} {ok ok' top:Nat->Prop} {v:List Value} {x:List V} {fp:List Nat} (h:Fm P w ok top v x fp) (ht:∀g,ok g->ok' g):Fm P w ok' top v x fp:=by
 induction h with
 | nil=>exact .nil
 | cons h _ ih=>exact .cons (h.C2 ht) ih
theorem Dz.C2 {P:Program} {w:World} {ok ok' top:Nat->Prop} {v:Value} {x:V} {fp:List Nat} (h:Dz P w ok top v x fp) (ht:∀g,ok g->ok' g):Dz P w ok' top v x fp:=by
 cases x
 case agg cs=>obtain⟨us,h1,h2⟩:=h;exact⟨us,h1,h2.C2 ht⟩
 case CM cs=>obtain⟨g,cur,e,BQ,h1,h2,h3,h4,h5⟩:=h;exact⟨g,cur,e,BQ,h1,h2,h3.C2 ht,h4,h5⟩
 all_goals exact CY.C2 h ht
theorem FI.C2 {P:Program} {w:World} {ok ok' top:Nat->Prop} {v:List Value} {x:List V} {fp:List Nat} (h:FI P w ok top v x fp) (ht:∀g,ok g->ok' g):FI P w ok' top v x fp:=by
 induction h with
 | nil=>exact .nil
 | cons h _ ih=>
  refine .cons ?_ ih;cases h with
  | one h=>exact .one (h.C2 ht)
  | box h=>exact .box (Dz.C2 h ht)
theorem Ix.C2 {P:Program} {w:World} {ok ok' top:Nat->Prop} {u:Value} {cs:List V} {fp:List Nat} (h:Ix P w ok top u cs fp) (ht:∀g,ok g->ok' g):Ix P w ok' top u cs fp:=by
 obtain⟨g,cur,e,BQ,h1,h2,h3,h4,h5⟩:=h;exact⟨g,cur,e,BQ,h1,h2,h3.C2 ht,h4,h5⟩
theorem I1.top {P:Program} {w:World} {ok top top':Nat->Prop} {U:AY} {m:Yt} {u:Value} {x:V} {fp:List Nat} (h:I1 P w ok top U m u x fp) (ht:∀g,top g->top' g):I1 P w ok top' U m u x fp:=by
 cases m
 .exact h
 .obtain⟨cs,h1,h2⟩:=h;exact⟨cs,h1,h2.top ht⟩
 .exact⟨h.1,h.2.top ht⟩
 .exact⟨h.1,h.2.top ht⟩
theorem NA.top {P:Program} {w:World} {ok top top':Nat->Prop} {U:AY} {ms:List Yt} {us:List Value} {xs:List V} {fp:List Nat} (h:NA P w ok top U ms us xs fp) (ht:∀g,top g->top' g):NA P w ok top' U ms us xs fp:=by
 induction h with
 | nil=>exact .nil
 | cons h _ ih=>exact .cons (h.top ht) ih
section
variable {P:Program} {B:Nat} {io:Nat->Prop} {w w':World} {tmps:Array Value} {s s' s1:St} {U U':AY} {F F':Id->List Nat} {fl fl':List Nat} {ok ok' top:Nat->Prop}
theorem Rel.CK (h:Rel P B io w tmps s U F fl):P9 w (AH s U w) U s:=by
 intro id b row hb hr Xl j cur e g o c sz v x hU hg hv hx;have hB:=h.heap id b hb;unfold Xq at hB;rw[Xl] at hB;obtain⟨_,g',cur',e',Cg,hi,DW,Ch,hs,he,G1,hF⟩:=hB;rw[hr] at Ch;injection Ch with Ch _;subst Ch;rw[hU] at hi;injection hi with hi;injection hi with h1;subst h1;rw[hg] at DW;injection DW with DW;injection DW with h1;subst h1;exact he j v x hv hx
theorem Ygw {ts:List (Option TypeId)} {x y:V} (h1:s.Ba ts x=some (y,s')):∀cs,y≠.CM cs:=λcs e=>by
 subst e;unfold St.Ba at h1;split at h1
 .obtain⟨_,_,he⟩:=AL.1 h1;simp at he
 .unfold St.AA at h1
  split at h1<;>simp at h1
theorem En.BU {u:Value} {x:V} (h:En w ok U u x):En w ok U u (Ev.BU x):=by
 unfold Ev.BU;split
 .cases h with
  | sl=>exact .tr .emp
  | sle=>exact .tr .emp
 .exact h
theorem Yq5 {x:V} (h:AF x=true):AF (BU x)=true:=by
 unfold BU;split
 .rfl
 .exact h
theorem En.thin {u:Value} {x:V} (h:En w ok U u x):En w ok U u (Ev.thin x):=by
 unfold Ev.thin;split
 .rename_i cs
  cases h with
  | agg hl hc hr=>
   refine .agg (by simpa using hl) (λy hy=>?_) (λk v y hv hy=>?_)
   .obtain⟨z,hz,rfl⟩:=Dx.1 hy
    exact Yq5 (hc z hz)
   .rw[Dt] at hy
    obtain⟨z,hz,rfl⟩:=AL.1 hy;exact (hr k v z hv hz).BU
 .exact h.BU
theorem Y7y (h0:Rel P B io w tmps s U F fl):∀(xs:List V) {us:List Value} {ts:List TypeId} {ms:List Yt} {s1 s':St} {fl1:List Nat} {ys:List V},Rel P B io w tmps s1 U F fl1->Wa s s1->us.length=xs.length->
  (∀(j:Nat) (u:Value) (x:V),us[j]?=some u->xs[j]?=some x->En w (AH s U w) U u x)->s1.Bs P ts ms xs=some (ys,s')->∃fp,Rel P B io w tmps s' U F (fp++fl1)/\NA P w (AH s U w) (DA s1 s' U F) U ms us ys fp/\Wa s1 s':=by
 intro xs
 induction xs with
 | nil=>
  intro us ts ms s1 s' fl1 ys h J3 hl X3 hg;have:us=[]:=Gt (by simpa using hl);subst this;simp only[St.Bs,AE,A6] at hg;obtain⟨rfl,rfl⟩:=hg;exact⟨[],h,.nil,.refl _⟩
 | cons x xs ih=>
  intro us ts ms s1 s' fl1 ys h J3 hl X3 hg
  match us,hl with
  | u::us,hl=>
   simp only[St.Bs] at hg;obtain⟨⟨y,s2⟩,h1,hg⟩:=A9.1 hg;obtain⟨⟨zs,s3⟩,h2,hg⟩:=AL.1 hg;simp only[A6] at hg;obtain⟨rfl,rfl⟩:=hg;simp only at h2;have hu:=X3 0 u x rfl rfl;have Yg:∀g,AH s U w g->AH s1 U w g:=λg hg=>P8 J3 hg;have one:∃fp,Rel P B io w tmps s2 U F (fp++fl1)/\I1 P w (AH s U w) (DA s1 s2 U F) U (ms.headD .rd) u y fp/\Wa s1 s2:=by
    unfold St.Db at h1;split at h1
    .rename_i hm
     simp only[AE,A6] at h1;obtain⟨rfl,rfl⟩:=h1;rw[hm];exact⟨[],h,⟨hu,rfl⟩,.refl _⟩
    .rename_i hm
     rw[hm];split at h1
     .rename_i bid _
      obtain⟨⟨cs,s4⟩,h3,he⟩:=AL.1 h1;simp only[A6] at he;obtain⟨rfl,rfl⟩:=he;obtain⟨fp,a,b,c,_⟩:=Ygx h hu Yg (h0.CK.less J3) h3;exact⟨fp,a,⟨cs,rfl,b⟩,c⟩
     .cases h1
    .rename_i hm
     rw[hm];obtain⟨fp,a,b,c⟩:=vC h hu Yg h1;exact⟨fp,a,⟨Ygw h1,b⟩,c⟩
    .rename_i hm
     rw[hm];obtain⟨fp,a,b,c⟩:=vC h hu.thin Yg h1;exact⟨fp,a,⟨Ygw h1,b⟩,c⟩
   obtain⟨f1,r1,a1,l1⟩:=one;obtain⟨f2,r2,a2,l2⟩:=ih r1 (J3.trans l1) (by simpa using hl) (λj v z hv hz=>X3 (j+1) v z (by simpa using hv) (by simpa using hz)) h2;refine⟨f1++f2,r2.perm ?_,.cons (a1.top λg hg=>hg.left l2) (a2.top λg hg=>hg.right l1),l1.trans l2⟩;rw[List.append_assoc];exact (OQ _ _ _)
def LV (s1:St) (U:AY) (ok:Nat->Prop):Prop:=∀id b g o c sz,s1.heap id=some b->b.own=true->U id=some (.Bl g o c sz)->ok g
theorem Ypl (h:Rel P B io w tmps s U F fl) (hl:Wa s s1) {u:Value} {x y:V} (hu:En w (AH s U w) U u x) (Yg:∀g,AH s U w g->ok' g) (hp:Nr x=true\/LV s1 U ok') (hr:s1.BA x=some y):Rd w ok' u y:=by
 unfold St.BA at hr;split at hr
 .simp only[AE] at hr;subst hr;cases hu;exact .emp
 .simp only[AE] at hr;subst hr;cases hu with|lit h=>exact .lit h
 .simp only[AE] at hr;subst hr;cases hu with|tr h=>exact h.C2 Yg
 .simp only[AE] at hr;subst hr;cases hu with|vw h=>exact h.C2 Yg
 .rename_i id off len
  obtain⟨rows,Wn,rfl⟩:=AL.1 hr;have KB:LV s1 U ok':=by
   rcases hp with hp|hp
   .simp[Nr] at hp
   .exact hp
  have Pu:s.rowsOf (.sl id off len)=some rows:=by
   simp only[St.rowsOf] at Wn ⊢;obtain⟨b,hb,hh⟩:=A9.1 Wn;rw[hl.sub id b hb];exact hh
  have VO:∃b,s1.heap id=some b:=by
   unfold St.rowsOf at Wn;obtain⟨b,hb,_⟩:=A9.1 Wn;exact⟨b,hb⟩
  refine h.rowsOf hu Pu Yg (λAw Fh LK b g o c sz e hb ho hU _ _=>?_);cases e;obtain⟨b',Yx⟩:=VO;have:=hl.sub id b' Yx;rw[hb] at this;injection this with this;subst this;exact KB id b g o c sz Yx ho hU
 .simp only[AE] at hr
  subst hr;cases hu with
  | rp h=>
   cases h with
   | rp hg hu hr=>exact (Rd.rp hg hu hr).C2 Yg
 .cases hr
theorem Yjp (h:Rel P B io w tmps s U F fl) (hl:Wa s s1) (Yg:∀g,AH s U w g->ok' g):∀(xs:List V) {ys:List V} {us:Nat->Value},(∀(j:Nat) (x:V),xs[j]?=some x->En w (AH s U w) U (us j) x)->(xs.all Nr=true\/LV s1 U ok')->s1.B0 xs=some ys->
  ys.length=xs.length/\∀(j:Nat) (y:V),ys[j]?=some y->Rd w ok' (us j) y:=by
 intro xs
 induction xs with
 | nil=>
  intro ys us _ _ hr;simp only[St.B0,AE] at hr;subst hr;exact⟨rfl,λj y hy=>by simp at hy⟩
 | cons x xs ih=>
  intro ys us X3 hp hr;simp only[St.B0] at hr;obtain⟨y,h1,hr⟩:=A9.1 hr;obtain⟨zs,h2,rfl⟩:=AL.1 hr;obtain⟨l,e⟩:=ih (us:=λj=>us (j+1)) (λj z hz=>X3 (j+1) z (by simpa using hz)) (hp.imp (λh=>by simp only[DT,Bg] at h;exact h.2) (λh=>h)) h2;refine⟨by simp[l],λj z hz=>?_⟩;cases j with
  | zero=>
   have:y=z:=by simpa using hz
   subst this;exact Ypl h hl (X3 0 x rfl) Yg (hp.imp (λh=>by simp only[DT,Bg] at h;exact h.1) (λh=>h)) h1
  | succ j=>exact e j z (by simpa using hz)
theorem Ykq (h:Rel P B io w tmps s U F fl) (hl:Wa s s1) {u:Value} {x y:V} (hu:En w (AH s U w) U u x) (Yg:∀g,AH s U w g->ok' g) (hp:Nr x=true\/LV s1 U ok') (hr:s1.Br x=some y):Rd w ok' u y:=by
 unfold St.Br at hr;split at hr
 .rename_i id i off
  obtain⟨b,hb,hr⟩:=A9.1 hr;split at hr
  case isFalse=>cases hr
  rename_i Yv;obtain⟨row,Xg,hr⟩:=A9.1 hr;obtain⟨cs,BO,rfl⟩:=AL.1 hr;have KB:LV s1 U ok':=by
   rcases hp with hp|hp
   .simp[Nr] at hp
   .exact hp
  have hb0:=hl.sub id b hb;generalize hq:V.ptr id i off=q at hu;cases hu<;>cases hq;rename_i g o c sz hU;have PA:∀(j:Nat) (x:V),row[j]?=some x->∃u,w.cell? ⟨g,o+i*sz+j,none⟩=some u/\En w (AH s U w) U u x:=λj x hx=>by
   obtain⟨u,h1,h2,h3⟩:=h.cell hb0 hU Xg hx;cases Xl:b.box with
   | true=>exact⟨u,h1,h2 Xl⟩
   | false=>exact⟨u,h1,(h3 Xl).en⟩
  have each:∀j,∃u:Value,∀x,row[j]?=some x->w.cell? ⟨g,o+i*sz+j,none⟩=some u/\En w (AH s U w) U u x:=λj=>by
   cases hj:row[j]? with
   | none=>exact⟨undef,λx hx=>by cases hx⟩
   | some z=>
    obtain⟨u,h1,h2⟩:=PA j z hj;exact⟨u,λx hx=>by injection hx with hx;subst hx;exact⟨h1,h2⟩⟩
  obtain⟨uf,Nu⟩:=sY each;obtain⟨l,e⟩:=Yjp h hl Yg row (us:=uf) (λj x hx=>(Nu j x hx).2) (.inr KB) BO;refine .rp (u:=uf) (KB id b g o c sz hb Yv hU) (λj y hy=>?_) (λj y hy=>e j y hy);have Z6:=(CX.1 hy).1;exact (Nu j _ (CB (by omega))).1
 .exact Ypl h hl hu Yg hp hr
theorem Yxw (h:Rel P B io w tmps s U F fl) (hl:Wa s s1) (Yg:∀g,AH s U w g->ok' g):∀(xs:List V) {ys:List V} {us:Nat->Value},(∀(j:Nat) (x:V),xs[j]?=some x->En w (AH s U w) U (us j) x)->(xs.all Nr=true\/LV s1 U ok')->s1.Bz xs=some ys->
  ys.length=xs.length/\∀(j:Nat) (y:V),ys[j]?=some y->Rd w ok' (us j) y:=by
 intro xs
 induction xs with
 | nil=>
  intro ys us _ _ hr;simp only[St.Bz,AE] at hr;subst hr;exact⟨rfl,λj y hy=>by simp at hy⟩
 | cons x xs ih=>
  intro ys us X3 hp hr;simp only[St.Bz] at hr;obtain⟨y,h1,hr⟩:=A9.1 hr;obtain⟨zs,h2,rfl⟩:=AL.1 hr;obtain⟨l,e⟩:=ih (us:=λj=>us (j+1)) (λj z hz=>X3 (j+1) z (by simpa using hz)) (hp.imp (λh=>by simp only[DT,Bg] at h;exact h.2) (λh=>h)) h2;refine⟨by simp[l],λj z hz=>?_⟩;cases j with
  | zero=>
   have:y=z:=by simpa using hz
   subst this;exact Ykq h hl (X3 0 x rfl) Yg (hp.imp (λh=>by simp only[DT,Bg] at h;exact h.1) (λh=>h)) h1
  | succ j=>exact e j z (by simpa using hz)
theorem Y8g (h:Rel P B io w tmps s U F fl) (hl:Wa s s1) {u:Value} {x y:V} (hu:En w (AH s U w) U u x) (Yg:∀g,AH s U w g->ok' g) (hp:plain x=true\/LV s1 U ok') (hr:s1.C1 x=some y) (U':AY):En w ok' U' u y:=by
 unfold St.C1 at hr;split at hr
 .rename_i cs
  obtain⟨ys,h1,rfl⟩:=AL.1 hr;cases hu with
  | @agg vs _ Yn hc hr=>
   obtain⟨l,e⟩:=Yjp h hl Yg cs (us:=λj=>vs.getD j undef) (λj x hx=>by
    have Z6:=(CX.1 hx).1;have hv:vs[j]?=some vs[j]:=Var (by omega);rw[OP,hv];exact hr j _ x hv hx) hp h1
   refine .agg (by omega) (λy hy=>?_) (λj v y hv hy=>?_)
   .obtain⟨j,hj⟩:=H0 hy
    exact (e j y hj).AF
   .have:=e j y hy
    rw[OP,hv] at this;exact this.en
 .rename_i f Bu
  obtain⟨ys,h1,rfl⟩:=AL.1 hr;cases hu with
  | @fn _ vs _ Yn hr=>
   obtain⟨l,e⟩:=Yxw h hl Yg Bu (us:=λj=>vs.getD j undef) (λj x hx=>by
    have Z6:=(CX.1 hx).1;have hv:vs[j]?=some vs[j]:=Var (by omega);rw[OP,hv];exact hr j _ x hv hx) hp h1
   refine .fn (by omega) (λj v y hv hy=>?_);have:=e j y hy;rw[OP,hv] at this;exact this.en
 .rename_i h1 h2
  refine (Ykq h hl hu Yg (hp.imp (λhp=>?_) (λh=>h)) hr).en;cases x<;>first|exact hp|exact absurd rfl (h1 _)|exact absurd rfl (h2 _ _)
theorem Ysw (h:Rel P B io w tmps s U F fl) (hl:Wa s s1) (Yg:∀g,AH s U w g->ok' g):∀{ms:List Yt} {us:List Value} {xs ys:List V} {fp:List Nat},NA P w (AH s U w) top U ms us xs fp->(Ia ms xs=true\/LV s1 U ok')->s1.BL ms xs=some ys->N9 P w ok' top ms us ys fp:=by
 intro ms us xs ys fp ha
 induction ha generalizing ys with
 | nil=>
  intro _ hr;simp only[St.BL,AE] at hr;subst hr;exact .nil
 | @cons ms u us x xs f1 f2 hx hxs ih=>
  intro hp hr;simp only[St.BL] at hr;obtain⟨y,h1,hr⟩:=A9.1 hr;obtain⟨zs,h2,rfl⟩:=AL.1 hr;refine .cons ?_ (ih (hp.imp (λh=>by simp only[Ia,Bg] at h;exact h.2) (λh=>h)) h2);have VP:=hp.imp (λh=>by simp only[Ia,Bg] at h;exact h.1) (λh:LV s1 U ok'=>h);cases hm:ms.headD .rd with
  | rd=>
   rw[hm] at hx h1 VP;simp only[St.Cm] at h1;simp only[tO] at VP;exact⟨λU'=>Y8g h hl hx.1 Yg VP h1 U',hx.2⟩
  | io=>
   rw[hm] at hx h1;simp only[St.Cm,AE] at h1;subst h1;obtain⟨cs,h1,h2⟩:=hx;exact⟨cs,h1,h2.C2 Yg⟩
  | mv=>
   rw[hm] at hx h1;simp only[St.Cm,AE] at h1;subst h1;exact⟨hx.1,hx.2.C2 Yg⟩
  | Er=>
   rw[hm] at hx h1;simp only[St.Cm,AE] at h1;subst h1;exact⟨hx.1,hx.2.C2 Yg⟩
end
section
variable {P:Program} {B:Nat} {io:Nat->Prop} {w w':World} {a a':Act} {s s':St} {U U':AY} {F F':Id->List Nat} {fl:List Nat} {k:Nat} {o:Oper} {v:V} {M:X2} {C:Kf} {ops:Array Oper}
def G8 (P:Program) (B:Nat) (io:Nat->Prop) (fl:List Nat) (w:World) (a:Act) (U:AY) (s':St) (a':Act) (w':World):Prop:=
 ∃U' F',Rel P B io w' a'.tmps s' U' F' fl/\J6 B io w w'/\(∀id i,U id=some i->U' id=some i)/\a'.tmps.size=a.tmps.size/\a'.defers=a.defers
theorem G8.refl (h:Rel P B io w a.tmps s U F fl):G8 P B io fl w a U s a w:=⟨U,F,h,J6.refl _ _ _,λ_ _ h=>h,rfl,rfl⟩
theorem G8.trans {w1:World} {a1:Act} {U1:AY} (hl:J6 B io w w1) (hU:∀id i,U id=some i->U1 id=some i) (ht:a1.tmps.size=a.tmps.size) (hd:a1.defers=a.defers) (h:G8 P B io fl w1 a1 U1 s' a' w'):G8 P B io fl w a U s' a' w':=by
 obtain⟨U',F',h1,h2,h3,h4,h5⟩:=h;exact⟨U',F',h1,hl.trans h2,λid i h=>h3 id i (hU id i h),h4.trans ht,h5.trans hd⟩
theorem Rel.PB (h:Rel P B io w a.tmps s U F fl) {dst:Option Tmp} {u:Value} (hd:∀d,dst=some d->d < a.tmps.size) (hv:En w (AH s U w) U u v):Rel P B io w (a.put dst u).tmps (s.put dst v) U F fl:=by
 cases dst with
 | none=>exact h
 | some d=>
  have Z6:=hd d rfl;exact {h with
   env:=λt x hx=>by
    simp only[Act.put] at hx;simp only[St.put,Bi];by_cases e:t=d
    .subst e
     rw[eM,Ah rfl,Ah Z6] at hx;injection hx with hx;subst hx;rw[Ah rfl];exact hv
    .rw[eM,Ai (λhh=>e hh.symm)] at hx
     rw[Ai e];exact h.env t x hx
   out:=λt ht=>by
    simp only[Act.put,Array.size_setIfInBounds] at ht;simp only[St.put,Bi];rw[Ai (λe=>absurd Z6 (by rw[<-e];exact Nat.not_lt.2 ht))];exact h.out t ht}
theorem vD (a:Act) (dst:Option Tmp) (u:Value):(a.put dst u).tmps.size=a.tmps.size:=by cases dst<;>simp[Act.put]
theorem vE (a:Act) (dst:Option Tmp) (u:Value):(a.put dst u).defers=a.defers:=by cases dst<;>rfl
theorem G9 (s:St) (dst:Option Tmp) (v:V):(s.put dst v).ep=s.ep:=by cases dst<;>rfl
theorem PC (s:St) (dst:Option Tmp) (v:V):(s.put dst v).heap=s.heap:=by cases dst<;>rfl
theorem Ypk (h:Rel P B io w a.tmps s U F fl) {g:Bool} (hw:wanted s ops o=some g):Region.wanted o (yielded ops a.tmps)=g:=by
 unfold wanted at hw;unfold Region.wanted;split at hw
 .rename_i hg;simp only[AE] at hw;rw[hg];exact hw
 .rename_i j b hg
  rw[hg];simp only;have hy:∀t,(ops[j]?).bind (·.dst)=some t->yielded ops a.tmps j=match a.tmps[t]? with|some (.bool b)=>some b|_=>none:=λt ht=>by
   unfold yielded;rw[ht];rfl
  cases ht:(ops[j]?).bind (·.dst) with
  | none=>rw[ht] at hw;simp at hw
  | some t=>
   rw[ht] at hw;simp only[D8] at hw;rw[hy t ht];have key:∀{x:V},s.env t=x->x≠.undef->∃u,a.tmps[t]?=some u/\En w (AH s U w) U u x:=λ{x} hx Yh=>by
    by_cases Z6:t < a.tmps.size
    .have h1:a.tmps[t]?=some a.tmps[t]:=Var Z6
     exact⟨_,h1,hx▸h.env t _ h1⟩
    .exact absurd (hx.symm.trans (h.out t (eY Z6))) Yh
   split at hw
   .rename_i c heq
    simp only[AE] at heq hw;obtain⟨u,hu,X3⟩:=key heq (by simp);rw[hu];cases X3;rw[<-hw];cases c<;>cases b<;>rfl
   .rename_i heq
    simp only[AE] at heq hw;obtain⟨u,hu,X3⟩:=key heq (by simp);rw[hu];cases X3;rw[<-hw];cases b<;>rfl
   .cases hw
theorem VQ {K:Act->World->Prop} {Q:Exit->Act->World->Prop} {i:Nat} (h:Rel P B io w a.tmps s U F fl) (ho:ops[i]?=some o) (hd:∀d,o.dst=some d->d < a.tmps.size) {g:Bool} (hw:wanted s ops o=some g)
  (Y7:g=true->∀id:Id,id.1=s.ep->id.2 / 1024=i->U id=none) {s1:St} (he:g=true->Ib P M C s i o=some (v,s1)) (VG:g=true->gH P B io w a.tmps s U fl i v s1 M C)
  (hK:∀a' w' U' F',Rel P B io w' a'.tmps (if g then s1.put o.dst v else s.put o.dst (.AW [])) U' F' fl->(if g then s1.put o.dst v else s.put o.dst (.AW [])).ep=s.ep->J6 B io w w'->(∀id i,U id=some i->U' id=some i)->(∀id,(U' id).isSome=true->(U id).isSome=true\/(id.1=s.ep/\id.2 / 1024=i))->a'.tmps.size=a.tmps.size->a'.defers=a.defers->K a' w'):
  wpOp P ops Q i K a w:=by
 unfold wpOp;rw[ho];simp only;rw[Ypk h hw];cases g with
 | true=>
  simp only[if_true];refine .inl (Xaz h (he rfl) (Y7 rfl) (VG rfl) _ _ (λval w' hp=>?_));obtain⟨CO,Yk,hl,U',F',hR,X3,hU,Ff⟩:=hp;exact hK _ _ U' F' (hR.PB hd X3) (by rw[Ah rfl,G9];exact Yk) hl hU Ff (vD _ _ _) (vE _ _ _)
 | false=>
  simp only[Bn,if_false];exact hK _ _ U F (h.PB hd (.AW (by rfl) (λk v x hv=>by simp[undef] at hv))) (by rw[Ai (by simp),G9]) (J6.refl _ _ _) (λ_ _ h=>h) (λ_ h=>.inl h) (vD _ _ _) (vE _ _ _)
def HB (P:Program) (M:X2) (C:Kf):Prop:=
 ∀(B:Nat) (io:Nat->Prop) (w:World) (tmps:Array Value) (s:St) (U:AY) (F:Id->List Nat) (fl:List Nat) (k:Nat) (v:V) (s':St),Rel P B io w tmps s U F fl->(∀id:Id,id.1=s.ep->id.2 / 1024=k->U id=none)->gH P B io w tmps s U fl k v s' M C
def LW (n:Nat) (l:List Oper):Bool:=l.all λo=>match o.dst with|some d=>decide (d < n)|none=>true
theorem gJ {n:Nat} {l:List Oper} (h:LW n l=true) {i:Nat} {o:Oper} (ho:l[i]?=some o):∀d,o.dst=some d->d < n:=λd hd=>by
 have:=Cb.1 h o (Ep ho);rw[hd] at this;simpa using this
theorem Y8w {C:Nat->Kf} {Q:Exit->Act->World->Prop} (hC:∀k,HB P M (C k)):∀(l:List Oper) {k:Nat} {s s':St} {a:Act} {w:World} {U:AY} {F:Id->List Nat},Rel P B io w a.tmps s U F fl->(∀j,l[j]?=ops[k+j]?)->LW a.tmps.size ops.toList=true->
  (∀id:Id,id.1=s.ep->k<=id.2 / 1024->U id=none)->FG P M C ops s k l=some s'->(∀a' w',G8 P B io fl w a U s' a' w'->Q .normal a' w')->wpOps P ops Q (List.range' k l.length) a w:=by
 intro l
 induction l with
 | nil=>
  intro k s s' a w U F h _ _ _ he hQ;simp only[FG,AE] at he;subst he;exact hQ _ _ (.refl h)
 | cons o l ih=>
  intro k s s' a w U F h hl hds Y7 he hQ;have h0:ops[k]?=some o:=by simpa using (hl 0).symm
  simp only[FG] at he;obtain⟨g,hg,he⟩:=A9.1 he;simp only[AV,tI];rw[wpOps_cons];have hd:=gJ hds (i:=k) (o:=o) (by simpa using h0);have Z6:∀(id:Id),id.1=s.ep->id.2 / 1024=k->U id=none:=λid h1 h2=>Y7 id h1 (by omega);have go:∀{s2:St} {a':Act} {w':World} {U':AY} {F':Id->List Nat},Rel P B io w' a'.tmps s2 U' F' fl->s2.ep=s.ep->J6 B io w w'->(∀id i,U id=some i->U' id=some i)->(∀id,(U' id).isSome=true->(U id).isSome=true\/(id.1=s.ep/\id.2 / 1024=k))->
    a'.tmps.size=a.tmps.size->a'.defers=a.defers->FG P M C ops s2 (k+1) l=some s'->wpOps P ops Q (List.range' (k+1) l.length) a' w':=by
   intro s2 a' w' U' F' hR Yk I2 hU Ff GA DV he2;refine ih hR (λj=>by have:=hl (j+1);simpa [Nat.add_assoc,fF 1 j] using this) (by rw[GA];exact hds) (λid h1 h2=>?_) he2 (λa2 w2 hA=>hQ _ _ (.trans I2 hU GA DV hA));cases hr:U' id with
   | none=>rfl
   | some i=>
    rcases Ff id (by rw[hr];rfl) with h3|⟨_,h3⟩
    .rw[Y7 id (by rw[<-Yk];exact h1) (by omega)] at h3;cases h3
    .omega
  cases g with
  | true=>
   simp only[if_true] at he;obtain⟨⟨v,s1⟩,h1,he⟩:=A9.1 he;refine VQ (M:=M) (C:=C k) (v:=v) (s1:=s1) h h0 hd hg (λ_=>Z6) (λ_=>h1) (λ_=>hC k _ _ _ _ _ _ F _ _ _ _ h Z6) (λa' w' U' F' hR Yk I2 hU Ff GA DV=>?_);simp only[if_true] at hR Yk;exact go hR Yk I2 hU Ff GA DV he
  | false=>
   simp only[Bn,if_false] at he;refine VQ (M:=M) (C:=C k) (v:=.undef) (s1:=s) h h0 hd hg (λhf=>by cases hf) (λhf=>by cases hf) (λhf=>by cases hf) (λa' w' U' F' hR Yk I2 hU Ff GA DV=>?_);simp only[Bn,if_false] at hR Yk;exact go hR Yk I2 hU Ff GA DV he
end
end Go.Proofs.YthdljdelfgofdaaGreatDoor.Ev
namespace Go.Proofs.YthdljdelfgofdaaGreatDoor.Ev
open Go
structure Ext (D:Id->Prop) (s t:St):Prop where
 ep:t.ep=s.ep
 out:∀id,¬D id->t.heap id=s.heap id
 abs:∀id,D id->s.heap id=none
def Kj (D:Id->Prop) (t s' t':St):Prop:=Ext D s' t'/\(∀id,D id->t'.heap id=t.heap id)/\t'.env=t.env/\t'.ep=t.ep
section
variable {D:Id->Prop} {s t s':St} {P:Program}
theorem Ext.Dc (h:Ext D s t) {id:Id} {b:Bd} (hb:s.heap id=some b):¬D id:=λhd=>by rw[h.abs id hd] at hb;cases hb
theorem Ext.get (h:Ext D s t) {id:Id} {b:Bd} (hb:s.heap id=some b):t.heap id=some b:=by rw[h.out id (h.Dc hb)];exact hb
theorem Ext.two (h:Ext D s t):Kj D t s t:=⟨h,λ_ _=>rfl,rfl,rfl⟩
theorem Kj.trans {t1 s1 s2 t2:St} (h:Kj D t s1 t1) (k:Kj D t1 s2 t2):Kj D t s2 t2:=⟨k.1,λid hd=>(k.2.1 id hd).trans (h.2.1 id hd),k.2.2.1.trans h.2.2.1,k.2.2.2.trans h.2.2.2⟩
theorem Ext.kill (h:Ext D s t) {id:Id} (hd:¬D id):Kj D t (s.kill id) (t.kill id):=by
 refine⟨⟨h.ep,λAw DB=>?_,λAw DB=>?_⟩,λAw DB=>?_,rfl,rfl⟩
 .simp only[St.kill,Bi];split
  .rfl
  .exact h.out Aw DB
 .simp only[St.kill,Bi];split
  .rfl
  .exact h.abs Aw DB
 .simp only[St.kill,Bi];rw[Ai (show ¬Aw=id fromλe=>hd (by rw[<-e];exact DB))]
theorem Ext.A5 (h:Ext D s t) {id:Id} {b:Bd} (hd:¬D id):Kj D t (s.A5 id b) (t.A5 id b):=by
 refine⟨⟨h.ep,λAw DB=>?_,λAw DB=>?_⟩,λAw DB=>?_,rfl,rfl⟩
 .simp only[St.A5,Bi];split
  .rfl
  .exact h.out Aw DB
 .simp only[St.A5,Bi];rw[Ai (show ¬Aw=id fromλe=>hd (by rw[<-e];exact DB))];exact h.abs Aw DB
 .simp only[St.A5,Bi];rw[Ai (show ¬Aw=id fromλe=>hd (by rw[<-e];exact DB))]
theorem Ext.rowsOf (h:Ext D s t) {x:V} {r:List (List V)} (hr:s.rowsOf x=some r):t.rowsOf x=some r:=by
 unfold St.rowsOf at hr ⊢;split at hr
 .obtain⟨b,hb,hr⟩:=A9.1 hr
  simp only[h.get hb,Ag];exact hr
 .exact hr
 .exact hr
 .exact hr
 .cases hr
theorem Ext.whole (h:Ext D s t) {id:Id} {off len:Nat} {r:TypeId×List (List V)} (hr:s.whole id off len=some r):t.whole id off len=some r/\¬D id:=by
 unfold St.whole at hr ⊢;obtain⟨b,hb,hr⟩:=A9.1 hr;exact⟨by simp only[h.get hb,Ag];exact hr,h.Dc hb⟩
theorem Ext.sink:∀(xs:List V) {s t:St} {ys:List V} {c:Bool} {s':St},Ext D s t->s.sink xs=some (ys,c,s')->∃t',t.sink xs=some (ys,c,t')/\Kj D t s' t':=by
 intro xs
 induction xs with
 | nil=>
  intro s t ys c s' h hs;simp only[St.sink,AE,A6] at hs;obtain⟨rfl,rfl,rfl⟩:=hs;exact⟨t,rfl,h.two⟩
 | cons x xs ih=>
  intro s t ys c s' h hs;have step:∀{y:V} {f:Bool->Bool},((s.sink xs).map λq=>(y::q.1,f q.2.1,q.2.2))=some (ys,c,s')->∃t',((t.sink xs).map λq=>(y::q.1,f q.2.1,q.2.2))=some (ys,c,t')/\Kj D t s' t':=by
   intro y f hs;obtain⟨⟨q1,q2,q3⟩,hq,he⟩:=AL.1 hs;simp only[A6] at he;obtain⟨rfl,rfl,rfl⟩:=he;obtain⟨t',h1,h2⟩:=ih h hq;exact⟨t',by rw[h1];rfl,h2⟩
  unfold St.sink at hs ⊢;split at hs
  .exact step (f:=λb=>b) hs
  .rename_i Yh
   exact step (f:=λb=>b) hs
  .exact step (f:=λ_=>false) hs
  .exact step (f:=λ_=>false) hs
  .rename_i id off len
   split at hs
   .rename_i er hw
    obtain⟨Gd,hd⟩:=h.whole hw;obtain⟨⟨q1,q2,q3⟩,hq,he⟩:=AL.1 hs;simp only[A6] at he;obtain⟨rfl,rfl,rfl⟩:=he;obtain⟨t',h1,h2⟩:=ih (h.kill hd).1 hq;refine⟨t',by rw[Gd];simp only[h1];rfl,(h.kill hd).trans h2⟩
   .rename_i hw
    split at hs
    .rename_i b hb
     split at hs
     .rename_i Yv
      obtain⟨rows,Wn,hs⟩:=A9.1 hs;obtain⟨t',h1,h2⟩:=step (f:=λ_=>false) hs;have Yx:=h.get hb;have Gd:t.whole id off len=none:=by
       unfold St.whole at hw ⊢;rw[Yx] ;rw[hb] at hw;exact hw
      exact⟨t',by rw[Gd,Yx];simp only[Yv,if_true,h.rowsOf Wn,Ag];exact h1,h2⟩
     .cases hs
    .cases hs
  .cases hs
theorem Ext.Bp:∀(xs:List (List V)) {s t:St} {ys:List (List V)} {c:Bool} {s':St},Ext D s t->s.Bp xs=some (ys,c,s')->∃t',t.Bp xs=some (ys,c,t')/\Kj D t s' t':=by
 intro xs
 induction xs with
 | nil=>
  intro s t ys c s' h hs;simp only[St.Bp,AE,A6] at hs;obtain⟨rfl,rfl,rfl⟩:=hs;exact⟨t,rfl,h.two⟩
 | cons x xs ih=>
  intro s t ys c s' h hs;simp only[St.Bp] at hs ⊢;obtain⟨⟨y1,c1,s1⟩,h1,hs⟩:=A9.1 hs;obtain⟨⟨y2,c2,s2⟩,h2,hs⟩:=AL.1 hs;simp only[A6] at hs;obtain⟨rfl,rfl,rfl⟩:=hs;obtain⟨t1,g1,e1⟩:=Ext.sink x h h1;obtain⟨t2,g2,e2⟩:=ih e1.1 h2;exact⟨t2,by rw[g1];simp only[Ag,g2];rfl,e1.trans e2⟩
theorem Ext.BA (h:Ext D s t) {x y:V} (hr:s.BA x=some y):t.BA x=some y:=by
 unfold St.BA at hr ⊢;split at hr
 .exact hr
 .exact hr
 .exact hr
 .exact hr
 .obtain⟨r,h1,rfl⟩:=AL.1 hr
  rw[h.rowsOf h1];rfl
 .exact hr
 .exact hr
theorem Ext.B0 (h:Ext D s t):∀{xs ys:List V},s.B0 xs=some ys->t.B0 xs=some ys:=by
 intro xs
 induction xs with
 | nil=>intro ys hr;exact hr
 | cons x xs ih=>
  intro ys hr;simp only[St.B0] at hr ⊢;obtain⟨y,h1,hr⟩:=A9.1 hr;obtain⟨zs,h2,rfl⟩:=AL.1 hr;rw[h.BA h1];simp only[Ag,ih h2];rfl
theorem Ext.Br (h:Ext D s t) {x y:V} (hr:s.Br x=some y):t.Br x=some y:=by
 unfold St.Br at hr ⊢;split at hr
 .obtain⟨b,hb,hr⟩:=A9.1 hr
  simp only[h.get hb,Ag];split at hr
  .rename_i ho
   rw[Ah ho];obtain⟨row,Xg,hr⟩:=A9.1 hr;obtain⟨cs,BO,rfl⟩:=AL.1 hr;rw[Xg];simp only[Ag,h.B0 BO];rfl
  .cases hr
 .exact h.BA hr
theorem Ext.Bz (h:Ext D s t):∀{xs ys:List V},s.Bz xs=some ys->t.Bz xs=some ys:=by
 intro xs
 induction xs with
 | nil=>intro ys hr;exact hr
 | cons x xs ih=>
  intro ys hr;simp only[St.Bz] at hr ⊢;obtain⟨y,h1,hr⟩:=A9.1 hr;obtain⟨zs,h2,rfl⟩:=AL.1 hr;rw[h.Br h1];simp only[Ag,ih h2];rfl
theorem Ext.C1 (h:Ext D s t) {x y:V} (hr:s.C1 x=some y):t.C1 x=some y:=by
 unfold St.C1 at hr ⊢;split at hr
 .obtain⟨ys,h1,rfl⟩:=AL.1 hr
  simp only[h.B0 h1];rfl
 .obtain⟨ys,h1,rfl⟩:=AL.1 hr
  simp only[h.Bz h1];rfl
 .exact h.Br hr
theorem Ext.BL (h:Ext D s t):∀{xs:List V} {ms:List Yt} {ys:List V},s.BL ms xs=some ys->t.BL ms xs=some ys:=by
 intro xs
 induction xs with
 | nil=>intro ms ys hr;exact hr
 | cons x xs ih=>
  intro ms ys hr;simp only[St.BL] at hr ⊢;obtain⟨y,h1,hr⟩:=A9.1 hr;obtain⟨zs,h2,rfl⟩:=AL.1 hr;have:t.Cm (ms.headD .rd) x=some y:=by
   unfold St.Cm at h1 ⊢;split at h1
   .exact h.C1 h1
   .exact h1
  rw[this];simp only[Ag,ih h2];rfl
theorem Ext.AA (h:Ext D s t) {ty:Option TypeId} {x y:V} (hg:s.AA ty x=some (y,s')):∃t',t.AA ty x=some (y,t')/\Kj D t s' t':=by
 unfold St.AA at hg ⊢;split at hg
 .obtain⟨e,h1,he⟩:=AL.1 hg
  simp only[A6] at he;obtain⟨rfl,rfl⟩:=he;exact⟨t,by rw[h1];rfl,h.two⟩
 .simp only[AE,A6] at hg
  obtain⟨rfl,rfl⟩:=hg;exact⟨t,rfl,h.two⟩
 .simp only[AE,A6] at hg
  obtain⟨rfl,rfl⟩:=hg;exact⟨t,rfl,h.two⟩
 .simp only[AE,A6] at hg
  obtain⟨rfl,rfl⟩:=hg;exact⟨t,rfl,h.two⟩
 .obtain⟨er,h1,he⟩:=AL.1 hg
  simp only[A6] at he;obtain⟨rfl,rfl⟩:=he;obtain⟨h2,hd⟩:=h.whole h1;exact⟨_,by rw[h2];rfl,h.kill hd⟩
 .cases hg
theorem Ext.AK:∀{xs:List V} {s t:St} {ts:List (Option TypeId)} {ys:List V} {s':St},Ext D s t->s.AK ts xs=some (ys,s')->∃t',t.AK ts xs=some (ys,t')/\Kj D t s' t':=by
 intro xs
 induction xs with
 | nil=>
  intro s t ts ys s' h hs;simp only[St.AK,AE,A6] at hs;obtain⟨rfl,rfl⟩:=hs;exact⟨t,rfl,h.two⟩
 | cons x xs ih=>
  intro s t ts ys s' h hs;simp only[St.AK] at hs ⊢;obtain⟨⟨y1,s1⟩,h1,hs⟩:=A9.1 hs;obtain⟨⟨y2,s2⟩,h2,hs⟩:=AL.1 hs;simp only[A6] at hs;obtain⟨rfl,rfl⟩:=hs;obtain⟨t1,g1,e1⟩:=h.AA h1;obtain⟨t2,g2,e2⟩:=ih e1.1 h2;exact⟨t2,by rw[g1];simp only[Ag,g2];rfl,e1.trans e2⟩
theorem Ext.Ba (h:Ext D s t) {ts:List (Option TypeId)} {x y:V} (hg:s.Ba ts x=some (y,s')):∃t',t.Ba ts x=some (y,t')/\Kj D t s' t':=by
 unfold St.Ba at hg ⊢;split at hg
 .obtain⟨⟨ys,s1⟩,h1,he⟩:=AL.1 hg
  simp only[A6] at he;obtain⟨rfl,rfl⟩:=he;obtain⟨t',g,e⟩:=Ext.AK h h1;exact⟨t',by rw[g];rfl,e⟩
 .exact h.AA hg
theorem Ext.Bv (h:Ext D s t) {ts:List (Option TypeId)} {id:Id} {ys:List V} (hg:s.Bv ts id=some (ys,s')):(∃t',t.Bv ts id=some (ys,t')/\Kj D t s' t')/\¬D id:=by
 unfold St.Bv at hg ⊢;obtain⟨b,hb,hg⟩:=A9.1 hg;refine⟨?_,h.Dc hb⟩;simp only[h.get hb,Ag];split at hg
 .rename_i hc
  rw[Ah hc];split at hg
  .rename_i row hr
   obtain⟨t',g,e⟩:=Ext.AK (h.kill (h.Dc hb)).1 hg;exact⟨t',g,(h.kill (h.Dc hb)).trans e⟩
  .cases hg
 .cases hg
theorem Ext.Bh (h:Ext D s t) {ty:Option TypeId} {x y:V} (hg:s.Bh ty x=some (y,s')):∃t',t.Bh ty x=some (y,t')/\Kj D t s' t':=by
 unfold St.Bh at hg ⊢;split at hg
 .obtain⟨⟨ys,s1⟩,h1,he⟩:=AL.1 hg
  simp only[A6] at he;obtain⟨rfl,rfl⟩:=he;obtain⟨⟨t',g,e⟩,_⟩:=h.Bv h1;exact⟨t',by simp only[g];rfl,e⟩
 .exact h.AA hg
theorem Ext.AQ:∀{xs:List V} {s t:St} {ts:List (Option TypeId)} {ys:List V} {s':St},Ext D s t->s.AQ ts xs=some (ys,s')->∃t',t.AQ ts xs=some (ys,t')/\Kj D t s' t':=by
 intro xs
 induction xs with
 | nil=>
  intro s t ts ys s' h hs;simp only[St.AQ,AE,A6] at hs;obtain⟨rfl,rfl⟩:=hs;exact⟨t,rfl,h.two⟩
 | cons x xs ih=>
  intro s t ts ys s' h hs;simp only[St.AQ] at hs ⊢;obtain⟨⟨y1,s1⟩,h1,hs⟩:=A9.1 hs;obtain⟨⟨y2,s2⟩,h2,hs⟩:=AL.1 hs;simp only[A6] at hs;obtain⟨rfl,rfl⟩:=hs;obtain⟨t1,g1,e1⟩:=h.Bh h1;obtain⟨t2,g2,e2⟩:=ih e1.1 h2;exact⟨t2,by rw[g1];simp only[Ag,g2];rfl,e1.trans e2⟩
theorem Ext.Be (h:Ext D s t) {ts:List (Option TypeId)} {id:Id} {ys:List V} (hg:s.Be ts id=some (ys,s')):(∃t',t.Be ts id=some (ys,t')/\Kj D t s' t')/\¬D id:=by
 unfold St.Be at hg ⊢;obtain⟨b,hb,hg⟩:=A9.1 hg;refine⟨?_,h.Dc hb⟩;simp only[h.get hb,Ag];split at hg
 .rename_i hc
  rw[Ah hc];split at hg
  .rename_i row hr
   obtain⟨t',g,e⟩:=Ext.AQ (h.kill (h.Dc hb)).1 hg;exact⟨t',g,(h.kill (h.Dc hb)).trans e⟩
  .cases hg
 .cases hg
def VS (D:Id->Prop):V->Prop
 | .sl id _ _=>¬D id
 | _=>True
def I3 (D:Id->Prop) (m:Yt) (x:V):Prop:=match m with
 | .io=>match x with|.ptr id _ _=>¬D id|_=>True
 | .Er=>match thin x with|.agg cs=>∀c∈cs,VS D c|x=>VS D x
 | _=>True
def vF (D:Id->Prop):List Yt->List V->Prop
 | _,[]=>True
 | ms,x::r=>I3 D (ms.headD .rd) x/\vF D ms.tail r
theorem Ext.CT (h:Ext D s t) {ty:Option TypeId} {x y:V} (hg:s.AA ty x=some (y,s')):VS D x:=by
 cases x<;>try exact trivial
 rename_i id off len;simp only[St.AA] at hg;obtain⟨er,h1,he⟩:=AL.1 hg;exact (h.whole h1).2
theorem Ext.DX:∀{xs:List V} {s t:St} {ts:List (Option TypeId)} {ys:List V} {s':St},Ext D s t->s.AK ts xs=some (ys,s')->∀c∈xs,VS D c:=by
 intro xs
 induction xs with
 | nil=>intro s t ts ys s' h hs c hc;simp at hc
 | cons x xs ih=>
  intro s t ts ys s' h hs c hc;simp only[St.AK] at hs;obtain⟨⟨y1,s1⟩,h1,hs⟩:=A9.1 hs;obtain⟨⟨y2,s2⟩,h2,hs⟩:=AL.1 hs;rcases Cj.1 hc with rfl|hc
  .exact h.CT h1
  .obtain⟨t1,g1,e1⟩:=h.AA h1
   exact ih e1.1 h2 c hc
theorem Ext.Db (h:Ext D s t) {ts:List (Option TypeId)} {m:Yt} {x y:V} (hg:s.Db ts m x=some (y,s')):(∃t',t.Db ts m x=some (y,t')/\Kj D t s' t')/\I3 D m x:=by
 unfold St.Db at hg ⊢;split at hg
 .simp only[AE,A6] at hg
  obtain⟨rfl,rfl⟩:=hg;exact⟨⟨t,rfl,h.two⟩,trivial⟩
 .split at hg
  .obtain⟨⟨ys,s1⟩,h1,he⟩:=AL.1 hg
   simp only[A6] at he;obtain⟨rfl,rfl⟩:=he;obtain⟨⟨t',g,e⟩,hd⟩:=h.Be h1;exact⟨⟨t',by simp only[g];rfl,e⟩,hd⟩
  .cases hg
 .exact⟨h.Ba hg,trivial⟩
 .refine⟨h.Ba hg,?_⟩
  unfold I3;generalize thin x=z at hg;unfold St.Ba at hg;split at hg
  .obtain⟨⟨ys,s1⟩,h1,he⟩:=AL.1 hg
   exact Ext.DX h h1
  .rename_i Yh
   have:=h.CT hg;cases z<;>first|exact this|exact absurd rfl (Yh _)
theorem Ext.Bs:∀{xs:List V} {s t:St} {ts:List TypeId} {ms:List Yt} {ys:List V} {s':St},Ext D s t->s.Bs P ts ms xs=some (ys,s')->(∃t',t.Bs P ts ms xs=some (ys,t')/\Kj D t s' t')/\vF D ms xs:=by
 intro xs
 induction xs with
 | nil=>
  intro s t ts ms ys s' h hs;simp only[St.Bs,AE,A6] at hs;obtain⟨rfl,rfl⟩:=hs;exact⟨⟨t,rfl,h.two⟩,trivial⟩
 | cons x xs ih=>
  intro s t ts ms ys s' h hs;simp only[St.Bs] at hs ⊢;obtain⟨⟨y1,s1⟩,h1,hs⟩:=A9.1 hs;obtain⟨⟨y2,s2⟩,h2,hs⟩:=AL.1 hs;simp only[A6] at hs;obtain⟨rfl,rfl⟩:=hs;obtain⟨⟨t1,g1,e1⟩,i1⟩:=h.Db h1;obtain⟨⟨t2,g2,e2⟩,i2⟩:=ih e1.1 h2;exact⟨⟨t2,by rw[g1];simp only[Ag,g2];rfl,e1.trans e2⟩,i1,i2⟩
theorem Ext.AS (h:Ext D s t) {id:Id} (hd:¬D id) {x y:V} (hg:s.AS id x=some (y,s')):∃t',t.AS id x=some (y,t')/\Kj D t s' t':=by
 unfold St.AS at hg ⊢;split at hg
 .simp only[AE,A6] at hg
  obtain⟨rfl,rfl⟩:=hg;exact⟨_,rfl,h.A5 hd⟩
 .simp only[AE,A6] at hg
  obtain⟨rfl,rfl⟩:=hg;exact⟨t,rfl,h.two⟩
 .simp only[AE,A6] at hg
  obtain⟨rfl,rfl⟩:=hg;exact⟨t,rfl,h.two⟩
 .cases hg
theorem Ext.AN {e:Nat}:∀{xs:List V} {s t:St} {k:Nat} {ys:List V} {s':St},Ext D s t->(∀j,k<=j->j < k+xs.length->¬D (e,j))->s.AN e k xs=some (ys,s')->∃t',t.AN e k xs=some (ys,t')/\Kj D t s' t':=by
 intro xs
 induction xs with
 | nil=>
  intro s t k ys s' h _ hs;simp only[St.AN,AE,A6] at hs;obtain⟨rfl,rfl⟩:=hs;exact⟨t,rfl,h.two⟩
 | cons x xs ih=>
  intro s t k ys s' h hd hs;simp only[St.AN] at hs ⊢;obtain⟨⟨y1,s1⟩,h1,hs⟩:=A9.1 hs;obtain⟨⟨y2,s2⟩,h2,hs⟩:=AL.1 hs;simp only[A6] at hs;obtain⟨rfl,rfl⟩:=hs;obtain⟨t1,g1,e1⟩:=h.AS (hd k (B4 _) (by simp)) h1;obtain⟨t2,g2,e2⟩:=ih e1.1 (λj hj Z6=>hd j (by omega) (by simp only[AV];omega)) h2;exact⟨t2,by rw[g1];simp only[Ag,g2];rfl,e1.trans e2⟩
theorem Ext.B1 (h:Ext D s t) {e k:Nat} {x y:V} (hd:∀j,k<=j->j < k+JP x->¬D (e,j)) (hg:s.B1 e k x=some (y,s')):∃t',t.B1 e k x=some (y,t')/\Kj D t s' t':=by
 unfold St.B1 at hg ⊢;split at hg
 .simp only[JP] at hd
  obtain⟨⟨ys,s1⟩,h1,he⟩:=AL.1 hg;simp only[A6] at he;obtain⟨rfl,rfl⟩:=he;obtain⟨t',g,e⟩:=Ext.AN h (λj hj Z6=>hd j (by omega) (by omega)) h1;exact⟨_,by rw[g];rfl,e.trans (e.1.A5 (hd _ (B4 _) (by omega)))⟩
 .exact h.AS (hd k (B4 _) (by unfold JP;split<;>omega)) hg
theorem Ext.AX {e:Nat}:∀{xs:List V} {s t:St} {k:Nat} {ys:List V} {s':St},Ext D s t->(∀j,k<=j->j < k+wt xs->¬D (e,j))->s.AX e k xs=some (ys,s')->∃t',t.AX e k xs=some (ys,t')/\Kj D t s' t':=by
 intro xs
 induction xs with
 | nil=>
  intro s t k ys s' h _ hs;simp only[St.AX,AE,A6] at hs;obtain⟨rfl,rfl⟩:=hs;exact⟨t,rfl,h.two⟩
 | cons x xs ih=>
  intro s t k ys s' h hd hs;simp only[wt] at hd;simp only[St.AX] at hs ⊢;obtain⟨⟨y1,s1⟩,h1,hs⟩:=A9.1 hs;obtain⟨⟨y2,s2⟩,h2,hs⟩:=AL.1 hs;simp only[A6] at hs;obtain⟨rfl,rfl⟩:=hs;obtain⟨t1,g1,e1⟩:=h.B1 (λj hj Z6=>hd j hj (by omega)) h1;obtain⟨t2,g2,e2⟩:=ih e1.1 (λj hj Z6=>hd j (by omega) (by omega)) h2;exact⟨t2,by rw[g1];simp only[Ag,g2];rfl,e1.trans e2⟩
theorem Ext.BC (h:Ext D s t) {e k:Nat} (hd:∀j,k<=j->j < k+64->¬D (e,j)) {cs:List V} {y:V} (hg:s.BC e k cs=some (y,s')):∃t',t.BC e k cs=some (y,t')/\Kj D t s' t':=by
 unfold St.BC at hg ⊢;split at hg
 .rename_i hl
  rw[Ah hl];obtain⟨⟨ys,s1⟩,h1,he⟩:=AL.1 hg;simp only[A6] at he;obtain⟨rfl,rfl⟩:=he;obtain⟨t',g,e⟩:=Ext.AX h (λj hj Z6=>hd j hj (by omega)) h1;exact⟨_,by rw[g];rfl,e.trans (e.1.A5 (hd _ (by omega) (by omega)))⟩
 .cases hg
theorem Ext.Bb (h:Ext D s t) {e k:Nat} (hd:∀j,k<=j->j < k+64->¬D (e,j)) {x y:V} (hg:s.Bb e k x=some (y,s')):∃t',t.Bb e k x=some (y,t')/\Kj D t s' t':=by
 unfold St.Bb at hg ⊢;split at hg
 .split at hg
  .rename_i hl
   rw[Ah hl];obtain⟨⟨ys,s1⟩,h1,he⟩:=AL.1 hg;simp only[A6] at he;obtain⟨rfl,rfl⟩:=he;obtain⟨t',g,e⟩:=Ext.AN h (λj hj Z6=>hd j hj (by omega)) h1;exact⟨t',by rw[g];rfl,e⟩
  .cases hg
 .split at hg
  .rename_i hl
   rw[Ah hl];obtain⟨⟨ys,s1⟩,h1,he⟩:=AL.1 hg;simp only[A6] at he;obtain⟨rfl,rfl⟩:=he;obtain⟨t',g,e⟩:=Ext.AN h (λj hj Z6=>hd j hj (by omega)) h1;exact⟨_,by rw[g];rfl,e.trans (e.1.A5 (hd _ (by omega) (by omega)))⟩
  .cases hg
 .exact h.AS (hd k (B4 _) (by omega)) hg
theorem Ext.Bw {e:Nat}:∀{xs:List V} {s t:St} {k:Nat} {ys:List V} {s':St},Ext D s t->(∀j,64*k<=j->j < 64*(k+xs.length)->¬D (e,j))->s.Bw e k xs=some (ys,s')->∃t',t.Bw e k xs=some (ys,t')/\Kj D t s' t':=by
 intro xs
 induction xs with
 | nil=>
  intro s t k ys s' h _ hs;simp only[St.Bw,AE,A6] at hs;obtain⟨rfl,rfl⟩:=hs;exact⟨t,rfl,h.two⟩
 | cons x xs ih=>
  intro s t k ys s' h hd hs;simp only[AV] at hd;simp only[St.Bw] at hs ⊢;obtain⟨⟨y1,s1⟩,h1,hs⟩:=A9.1 hs;obtain⟨⟨y2,s2⟩,h2,hs⟩:=AL.1 hs;simp only[A6] at hs;obtain⟨rfl,rfl⟩:=hs;obtain⟨t1,g1,e1⟩:=h.Bb (λj hj Z6=>hd j hj (by omega)) h1;obtain⟨t2,g2,e2⟩:=ih e1.1 (λj hj Z6=>hd j (by omega) (by omega)) h2;exact⟨t2,by rw[g1];simp only[Ag,g2];rfl,e1.trans e2⟩
theorem Ext.BB (h:Ext D s t) {e k:Nat} (hd:∀j,64*k<=j->j < 64*(k+8)->¬D (e,j)) {x y:V} (hg:s.BB e k x=some (y,s')):∃t',t.BB e k x=some (y,t')/\Kj D t s' t':=by
 unfold St.BB at hg ⊢;split at hg
 .split at hg
  .rename_i hl
   rw[Ah hl];obtain⟨⟨ys,s1⟩,h1,he⟩:=AL.1 hg;simp only[A6] at he;obtain⟨rfl,rfl⟩:=he;obtain⟨t',g,e⟩:=Ext.Bw h (λj hj Z6=>hd j hj (by omega)) h1;exact⟨t',by rw[g];rfl,e⟩
  .cases hg
 .exact h.Bb (λj hj Z6=>hd j hj (by omega)) hg
theorem Ext.AO:∀{xs:List V} {s t:St} {os:List V} {s':St},Ext D s t->(∀c∈xs,VS D c)->s.AO xs os=some s'->∃t',t.AO xs os=some t'/\Kj D t s' t':=by
 intro xs
 induction xs with
 | nil=>
  intro s t os s' h _ hs;simp only[St.AO,AE] at hs;subst hs;exact⟨t,rfl,h.two⟩
 | cons x xs ih=>
  intro s t os s' h hd hs;unfold St.AO at hs ⊢;split at hs
  .rename_i heq;cases heq
  .rename_i id l os1 e rows ns KC
   injection KC with h1 h2;subst h1;subst h2;have:=h.A5 (b:=⟨false,true,true,e,rows⟩) (hd _ BJ);obtain⟨t',g,e⟩:=ih this.1 (λc hc=>hd c (Co _ hc)) hs;exact⟨t',g,this.trans e⟩
  .rename_i KC
   injection KC with h1 h2;subst h1;subst h2;rename_i Yh;obtain⟨t',g,e⟩:=ih h (λc hc=>hd c (Co _ hc)) hs;exact⟨t',g,e⟩
  .cases hs
theorem Ext.back (h:Ext D s t) {m:Yt} {e k:Nat} (hd:∀j,64*k<=j->j < 64*(k+1)->¬D (e,j)) {x o:V} (hi:I3 D m x) (hb:s.back m e k x o=some s'):∃t',t.back m e k x o=some t'/\Kj D t s' t':=by
 unfold St.back at hb ⊢;split at hb
 .simp only[AE] at hb;subst hb;exact⟨t,rfl,h.two⟩
 .simp only[AE] at hb;subst hb;exact⟨t,rfl,h.two⟩
 .split at hb
  .split at hb
   .rename_i hl
    rw[Ah hl];obtain⟨⟨ys,s1⟩,h1,rfl⟩:=AL.1 hb;obtain⟨t',g,e⟩:=Ext.AX h (λj hj Z6=>hd j hj (by omega)) h1;exact⟨_,by rw[g];rfl,e.trans (e.1.A5 hi)⟩
   .cases hb
  .cases hb
 .unfold I3 at hi
  generalize thin x=z at hb hi;split at hb
  .exact Ext.AO h hi hb
  .rename_i Yh
   refine Ext.AO h (λc hc=>?_) hb;rw[List.mem_singleton.1 hc];cases z<;>first|exact hi|exact trivial
theorem Ext.BF {e:Nat}:∀{xs:List V} {s t:St} {ms:List Yt} {k:Nat} {os:List V} {s':St},Ext D s t->(∀j,64*k<=j->j < 64*(k+xs.length)->¬D (e,j))->vF D ms xs->s.BF e ms k xs os=some s'->∃t',t.BF e ms k xs os=some t'/\Kj D t s' t':=by
 intro xs
 induction xs with
 | nil=>
  intro s t ms k os s' h _ _ hs;simp only[St.BF,AE] at hs;subst hs;exact⟨t,by simp[St.BF],h.two⟩
 | cons x xs ih=>
  intro s t ms k os s' h hd hi hs;simp only[AV] at hd;cases os with
  | nil=>simp[St.BF] at hs
  | cons o os=>
   simp only[St.BF] at hs ⊢;obtain⟨s1,h1,hs⟩:=A9.1 hs;obtain⟨t1,g1,e1⟩:=h.back (λj hj Z6=>hd j hj (by omega)) hi.1 h1;obtain⟨t2,g2,e2⟩:=ih e1.1 (λj hj Z6=>hd j (by omega) (by omega)) hi.2 hs;exact⟨t2,by rw[g1];exact g2,e1.trans e2⟩
variable {M:X2} {C:Kf} {k:Nat} {o:Oper} {v:V}
theorem Ext.call (h:Ext D s t) (hd:∀id:Id,D id->¬(id.1=s.ep/\id.2 / 1024=k)) {g:FuncId} {args:List V} (hc:JQ P M C s k g args=some (v,s')):∃t',JQ P M C t k g args=some (v,t')/\Kj D t s' t':=by
 unfold JQ at hc ⊢;split at hc
 case isFalse=>cases hc
 rename_i hl;rw[Ah hl];obtain⟨⟨ys,s1⟩,h1,hc⟩:=A9.1 hc;obtain⟨xs,h2,hc⟩:=A9.1 hc;obtain⟨⟨r,os⟩,h3,hc⟩:=A9.1 hc;obtain⟨⟨t1,g1,e1⟩,i1⟩:=h.Bs h1;have g2:=e1.1.BL h2;simp only at hc g2;rw[g1];simp only[Ag,g2,h3];split at hc
 .cases hc
 .rename_i hp
  rw[Ai hp];obtain⟨s2,h4,h5⟩:=A9.1 hc;have CU:∀j,1024*k<=j->j < 1024*(k+1)->¬D (s.ep,j):=λj h1 h2 hD=>hd _ hD ⟨rfl,by simp only;omega⟩;obtain⟨t2,g4,e4⟩:=Ext.BF e1.1 (λj hj Z6=>CU j (by omega) (by omega)) i1 h4;obtain⟨t3,g5,e5⟩:=e4.1.BB (λj hj Z6=>CU j (by omega) (by omega)) h5;exact⟨t3,by rw[h.ep,g4];exact g5,(e1.trans e4).trans e5⟩
theorem Ext.Cp (h:Ext D s t) {all:Bool} {x:V} {rows:List (List V)} {c:Bool} (hm:s.Cp all x=some (rows,c,s')):∃t',t.Cp all x=some (rows,c,t')/\Kj D t s' t':=by
 have look:∀{x:V},((s.rowsOf x).map λrows=>(rows,Fa rows,s))=some (rows,c,s')->∃t',((t.rowsOf x).map λrows=>(rows,Fa rows,t))=some (rows,c,t')/\Kj D t s' t':=by
  intro x hm;obtain⟨r,h1,he⟩:=AL.1 hm;simp only[A6] at he;obtain⟨rfl,rfl,rfl⟩:=he;exact⟨t,by rw[h.rowsOf h1];rfl,h.two⟩
 unfold St.Cp at hm ⊢;split at hm
 .rename_i id off len
  split at hm
  .rename_i er hw
   split at hw
   .rename_i hc
    obtain⟨g,hd⟩:=h.whole hw;simp only[AE,A6] at hm;obtain⟨rfl,rfl,rfl⟩:=hm;refine⟨t.kill id,?_,h.kill hd⟩;rw[h.ep,Ah hc,g]
   .cases hw
  .rename_i hw
   have hb:∃b,s.heap id=some b:=by
    obtain⟨r,h1,_⟩:=AL.1 hm;simp only[St.rowsOf] at h1;obtain⟨b,hb,_⟩:=A9.1 h1;exact⟨b,hb⟩
   obtain⟨b,hb⟩:=hb;have Gd:(if id.1=t.ep\/all=true then t.whole id off len else none)=none:=by
    rw[h.ep];split
    .rename_i hc
     rw[Ah hc] at hw;unfold St.whole at hw ⊢;rw[h.get hb];rw[hb] at hw;exact hw
    .rfl
   rw[Gd];exact look hm
 .exact look hm
theorem Ext.append (h:Ext D s t) {all:Bool} {id:Id} (hd:¬D id) {ty:TypeId} {b x:V} (ha:Nn P all s id ty b x=some (v,s')):∃t',Nn P all t id ty b x=some (v,t')/\Kj D t s' t':=by
 unfold Nn at ha ⊢;obtain⟨e,h1,ha⟩:=A9.1 ha;obtain⟨⟨rows,c,s1⟩,h2,ha⟩:=A9.1 ha;obtain⟨t1,g2,e2⟩:=h.Cp h2;rw[h1,Ag,g2,Ag];simp only at ha ⊢;split at ha
 case isFalse=>cases ha
 rename_i hc;rw[Ah hc];split at ha
 .split at ha
  .rename_i hl
   rw[Ah hl];simp only[AE,A6] at ha;obtain⟨rfl,rfl⟩:=ha;exact⟨_,rfl,e2.trans (e2.1.A5 hd)⟩
  .cases ha
 .obtain⟨kb,h3,ha⟩:=A9.1 ha
  rw[e2.1.get h3,Ag];split at ha
  .rename_i hl
   rw[Ah hl];simp only[AE,A6] at ha;obtain⟨rfl,rfl⟩:=ha;have:=e2.1.kill (e2.1.Dc h3);exact⟨_,rfl,(e2.trans this).trans (this.1.A5 hd)⟩
  .cases ha
 .cases ha
theorem Ext.slice (h:Ext D s t) {ty:TypeId} {x:V} {lo hi:Option V} (hs:Np P s ty x lo hi=some v):Np P t ty x lo hi=some v:=by
 unfold Np at hs ⊢;obtain⟨e,h1,hs⟩:=A9.1 hs;obtain⟨rows,h2,hs⟩:=A9.1 hs;rw[h1,Ag,h.rowsOf h2,Ag];exact hs
theorem Ext.op {f:Operand->V} (h:Ext D s t) (hd:∀id:Id,D id->¬(id.1=s.ep/\id.2 / 1024=k)) (he:Xj P M C f s k o=some (v,s')):∃t',Xj P M C f t k o=some (v,t')/\Kj D t s' t':=by
 have Zu:¬D (s.ep,1024*k):=λhD=>hd _ hD ⟨rfl,by simp⟩;have pu:∀{x:Option V},(x.map λy=>(y,s))=some (v,s')->∃t',(x.map λy=>(y,t))=some (v,t')/\Kj D t s' t':=by
  intro x hx;obtain⟨y,rfl,he⟩:=AL.1 hx;simp only[A6] at he;obtain⟨rfl,rfl⟩:=he;exact⟨t,rfl,h.two⟩
 have sm:∀{x:V},some (x,s)=some (v,s')->∃t',some (x,t)=some (v,t')/\Kj D t s' t':=by
  intro x hx;simp only[AE,A6] at hx;obtain⟨rfl,rfl⟩:=hx;exact⟨t,rfl,h.two⟩
 unfold Xj at he ⊢;simp only[h.ep] at he ⊢;split at he
 .split at he
  .cases he
  .exact sm he
 .split at he
  .cases he
  .exact sm he
 .split at he
  .exact sm he
  .cases he
 .split at he
  .exact pu he
  .cases he
 .split at he
  .exact sm he
  .exact sm he
  .exact sm he
  .cases he
 .obtain⟨z,hz,he⟩:=AL.1 he
  simp only[A6] at he;obtain⟨rfl,rfl⟩:=he;exact⟨_,by rw[hz];rfl,h.A5 Zu⟩
 .obtain⟨cs,BO,he⟩:=A9.1 he
  rw[BO,Ag];split at he
  .rename_i hl
   rw[Ah hl];simp only[AE,A6] at he;obtain⟨rfl,rfl⟩:=he;exact⟨_,rfl,h.A5 Zu⟩
  .cases he
 .obtain⟨z,hz,he⟩:=A9.1 he
  rw[hz,Ag];split at he
  .split at he
   .cases he
   .rename_i hl
    rw[Ai hl];obtain⟨cs,BO,he⟩:=AL.1 he;rw[BO];exact sm (congrArg some he)
  .cases he
 .obtain⟨e,Qt,he⟩:=A9.1 he
  obtain⟨z,hz,he⟩:=A9.1 he;rw[Qt,Ag,hz,Ag];split at he
  .cases he
  .rename_i hl
   rw[Ai hl];obtain⟨cs,BO,he⟩:=A9.1 he;obtain⟨⟨rows,c,s1⟩,hs,he⟩:=AL.1 he;simp only[A6] at he;obtain⟨rfl,rfl⟩:=he;obtain⟨t1,g,e1⟩:=Ext.Bp _ h hs;exact⟨_,by rw[BO,Ag,g];rfl,e1.trans (e1.1.A5 Zu)⟩
 .split at he
  .obtain⟨b,hb,he⟩:=A9.1 he
   obtain⟨row,Xg,he⟩:=A9.1 he;rw[h.get hb,Ag,Xg,Ag];split at he
   .rename_i hl
    rw[Ah hl];exact pu he
   .cases he
  .split at he
   .rename_i hl
    rw[Ah hl];exact pu he
   .cases he
  .cases he
 .split at he
  .obtain⟨b,hb,he⟩:=A9.1 he
   obtain⟨row,Xg,he⟩:=A9.1 he;obtain⟨cs,BO,he⟩:=A9.1 he;rw[h.get hb,Ag,Xg,Ag,BO,Ag];split at he
   .rename_i hc
    rw[Ah hc];split at he
    .rename_i Xl
     rw[Ah Xl];simp only[AE,A6] at he;obtain⟨rfl,rfl⟩:=he;exact⟨_,rfl,h.A5 (h.Dc hb)⟩
    .rename_i Xl
     rw[Ai Xl];obtain⟨⟨ys,c,s1⟩,hs,he⟩:=A9.1 he;obtain⟨t1,g,e1⟩:=Ext.sink _ h hs;simp only at he;split at he
     .rename_i b1 CA
      simp only[AE,A6] at he;obtain⟨rfl,rfl⟩:=he;exact⟨_,by rw[g,Ag];simp only[e1.1.get CA],e1.trans (e1.1.A5 (h.Dc hb))⟩
     .cases he
   .cases he
  .cases he
 .obtain⟨off,VI,he⟩:=A9.1 he
  rw[VI,Ag];split at he
  .exact sm he
  .exact sm he
  .cases he
 .obtain⟨e,Qt,he⟩:=A9.1 he
  rw[Qt,Ag];split at he
  .cases he
  .rename_i hz
   rw[Ai hz];obtain⟨n,hn,he⟩:=A9.1 he;rw[hn,Ag];split at he
   .split at he
    .rename_i Z6
     rw[Ah Z6];obtain⟨b,hb,he⟩:=A9.1 he;obtain⟨row,Xg,he⟩:=A9.1 he;rw[h.get hb,Ag,Xg,Ag];split at he
     .rename_i hl;rw[Ah hl];exact sm he
     .cases he
    .cases he
   .obtain⟨row,Xg,he⟩:=A9.1 he
    rw[Xg,Ag];split at he
    .rename_i hl;rw[Ah hl];exact sm he
    .cases he
   .obtain⟨row,Xg,he⟩:=A9.1 he
    rw[Xg,Ag];split at he
    .rename_i hl;rw[Ah hl];exact sm he
    .cases he
   .cases he
 .split at he
  .obtain⟨y,hy,he⟩:=AL.1 he
   rw[h.slice hy];exact sm (congrArg some he)
  .obtain⟨y,hy,he⟩:=AL.1 he
   rw[h.slice hy];exact sm (congrArg some he)
  .obtain⟨y,hy,he⟩:=AL.1 he
   rw[h.slice hy];exact sm (congrArg some he)
  .exact pu he
 .obtain⟨e,Qt,he⟩:=A9.1 he
  obtain⟨z,hz,he⟩:=A9.1 he;obtain⟨n,hn,he⟩:=A9.1 he;obtain⟨m,hm,he⟩:=A9.1 he;rw[Qt,Ag,hz,Ag,hn,Ag,hm,Ag];split at he
  .rename_i hc
   rw[Ah hc];simp only[AE,A6] at he;obtain⟨rfl,rfl⟩:=he;exact⟨_,rfl,h.A5 Zu⟩
  .cases he
 .split at he
  .rename_i hf;rw[Ah hf];exact sm he
  .cases he
 .split at he
  .exact pu he
  .split at he
   .split at he
    .obtain⟨rows,hr,he⟩:=A9.1 he
     rw[h.rowsOf hr,Ag];obtain⟨bs,hb,he⟩:=AL.1 he;rw[hb];exact sm (congrArg some he)
    .cases he
   .cases he
   .cases he
 .split at he
  .split at he
   .split at he
    .rename_i hl
     rw[Ah hl];exact h.append Zu he
    .cases he
   .cases he
  .split at he
   .split at he
    .split at he
     .rename_i hl;rw[Ah hl];exact sm he
     .cases he
    .split at he
     .rename_i hl;rw[Ah hl];exact sm he
     .cases he
    .split at he
     .rename_i hl;rw[Ah hl];exact sm he
     .cases he
    .exact pu he
   .cases he
  .split at he
   .obtain⟨e,Qt,he⟩:=A9.1 he
    obtain⟨z,hz,he⟩:=A9.1 he;rw[Qt,Ag,hz,Ag];split at he
    .obtain⟨b,hb,he⟩:=A9.1 he
     rw[h.get hb,Ag];split at he
     .rename_i hc
      rw[Ah hc];simp only[AE,A6] at he;obtain⟨rfl,rfl⟩:=he;exact⟨_,rfl,h.A5 (h.Dc hb)⟩
     .cases he
    .cases he
   .cases he
  .exact pu he
  .split at he
   .exact h.call hd he
   .cases he
  .cases he
 .split at he
  .exact pu he
  .exact pu he
  .exact pu he
  .split at he
   .rename_i hp
    rw[Ah hp];split at he
    .exact sm he
    .exact sm he
    .cases he
   .cases he
  .split at he
   .cases he
   .rename_i Qt
    rw[Ai Qt];split at he
    .rw[h.rowsOf (show s.rowsOf _=some (_::_) by assumption)];exact sm he
    .rw[h.rowsOf (show s.rowsOf _=some (_::_) by assumption)];exact sm he
    .cases he
  .split at he
   .cases he
   .rename_i Qt
    rw[Ai Qt];split at he
    .rw[h.rowsOf (show s.rowsOf _=some (_::_) by assumption)];exact sm he
    .rw[h.rowsOf (show s.rowsOf _=some (_::_) by assumption)];exact sm he
    .cases he
  .cases he
 .exact pu he
end
section
variable {s s' t:St} {P:Program} {M:X2} {C:Kf} {k:Nat} {o:Oper} {v:V} {f f':Operand->V}
theorem Yoa (h:∀x∈o.op.operands.toList,f x=f' x) (hc:Nl o.op=true->execOp (λx=>(Qi (f x)).getD undef) o=execOp (λx=>(Qi (f' x)).getD undef) o):W6 P f o=W6 P f' o:=by
 unfold W6;have h1:o.op.operands.toList.all (λx=>(Qi (f x)).isSome)=o.op.operands.toList.all (λx=>(Qi (f' x)).isSome):=by
  rw[Bool.eq_iff_iff,Cb,Cb];exact⟨λhh x hx=>by rw[<-h x hx];exact hh x hx,λhh x hx=>by rw[h x hx];exact hh x hx⟩
 rw[h1];cases hp:Nl o.op with
 | false=>simp
 | true=>rw[hc hp]
theorem Y9k:∀{xs:List V} {s:St} {ts:List TypeId} {ms:List Yt} {ys:List V} {s':St},(ms.any λm=>m != .rd)=false->s.Bs P ts ms xs=some (ys,s')->s'=s:=by
 intro xs
 induction xs with
 | nil=>
  intro s ts ms ys s' _ hs;simp only[St.Bs,AE,A6] at hs;exact hs.2.symm
 | cons x xs ih=>
  intro s ts ms ys s' hm hs;simp only[St.Bs] at hs;obtain⟨⟨y1,s1⟩,h1,hs⟩:=A9.1 hs;obtain⟨⟨y2,s2⟩,h2,hs⟩:=AL.1 hs;simp only[A6] at hs;obtain⟨rfl,rfl⟩:=hs;have Eh:ms.headD .rd=.rd/\(ms.tail.any λm=>m != .rd)=false:=by
   cases ms with
   | nil=>exact⟨rfl,rfl⟩
   | cons m ms=>
    simp only[Nk,OS] at hm;exact⟨by simpa using hm.1,hm.2⟩
  rw[Eh.1] at h1;simp only[St.Db,AE,A6] at h1;obtain⟨rfl,rfl⟩:=h1;exact ih Eh.2 h2
theorem Y7v {e:Nat}:∀{xs:List V} {s:St} {ms:List Yt} {k:Nat} {os:List V} {s':St},(ms.any λm=>m != .rd)=false->s.BF e ms k xs os=some s'->s'=s:=by
 intro xs
 induction xs with
 | nil=>
  intro s ms k os s' _ hs;simp only[St.BF,AE] at hs;exact hs.symm
 | cons x xs ih=>
  intro s ms k os s' hm hs;have Eh:ms.headD .rd=.rd/\(ms.tail.any λm=>m != .rd)=false:=by
   cases ms with
   | nil=>exact⟨rfl,rfl⟩
   | cons m ms=>
    simp only[Nk,OS] at hm;exact⟨by simpa using hm.1,hm.2⟩
  cases os with
  | nil=>simp[St.BF] at hs
  | cons o os=>
   simp only[St.BF] at hs;obtain⟨s1,h1,hs⟩:=A9.1 hs;rw[Eh.1] at h1;simp only[St.back,AE] at h1;subst h1;exact ih Eh.2 hs
theorem VT {id Aw:Id} {b:Bd} (h:Aw≠id):(s.A5 id b).heap Aw=s.heap Aw:=by simp[St.A5,Bi,h]
theorem Yc6 {id Aw:Id} {x y:V} (ht:s.AS id x=some (y,s')) (Yh:Aw≠id):s'.heap Aw=s.heap Aw:=by
 unfold St.AS at ht;split at ht
 .simp only[AE,A6] at ht;obtain⟨rfl,rfl⟩:=ht;exact VT Yh
 .simp only[AE,A6] at ht;obtain⟨rfl,rfl⟩:=ht;rfl
 .simp only[AE,A6] at ht;obtain⟨rfl,rfl⟩:=ht;rfl
 .cases ht
theorem Ya4 {e:Nat} {Aw:Id}:∀{xs:List V} {s:St} {k:Nat} {ys:List V} {s':St},s.AN e k xs=some (ys,s')->¬(Aw.1=e/\k<=Aw.2/\Aw.2 < k+xs.length)->s'.heap Aw=s.heap Aw:=by
 intro xs
 induction xs with
 | nil=>intro s k ys s' hs _;simp only[St.AN,AE,A6] at hs;rw[hs.2]
 | cons x xs ih=>
  intro s k ys s' hs hn;simp only[AV] at hn;simp only[St.AN] at hs;obtain⟨⟨y1,s1⟩,h1,hs⟩:=A9.1 hs;obtain⟨⟨y2,s2⟩,h2,hs⟩:=AL.1 hs;simp only[A6] at hs;obtain⟨rfl,rfl⟩:=hs;rw[ih h2 (λh=>hn ⟨h.1,by omega,by omega⟩)];exact Yc6 h1 (λe=>hn (by subst e;exact⟨rfl,B4 _,by simp⟩))
theorem Yhf {e k:Nat} {Aw:Id} {x y:V} (ht:s.Bb e k x=some (y,s')) (hn:¬(Aw.1=e/\k<=Aw.2/\Aw.2 < k+64)):s'.heap Aw=s.heap Aw:=by
 unfold St.Bb at ht;split at ht
 .split at ht
  .obtain⟨⟨ys,s1⟩,h1,he⟩:=AL.1 ht
   simp only[A6] at he;obtain⟨rfl,rfl⟩:=he;exact Ya4 h1 (λh=>hn ⟨h.1,h.2.1,by omega⟩)
  .cases ht
 .split at ht
  .obtain⟨⟨ys,s1⟩,h1,he⟩:=AL.1 ht
   simp only[A6] at he;obtain⟨rfl,rfl⟩:=he;rw[VT (λe=>hn (by subst e;exact⟨rfl,by simp,by simp⟩))];exact Ya4 h1 (λh=>hn ⟨h.1,h.2.1,by omega⟩)
  .cases ht
 .exact Yc6 ht (λe=>hn (by subst e;exact⟨rfl,B4 _,by simp⟩))
theorem Yyw {e:Nat} {Aw:Id}:∀{xs:List V} {s:St} {k:Nat} {ys:List V} {s':St},s.Bw e k xs=some (ys,s')->¬(Aw.1=e/\64*k<=Aw.2/\Aw.2 < 64*(k+xs.length))->s'.heap Aw=s.heap Aw:=by
 intro xs
 induction xs with
 | nil=>intro s k ys s' hs _;simp only[St.Bw,AE,A6] at hs;rw[hs.2]
 | cons x xs ih=>
  intro s k ys s' hs hn;simp only[AV] at hn;simp only[St.Bw] at hs;obtain⟨⟨y1,s1⟩,h1,hs⟩:=A9.1 hs;obtain⟨⟨y2,s2⟩,h2,hs⟩:=AL.1 hs;simp only[A6] at hs;obtain⟨rfl,rfl⟩:=hs;rw[ih h2 (λh=>hn ⟨h.1,by omega,by omega⟩)];exact Yhf h1 (λh=>hn ⟨h.1,h.2.1,by omega⟩)
theorem Yy3 {e k:Nat} {Aw:Id} {x y:V} (ht:s.BB e k x=some (y,s')) (hn:¬(Aw.1=e/\64*k<=Aw.2/\Aw.2 < 64*(k+8))):s'.heap Aw=s.heap Aw:=by
 unfold St.BB at ht;split at ht
 .split at ht
  .obtain⟨⟨ys,s1⟩,h1,he⟩:=AL.1 ht
   simp only[A6] at he;obtain⟨rfl,rfl⟩:=he;exact Yyw h1 (λh=>hn ⟨h.1,h.2.1,by omega⟩)
  .cases ht
 .exact Yhf ht (λh=>hn ⟨h.1,h.2.1,by omega⟩)
theorem Y5l (he:Xj P M C f s k o=some (v,s')) (hw:Ic M f o=false) {id:Id} (hf:Wy s.ep k id=false):s'.heap id=s.heap id:=by
 have Zu:id≠(s.ep,1024*k):=λe=>by subst e;simp[Wy] at hf
 have pu:∀{x:Option V},(x.map λy=>(y,s))=some (v,s')->s'.heap id=s.heap id:=by
  intro x hx;obtain⟨y,_,he⟩:=AL.1 hx;simp only[A6] at he;rw[<-he.2]
 have sm:∀{x:V},some (x,s)=some (v,s')->s'.heap id=s.heap id:=by
  intro x hx;simp only[AE,A6] at hx;rw[<-hx.2]
 unfold Xj at he;unfold Ic at hw;split at he
 .split at he
  .cases he
  .exact sm he
 .split at he
  .cases he
  .exact sm he
 .split at he
  .exact sm he
  .cases he
 .split at he
  .exact pu he
  .cases he
 .split at he
  .exact sm he
  .exact sm he
  .exact sm he
  .cases he
 .obtain⟨z,hz,he⟩:=AL.1 he
  simp only[A6] at he;obtain⟨rfl,rfl⟩:=he;exact VT Zu
 .obtain⟨cs,BO,he⟩:=A9.1 he
  split at he
  .simp only[AE,A6] at he
   obtain⟨rfl,rfl⟩:=he;exact VT Zu
  .cases he
 .obtain⟨z,hz,he⟩:=A9.1 he
  split at he
  .split at he
   .cases he
   .obtain⟨cs,BO,he⟩:=AL.1 he
    exact sm (congrArg some he)
  .cases he
 .rename_i ho;rw[ho] at hw;simp at hw
 .split at he
  .obtain⟨b,hb,he⟩:=A9.1 he
   obtain⟨row,Xg,he⟩:=A9.1 he;split at he
   .exact pu he
   .cases he
  .split at he
   .exact pu he
   .cases he
  .cases he
 .rename_i ho;rw[ho] at hw;simp at hw
 .obtain⟨off,VI,he⟩:=A9.1 he
  split at he
  .exact sm he
  .exact sm he
  .cases he
 .obtain⟨e,Qt,he⟩:=A9.1 he
  split at he
  .cases he
  .obtain⟨n,hn,he⟩:=A9.1 he
   split at he
   .split at he
    .obtain⟨b,hb,he⟩:=A9.1 he
     obtain⟨row,Xg,he⟩:=A9.1 he;split at he
     .exact sm he
     .cases he
    .cases he
   .obtain⟨row,Xg,he⟩:=A9.1 he
    split at he
    .exact sm he
    .cases he
   .obtain⟨row,Xg,he⟩:=A9.1 he
    split at he
    .exact sm he
    .cases he
   .cases he
 .split at he
  .exact pu he
  .exact pu he
  .exact pu he
  .exact pu he
 .obtain⟨e,Qt,he⟩:=A9.1 he
  obtain⟨z,hz,he⟩:=A9.1 he;obtain⟨n,hn,he⟩:=A9.1 he;obtain⟨m,hm,he⟩:=A9.1 he;split at he
  .simp only[AE,A6] at he
   obtain⟨rfl,rfl⟩:=he;exact VT Zu
  .cases he
 .split at he
  .exact sm he
  .cases he
 .split at he
  .exact pu he
  .split at he
   .split at he
    .obtain⟨rows,hr,he⟩:=A9.1 he
     obtain⟨bs,hb,he⟩:=AL.1 he;exact sm (congrArg some he)
    .cases he
   .cases he
   .cases he
 .rename_i c ho
  rw[ho] at hw;simp only at hw;split at he
  .rename_i hc;rw[hc] at hw;simp at hw
  .split at he
   .split at he
    .split at he
     .exact sm he
     .cases he
    .split at he
     .exact sm he
     .cases he
    .split at he
     .exact sm he
     .cases he
    .exact pu he
   .cases he
  .rename_i hc;rw[hc] at hw;simp at hw
  .exact pu he
  .rename_i x hc
   rw[hc] at hw;simp only at hw;split at he
   .rename_i g Bu gK
    rw[gK] at hw;simp only at hw;unfold JQ at he;split at he
    .obtain⟨⟨ys,s1⟩,h1,he⟩:=A9.1 he
     obtain⟨xs,h2,he⟩:=A9.1 he;obtain⟨⟨r,os⟩,h3,he⟩:=A9.1 he;have e1:=Y9k hw h1;subst e1;simp only at he;split at he
     .cases he
     .obtain⟨s2,h4,h5⟩:=A9.1 he
      have e2:=Y7v hw h4;subst e2;refine Yy3 h5 (λh=>?_);have:Wy s2.ep k id=true:=by
       simp only[Wy,Bg,beq_iff_eq];exact⟨h.1,by omega⟩
      rw[this] at hf;cases hf
    .cases he
   .cases he
  .cases he
 .split at he
  .exact pu he
  .exact pu he
  .exact pu he
  .split at he
   .split at he
    .exact sm he
    .exact sm he
    .cases he
   .cases he
  .split at he
   .cases he
   .split at he
    .exact sm he
    .exact sm he
    .cases he
  .split at he
   .cases he
   .split at he
    .exact sm he
    .exact sm he
    .cases he
  .cases he
 .exact pu he
end
end Go.Proofs.YthdljdelfgofdaaGreatDoor.Ev
namespace Go.Proofs.YthdljdelfgofdaaGreatDoor.Ev
open Go
variable [Anchor]
section
variable {s s' t:St} {P:Program} {M:X2} {C:Kf} {k:Nat} {o:Oper} {v:V} {f f':Operand->V}
theorem Yz8 (h:∀x∈o.op.operands.toList,f x=f' x):W6 P f o=W6 P f' o:=
 Yoa h λhp=>Ygj hp λx hx=>by rw[h x hx]
theorem Y0c (h:∀x∈o.op.operands.toList,f x=f' x):Xj P M C f s k o=Xj P M C f' s k o:=by
 have hs:=Yz8 (P:=P) h;unfold Xj;simp only[hs];obtain⟨dst,op,type,pos,after,guard⟩:=o;cases op<;>simp only[Op.operands] at h<;>simp only<;>try rfl
 case move x=>rw[h x (by simp)]
 case assign x=>rw[h x (by simp)]
 case pick c x y=>rw[h c (by simp),h x (by simp),h y (by simp)]
 case box t x=>rw[h x (by simp)]
 case build t ps=>
  have:(ps.toList.map λp=>(p.1,f p.2))=ps.toList.map λp=>(p.1,f' p.2):=OT λp hp=>by rw[h p.2 (by simpa using ⟨p.1,by simpa using hp⟩)]
  rw[this]
 case buildSlice t n ps=>
  have:(ps.toList.map λp=>(p.1,f p.2))=ps.toList.map λp=>(p.1,f' p.2):=OT λp hp=>by rw[h p.2 (by simpa using ⟨p.1,by simpa using hp⟩)]
  rw[this]
 case load t x=>rw[h x (by simp)]
 case store t x y=>rw[h x (by simp),h y (by simp)]
 case nilCheck x=>rw[h x (by simp)]
 case binOp op t x y yt=>rw[h x (by simp),h y (by simp)]
 case convert src dst x=>rw[h x (by simp)]
 case fieldAddr t x i=>rw[h x (by simp)]
 case indexAddr t x i=>rw[h x (by simp),h i (by simp)]
 case slice t x lo hi mx=>
  have h1:=h x (by simp);have h2:lo.map f=lo.map f':=by cases lo<;>simp;exact h _ (by simp)
  have h3:hi.map f=hi.map f':=by cases hi<;>simp;exact h _ (by simp)
  cases mx with
  | none=>simp only[h1,h2,h3]
  | some m=>rfl
 case makeSlice t l c=>rw[h l (by simp),h c (by simp)]
 case makeFunc fn first Bu=>
  have:Bu.toList.map f=Bu.toList.map f':=OT λx hx=>h x (by simp at hx ⊢;exact .inr hx);cases fn<;>simp only[this]
 case extract x i=>rw[h x (by simp)]
 case call c=>
  obtain⟨callee,Iw,ts⟩:=c;cases callee with
  | value g=>
   simp only[Call.operands] at h;have h1:f g=f' g:=h g (by simp);have:Iw.toList.map f=Iw.toList.map f':=OT λx hx=>h x (by simp at hx ⊢;exact .inr hx);simp only[h1,this]
  | invoke r m=>rfl
  | builtin b=>
   simp only[Call.operands] at h;have h1:∀x,x∈Iw.toList->f x=f' x:=λx hx=>h x (by simpa using hx);cases b<;>simp only<;>try rfl
   case append=>
    split
    .rename_i heq _
     have hb:=h1 _ (by rw[heq];exact BJ);have hx:=h1 _ (by rw[heq];exact Co _ BJ);rw[hb,hx]
    .rfl
   case len=>
    split
    .rename_i heq _
     have hb:=h1 _ (by rw[heq];exact BJ);rw[hb]
    .rfl
   case clear=>
    split
    .rename_i heq _
     have hb:=h1 _ (by rw[heq];exact BJ);rw[hb]
    .rfl
end
end Go.Proofs.YthdljdelfgofdaaGreatDoor.Ev
namespace Go.Proofs.YthdljdelfgofdaaGreatDoor.Ev
open Go Go.RowKit
variable [Anchor]
structure BH where
 dst:Option Tmp
 v:V
 W:Id->Bool
 hp:Id->Option Bd
def BH.app (E:BH) (s:St):St:=St.put {s with heap:=λid=>if E.W id then E.hp id else s.heap id} E.dst E.v
theorem BH.Ey (E:BH) (s:St):(E.app s).ep=s.ep:=by unfold BH.app;rw[G9]
theorem BH.BN (E:BH) (s:St):(E.app s).heap=λid=>if E.W id then E.hp id else s.heap id:=by unfold BH.app;rw[PC]
theorem BH.BX (E:BH) (s:St) (t:Nat):(E.app s).env t=if E.dst=some t then E.v else s.env t:=by
 unfold BH.app St.put;split
 .rename_i d hd
  simp only[Bi,hd,AE];by_cases h:t=d
  .subst h;simp
  .rw[Ai h,Ai (λe=>h e.symm)]
 .rename_i hd;rw[hd];simp
theorem St.ext' {a b:St} (h1:∀t,a.env t=b.env t) (h2:∀id,a.heap id=b.heap id) (h3:a.ep=b.ep):a=b:=by
 obtain⟨e1,p1,n1⟩:=a;obtain⟨e2,p2,n2⟩:=b;simp only at h1 h2 h3;rw[funext h1,funext h2,h3]
structure vG (E G:BH):Prop where
 dst:∀t,E.dst=some t->G.dst≠some t
 W:∀id,E.W id=true->G.W id=false
theorem BH.comm {E G:BH} (h:vG E G) (s:St):E.app (G.app s)=G.app (E.app s):=by
 refine St.ext' (λt=>?_) (λid=>?_) (by simp[BH.Ey])
 .simp only[BH.BX]
  by_cases h1:E.dst=some t
  .rw[Ah h1,Ai (h.dst t h1),Ah h1]
  .rw[Ai h1,Ai h1]
 .simp only[BH.BN]
  cases h1:E.W id with
  | true=>simp[h.W id h1]
  | false=>simp
def sub (Es:Nat->BH) (L:Nat->Bool) (s:St):Nat->St
 | 0=>s
 | k+1=>if L k then (Es k).app (sub Es L s k) else sub Es L s k
theorem Ge (Es:Nat->BH) (L:Nat->Bool) (s:St) (k:Nat):sub Es L s (k+1)=if L k then (Es k).app (sub Es L s k) else sub Es L s k:=rfl
theorem gL (Es:Nat->BH) (L:Nat->Bool) (s:St) (k:Nat):(sub Es L s k).ep=s.ep:=by
 induction k with
 | zero=>rfl
 | succ k ih=>rw[Ge];split<;>simp[BH.Ey,ih]
theorem Ypj {Es:Nat->BH} {L L':Nat->Bool} {s:St}:∀{k:Nat},(∀j,j < k->L j=L' j)->sub Es L s k=sub Es L' s k:=by
 intro k
 induction k with
 | zero=>intro _;rfl
 | succ k ih=>intro h;rw[Ge,Ge,h k (by omega),ih λj hj=>h j (by omega)]
def KD (A:Nat->Prop) (T:Id->Prop) (x y:St):Prop:=(∀t,A t->x.env t=y.env t)/\∀id,T id->x.heap id=y.heap id
theorem KD.app {A:Nat->Prop} {T:Id->Prop} {x y:St} (h:KD A T x y) (E:BH):KD A T (E.app x) (E.app y):=
 ⟨λt ht=>by simp only[BH.BX,h.1 t ht],λid Zu=>by simp only[BH.BN,h.2 id Zu]⟩
def SS (E:BH) (A:Nat->Prop) (T:Id->Prop):Prop:=(∀t,A t->E.dst≠some t)/\∀id,T id->E.W id=false
theorem KD.off {A:Nat->Prop} {T:Id->Prop} {x y:St} (h:KD A T x y) {E:BH} (ho:SS E A T):KD A T (E.app x) y:=
 ⟨λt ht=>by rw[BH.BX,Ai (ho.1 t ht)];exact h.1 t ht,λid Zu=>by simp only[BH.BN,ho.2 id Zu];exact h.2 id Zu⟩
theorem KD.Fh {A:Nat->Prop} {T:Id->Prop} {x y:St} (h:KD A T x y) {E:BH} (ho:SS E A T):KD A T x (E.app y):=
 ⟨λt ht=>by rw[BH.BX,Ai (ho.1 t ht)];exact h.1 t ht,λid Zu=>by simp only[BH.BN,ho.2 id Zu];exact h.2 id Zu⟩
theorem Y7e {Es:Nat->BH} {L:Nat->Bool} {s:St} {A:Nat->Prop} {T:Id->Prop} {i n:Nat} (hi:L i=false) (h1:∀j,j < i->L j=false->SS (Es j) A T) (h2:∀j,i < j->j < n->L j=true->SS (Es j) A T):
  ∀k,k<=n->KD A T (sub Es L s k) (sub Es (λ_=>true) s (min k i)):=by
 intro k
 induction k with
 | zero=>intro _;rw[Nat.zero_min];exact⟨λ_ _=>rfl,λ_ _=>rfl⟩
 | succ k ih=>
  intro hk;have ih:=ih (by omega);by_cases Z6:k < i
  .rw[Nat.min_eq_left (by omega)] at ih ⊢
   have e2:sub Es (λ_=>true) s (k+1)=(Es k).app (sub Es (λ_=>true) s k):=by rw[Ge];rfl
   rw[e2,Ge];cases hL:L k with
   | true=>simp only[if_true];exact ih.app _
   | false=>simp only[Bn,if_false];exact ih.Fh (h1 k Z6 hL)
  .rw[Nat.min_eq_right (by omega)] at ih ⊢
   rw[Ge];cases hL:L k with
   | true=>
    simp only[if_true];have Yh:k≠i:=λe=>by subst e;rw[hi] at hL;cases hL
    exact ih.off (h2 k (by omega) (by omega) hL)
   | false=>simp only[Bn,if_false];exact ih
theorem Xat {Es:Nat->BH} {L:Nat->Bool} {s:St} {i n:Nat} (SU:i < n) (hi:L i=false) (hc:∀j,i < j->j < n->L j=true->vG (Es i) (Es j)):
  (Es i).app (sub Es L s n)=sub Es (λj=>L j||j == i) s n:=by
 have key:∀k,i < k->k<=n->(Es i).app (sub Es L s k)=sub Es (λj=>L j||j == i) s k:=by
  intro k
  induction k with
  | zero=>intro h;omega
  | succ k ih=>
   intro h1 h2;by_cases he:k=i
   .subst he
    have e1:sub Es L s (k+1)=sub Es L s k:=by rw[Ge,hi];rfl
    have e2:sub Es (λj=>L j||j == k) s (k+1)=(Es k).app (sub Es (λj=>L j||j == k) s k):=by rw[Ge];simp
    rw[e1,e2]
    congr 1
    refine Ypj λj hj=>?_;have:(j == k)=false:=by simpa using (show j≠k by omega)
    simp[this]
   .have ih:=ih (by omega) (by omega)
    have hki:(k == i)=false:=by simpa using he
    rw[Ge,Ge];simp only[hki,tK];cases hL:L k with
    | true=>
     simp only[if_true];rw[BH.comm (hc k (by omega) (by omega) hL),ih]
    | false=>simp only[Bn,if_false];exact ih
 exact key n SU (B4 _)
theorem Yjr {Es Es':Nat->BH} {L:Nat->Bool} {s:St}:∀{k:Nat},(∀j,j < k->Es j=Es' j)->sub Es L s k=sub Es' L s k:=by
 intro k
 induction k with
 | zero=>intro _;rfl
 | succ k ih=>intro h;rw[Ge,Ge,h k (by omega),ih λj hj=>h j (by omega)]
section
variable {P:Program} {M:X2} {C:Nat->Kf} {ops:Array Oper}
structure GB (P:Program) (M:X2) (C:Nat->Kf) (ops:Array Oper) (s0:St) (Es:Nat->BH) (Rs:Nat->Rec) (i:Nat) (o:Oper):Prop where
 pre:(Rs i).pre=JR ((List.range i).map Rs) o
 ok:LF ops s0.ep ((List.range i).map Rs) (Rs i).pre i o (Rs i).T (Rs i).w=true
 dst:(Es i).dst=o.dst
 run:∃g,wanted (sub Es (λ_=>true) s0 i) ops o=some g/\
  (g=true->∃y,Xj P M (C i) (sub Es (λ_=>true) s0 i).AP ((sub Es (λ_=>true) s0 i).only (Rs i).T) i o=some ((Es i).v,y)/\(∀id,(Es i).W id=(Wy s0.ep i id||((Rs i).w&&(Rs i).T.contains id)))/\(Es i).hp=y.heap/\(Rs i).w=Ic M (sub Es (λ_=>true) s0 i).AP o)/\
  (g=false->(Es i).v=.AW []/\(∀id,(Es i).W id=false)/\(Rs i).T=[]/\(Rs i).w=false)
theorem Yvn {s0:St}:∀(l:List Oper) {k:Nat} {s s':St} {recs:List Rec} {Es0:Nat->BH} {Rs0:Nat->Rec},recs=(List.range k).map Rs0->s=sub Es0 (λ_=>true) s0 k->Fb P M C ops s recs k l=some s'->
  ∃Es Rs,(∀j,j < k->Es j=Es0 j/\Rs j=Rs0 j)/\s'=sub Es (λ_=>true) s0 (k+l.length)/\∀(j:Nat) (o:Oper),l[j]?=some o->GB P M C ops s0 Es Rs (k+j) o:=by
 intro l
 induction l with
 | nil=>
  intro k s s' recs Es0 Rs0 hr hs he;simp only[Fb,AE] at he;subst he;exact⟨Es0,Rs0,λ_ _=>⟨rfl,rfl⟩,by rw[hs];rfl,λj o ho=>by simp at ho⟩
 | cons o l ih=>
  intro k s s' recs Es0 Rs0 hr hs he;simp only[Fb] at he;obtain⟨g,hg,he⟩:=A9.1 he;have Yk:s.ep=s0.ep:=by rw[hs,gL]
  have more:∀(E:BH) (R:Rec),Fb P M C ops (E.app s) (recs++[R]) (k+1) l=some s'->R.pre=JR recs o->LF ops s.ep recs R.pre k o R.T R.w=true->E.dst=o.dst->
    (g=true->∃y,Xj P M (C k) s.AP (s.only R.T) k o=some (E.v,y)/\(∀id,E.W id=(Wy s0.ep k id||(R.w&&R.T.contains id)))/\E.hp=y.heap/\R.w=Ic M s.AP o)->
    (g=false->E.v=.AW []/\(∀id,E.W id=false)/\R.T=[]/\R.w=false)->
    ∃Es Rs,(∀j,j < k->Es j=Es0 j/\Rs j=Rs0 j)/\s'=sub Es (λ_=>true) s0 (k+(o::l).length)/\∀(j:Nat) (o':Oper),(o::l)[j]?=some o'->GB P M C ops s0 Es Rs (k+j) o':=by
   intro E R he KE Yg vH ht hf;have gM:∀j,j < k->Bi Es0 k E j=Es0 j:=λj hj=>by simp[Bi,show j≠k by omega]
   have Xab:∀j,j < k->Bi Rs0 k R j=Rs0 j:=λj hj=>by simp[Bi,show j≠k by omega]
   obtain⟨Es,Rs,h1,h2,h3⟩:=ih (k:=k+1) (Es0:=Bi Es0 k E) (Rs0:=Bi Rs0 k R) (by
    rw[List.range_succ,Gv,hr]
    congr 1
    .refine OT λj hj=>?_
     rw[Xab j (UR.1 hj)]
    .simp[Bi]) (by
    rw[Ge];simp only[if_true];rw[Yjr (Es':=Es0) gM,<-hs];simp[Bi]) he
   have hE:∀j,j < k->Es j=Es0 j:=λj hj=>by rw[(h1 j (by omega)).1,gM j hj]
   have hR:∀j,j < k->Rs j=Rs0 j:=λj hj=>by rw[(h1 j (by omega)).2,Xab j hj]
   have vI:Es k=E:=by rw[(h1 k (by omega)).1];simp[Bi]
   have gN:Rs k=R:=by rw[(h1 k (by omega)).2];simp[Bi]
   have DI:sub Es (λ_=>true) s0 k=s:=by rw[Yjr hE,<-hs]
   have Xac:(List.range k).map Rs=recs:=by rw[hr];exact OT λj hj=>hR j (UR.1 hj)
   refine⟨Es,Rs,λj hj=>⟨hE j hj,hR j hj⟩,by rw[h2];congr 1;simp;omega,λj o' ho=>?_⟩;cases j with
   | zero=>
    have:o=o':=by simpa using ho
    subst this;refine⟨by rw[GW,gN,Xac];exact KE,by rw[GW,gN,Xac,<-Yk];exact Yg,by rw[GW,vI];exact vH,⟨g,by rw[GW,DI];exact hg,λvJ=>?_,λVr=>?_⟩⟩
    .rw[GW,DI,vI,gN];exact ht vJ
    .rw[GW,vI,gN];exact hf Vr
   | succ j=>
    have:=h3 j o' (by simpa using ho);rw[show k+(j+1)=k+1+j by omega];exact this
  cases g with
  | true=>
   simp only[if_true] at he;split at he
   .rename_i Yg
    obtain⟨⟨v,y⟩,hy,he⟩:=A9.1 he;refine more ⟨o.dst,v,λid=>Wy s.ep k id||(Ic M s.AP o&&(BV s o).contains id),y.heap⟩ ⟨JR recs o,BV s o,Ic M s.AP o⟩ ?_ rfl Yg rfl (λ_=>⟨y,hy,λid=>by rw[<-Yk],rfl,rfl⟩) (λhf=>by cases hf);exact he
   .cases he
  | false=>
   simp only[Bn,if_false] at he;split at he
   .rename_i Yg
    refine more ⟨o.dst,.AW [],λ_=>false,λ_=>none⟩ ⟨JR recs o,[],false⟩ ?_ rfl Yg rfl (λhf=>by cases hf) (λ_=>⟨rfl,λ_=>rfl,rfl,rfl⟩);have:BH.app ⟨o.dst,.AW [],λ_=>false,λ_=>none⟩ s=s.put o.dst (.AW []):=by
     unfold BH.app;simp
    rw[this];exact he
   .cases he
variable {s0:St} {Es:Nat->BH} {Rs:Nat->Rec} {n:Nat}
structure PD (e:Nat) (Es:Nat->BH) (Rs:Nat->Rec) (ops:Array Oper) (j k:Nat) (oj ok:Oper):Prop where
 tmp:oj.apart ops ok=true
 f1:∀id∈(Rs k).T,Wy e j id=false
 f2:∀id∈(Rs j).T,Wy e k id=false
 ww:((Rs j).w||(Rs k).w)=true->∀id∈(Rs k).T,id ∉ (Rs j).T
theorem gO (hF:∀(i:Nat) (o:Oper),ops[i]?=some o->GB P M C ops s0 Es Rs i o) {j k:Nat} {oj ok:Oper} (hj:ops[j]?=some oj) (hk:ops[k]?=some ok) (Z6:j < k) (hn:j ∉ (Rs k).pre):PD s0.ep Es Rs ops j k oj ok:=by
 have h:=(hF k ok hk).ok;unfold LF at h;simp only[Bg] at h;have h2:=Cb.1 h.2 (Rs j,j) (by
  rw[List.mem_zipIdx_iff_getElem?];simp[tA Z6])
 simp only[Nj,Bg,List.contains_iff_mem,hn,false_or,hj] at h2;obtain⟨⟨⟨a,b⟩,c⟩,d⟩:=h2;refine⟨a,λid Zu=>?_,λid Zu=>?_,λhw id Zu vK=>?_⟩
 .have:=Cb.1 b id Zu;simpa using this
 .have:=Cb.1 c id Zu;simpa using this
 .rcases d with d|d
  .rw[hw] at d;simp at d
  .have:=Cb.1 d id Zu
   simp at this;exact this vK
theorem SV {i:Nat} {o:Oper} (hF:GB P M C ops s0 Es Rs i o) {id:Id} (hW:(Es i).W id=true):Wy s0.ep i id=true\/((Rs i).w=true/\id∈(Rs i).T):=by
 obtain⟨g,_,ht,hf⟩:=hF.run;cases g with
 | true=>
  obtain⟨y,_,h2,_⟩:=ht rfl;rw[h2 id] at hW;simpa using hW
 | false=>
  rw[(hf rfl).2.1 id] at hW;cases hW
theorem PD.apart {j k:Nat} {oj ok:Oper} (h:PD s0.ep Es Rs ops j k oj ok) (hj:GB P M C ops s0 Es Rs j oj) (hk:GB P M C ops s0 Es Rs k ok) (Yh:j≠k):vG (Es j) (Es k):=by
 obtain⟨t1,t2,t3⟩:=Oper.apart_spec h.tmp;refine⟨λt ht=>by rw[hk.dst];rw[hj.dst] at ht;exact t2 t ht,λid Zu=>?_⟩;cases hW:(Es k).W id with
 | false=>rfl
 | true=>
  exfalso;rcases SV hj Zu with h1|⟨h1,KF⟩
  .rcases SV hk hW with h2|⟨h2,Pn⟩
   .simp only[Wy,Bg,beq_iff_eq] at h1 h2
    omega
   .rw[h.f1 id Pn] at h1;cases h1
  .rcases SV hk hW with h2|⟨h2,Pn⟩
   .rw[h.f2 id KF] at h2;cases h2
   .exact h.ww (by rw[h1];rfl) id Pn KF
def PE (ops:Array Oper) (o:Oper):Nat->Prop:=λt=>t∈o.looksAt ops
def vL (Rs:Nat->Rec) (i:Nat):Id->Prop:=λid=>id∈(Rs i).T
theorem PD.vM {j k:Nat} {oj ok:Oper} (h:PD s0.ep Es Rs ops j k oj ok) (hj:GB P M C ops s0 Es Rs j oj):SS (Es j) (PE ops ok) (vL Rs k):=by
 obtain⟨t1,t2,t3⟩:=Oper.apart_spec h.tmp;refine⟨λt ht hd=>by rw[hj.dst] at hd;exact t1 t hd ht,λid Zu=>?_⟩;cases hW:(Es j).W id with
 | false=>rfl
 | true=>
  exfalso;rcases SV hj hW with h1|⟨h1,KF⟩
  .rw[h.f1 id Zu] at h1;cases h1
  .exact h.ww (by rw[h1];rfl) id Zu KF
theorem PD.vN {j k:Nat} {oj ok:Oper} (h:PD s0.ep Es Rs ops j k oj ok) (hk:GB P M C ops s0 Es Rs k ok):SS (Es k) (PE ops oj) (vL Rs j):=by
 obtain⟨t1,t2,t3⟩:=Oper.apart_spec h.tmp;refine⟨λt ht hd=>by rw[hk.dst] at hd;exact t3 t hd ht,λid Zu=>?_⟩;cases hW:(Es k).W id with
 | false=>rfl
 | true=>
  exfalso;rcases SV hk hW with h1|⟨h1,KF⟩
  .rw[h.f2 id Zu] at h1;cases h1
  .exact h.ww (by rw[h1];simp) id KF Zu
end
section
variable {P:Program} {M:X2} {C:Nat->Kf} {ops:Array Oper} {s0:St} {Es:Nat->BH} {Rs:Nat->Rec} {n:Nat}
theorem vO (hF:∀(i:Nat) (o:Oper),ops[i]?=some o->GB P M C ops s0 Es Rs i o) {m:Nat} {o:Oper} (ho:ops[m]?=some o):∀e∈o.after,Region.binds .any e=true->e.on < m:=λe he hb=>by
 have h:=(hF m o ho).ok;unfold LF at h;simp only[Bg] at h;have:=Cb.1 h.1.1 e (by simpa using he);rw[hb] at this;simpa using this
theorem Y24 (hF:∀(i:Nat) (o:Oper),ops[i]?=some o->GB P M C ops s0 Es Rs i o) {L:Nat->Bool} (hL:∀(m:Nat) (o:Oper),L m=true->ops[m]?=some o->∀e∈o.after,Region.binds .any e=true->L e.on=true):
  ∀(m:Nat) (o:Oper),ops[m]?=some o->(∀e∈o.after,Region.binds .any e=true->L e.on=true)->∀j∈(Rs m).pre,L j=true:=by
 intro m
 induction m using Nat.strongRecOn with
 | _ m ih=>
  intro o ho hp j hj;rw[(hF m o ho).pre] at hj;unfold JR at hj;rw[List.mem_eraseDups] at hj;obtain⟨e,he,hj⟩:=List.mem_flatMap.1 hj;rw[OX] at he;have hem:e∈o.after:=by simpa using he.1
  have Z6:=vO hF ho e hem he.2;have hLe:=hp e hem he.2;rcases Cj.1 hj with rfl|hj
  .exact hLe
  .have hm:m < ops.size:=(Hz.1 ho).1
   have h1:((List.range m).map Rs)[e.on]?=some (Rs e.on):=by simp[tA Z6]
   rw[h1] at hj;simp only[D8,FY] at hj;have BP:ops[e.on]?=some (ops[e.on]'(by omega)):=Var (by omega);exact ih e.on Z6 _ BP (hL e.on _ hLe BP) j hj
theorem Y8l (hF:∀(i:Nat) (o:Oper),ops[i]?=some o->GB P M C ops s0 Es Rs i o) {L:Nat->Bool} {i:Nat} (LX:L i=false) (h0:∀id:Id,id.1=s0.ep->s0.heap id=none)
  (hu:∀j,i < j->j < ops.size->L j=true->i ∉ (Rs j).pre) {oi:Oper} (hi:ops[i]?=some oi) {id:Id} (hf:Wy s0.ep i id=true):∀k,k<=ops.size->(sub Es L s0 k).heap id=none:=by
 have gK:id.1=s0.ep/\id.2 / 1024=i:=by simpa [Wy] using hf
 intro k
 induction k with
 | zero=>intro _;exact h0 id gK.1
 | succ k ih=>
  intro hk;rw[Ge];cases hL:L k with
  | false=>simp only[Bn,if_false];exact ih (by omega)
  | true=>
   simp only[if_true,BH.BN];have VU:ops[k]?=some (ops[k]'(by omega)):=Var (by omega);have hki:k≠i:=λe=>by subst e;rw[LX] at hL;cases hL
   have hW:(Es k).W id=false:=by
    cases hW:(Es k).W id with
    | false=>rfl
    | true=>
     exfalso;rcases SV (hF k _ VU) hW with h1|⟨h1,h2⟩
     .have:id.1=s0.ep/\id.2 / 1024=k:=by simpa [Wy] using h1
      omega
     .rcases L9 i k with Z6|N3
      .have:=(gO hF hi VU Z6 (hu k Z6 (by omega) hL)).f1 id h2
       rw[hf] at this;cases this
      .have h:=(hF k _ VU).ok
       unfold LF at h;simp only[Bg] at h;have:=Cb.1 h.1.2 id h2;simp only[Ni,Bool.and_eq_false_iff,beq_eq_false_iff_ne,decide_eq_false_iff_not] at this;rcases this with h3|h3
       .exact h3 gK.1
       .omega
   rw[hW];simp only[Bn,if_false];exact ih (by omega)
theorem Yui {x y:St} {o:Oper} (h:∀t,PE ops o t->x.env t=y.env t):wanted x ops o=wanted y ops o:=by
 unfold wanted;cases hg:o.guard with
 | none=>rfl
 | some jb=>
  obtain⟨j,b⟩:=jb;simp only;cases ht:(ops[j]?).bind (·.dst) with
  | none=>rfl
  | some t=>
   have:x.env t=y.env t:=h t (by
    unfold PE Oper.looksAt;rw[hg];simp[ht])
   simp only[D8,this]
theorem Y56 {x y:St} {o:Oper} (h:∀t,PE ops o t->x.env t=y.env t):∀z∈o.op.operands.toList,x.AP z=y.AP z:=by
 intro z hz;cases z with
 | tmp t=>
  exact h t (by
   unfold PE Oper.looksAt;refine CC _ (List.mem_filterMap.2 ⟨.tmp t,hz,rfl⟩))
 | _=>rfl
theorem Y9j (hF:∀(i:Nat) (o:Oper),ops[i]?=some o->GB P M C ops s0 Es Rs i o) {L:Nat->Bool} {i:Nat} {o:Oper} (hi:ops[i]?=some o) (LX:L i=false) (h0:∀id:Id,id.1=s0.ep->s0.heap id=none)
  (hL:∀(m:Nat) (o:Oper),L m=true->ops[m]?=some o->∀e∈o.after,Region.binds .any e=true->L e.on=true) (hr:∀e∈o.after,Region.binds .any e=true->L e.on=true):
  ∃g,wanted (sub Es L s0 ops.size) ops o=some g/\
   (g=true->∃x1,Ib P M (C i) (sub Es L s0 ops.size) i o=some ((Es i).v,x1)/\x1.put o.dst (Es i).v=sub Es (λj=>L j||j == i) s0 ops.size)/\
   (g=false->(sub Es L s0 ops.size).put o.dst (.AW [])=sub Es (λj=>L j||j == i) s0 ops.size):=by
 have SU:i < ops.size:=(Hz.1 hi).1;have gP:=hF i o hi;have KE:=Y24 hF hL;have gM:∀j,j < i->L j=false->j ∉ (Rs i).pre:=λj hj KG hm=>by
  rw[KE i o hi hr j hm] at KG;cases KG
 have vP:∀j,i < j->j < ops.size->L j=true->i ∉ (Rs j).pre:=λj hj Gf KG hm=>by
  have Gg:ops[j]?=some (ops[j]'Gf):=Var Gf;have:=KE j _ Gg (hL j _ KG Gg) i hm;rw[LX] at this;cases this
 have gQ:=Y7e (Es:=Es) (s:=s0) (A:=PE ops o) (T:=vL Rs i) (i:=i) (n:=ops.size) LX
  (λj hj KG=>by
   have Gg:ops[j]?=some (ops[j]'(by omega)):=Var (by omega);exact (gO hF Gg hi hj (gM j hj KG)).vM (hF j _ Gg))
  (λj hj Gf KG=>by
   have Gg:ops[j]?=some (ops[j]'Gf):=Var Gf;exact (gO hF hi Gg hj (vP j hj Gf KG)).vN (hF j _ Gg))
  ops.size (B4 _)
 rw[Nat.min_eq_right (by omega)] at gQ;have HA:=Xat (Es:=Es) (s:=s0) SU LX (λj hj Gf KG=>by
   have Gg:ops[j]?=some (ops[j]'Gf):=Var Gf;exact (gO hF hi Gg hj (vP j hj Gf KG)).apart gP (hF j _ Gg) (by omega))
 obtain⟨g,hg,ht,hf⟩:=gP.run;refine⟨g,by rw[Yui (λt h=>gQ.1 t h)];exact hg,λvJ=>?_,λVr=>?_⟩
 .obtain⟨y,hy,hW,hhp,hw⟩:=ht vJ
  have Yk:(sub Es L s0 ops.size).ep=s0.ep:=gL _ _ _ _;have vQ:(sub Es (λ_=>true) s0 i).ep=s0.ep:=gL _ _ _ _;have VV:Ext (λid=>(Rs i).T.contains id=false/\Wy s0.ep i id=false) ((sub Es (λ_=>true) s0 i).only (Rs i).T) (sub Es L s0 ops.size):=by
   refine⟨by rw[Yk];exact vQ.symm,λid Zu=>?_,λid Zu=>?_⟩
   .simp only[St.only]
    cases hc:(Rs i).T.contains id with
    | true=>simp only[if_true];exact gQ.2 id (show id∈(Rs i).T by simpa using hc)
    | false=>
     simp only[Bn,if_false];have vR:Wy s0.ep i id=true:=by
      cases vR:Wy s0.ep i id with
      | true=>rfl
      | false=>exact absurd ⟨hc,vR⟩ Zu
     exact Y8l hF LX h0 vP hi vR ops.size (B4 _)
   .simp only[St.only,Zu.1,Bn,if_false]
  obtain⟨x1,h1,h2,h3,h4,h5⟩:=VV.op (P:=P) (M:=M) (C:=C i) (k:=i) (λid Zu hh=>by
   have:Wy s0.ep i id=true:=by simp only[Wy,Bg,beq_iff_eq];exact⟨by rw[hh.1];exact vQ,hh.2⟩
   rw[Zu.2] at this;cases this) hy
  refine⟨x1,?_,?_⟩
  .unfold Ib
   rw[Y0c (Y56 (ops:=ops) (λt h=>gQ.1 t h))];exact h1
  .rw[<-HA]
   refine St.ext' (λt=>?_) (λid=>?_) ?_
   .have e1:∀(z:St),(z.put o.dst (Es i).v).env t=if o.dst=some t then (Es i).v else z.env t:=λz=>by
     have:=BH.BX ⟨o.dst,(Es i).v,λ_=>false,λ_=>none⟩ z t;simpa [BH.app] using this
    rw[e1,BH.BX,gP.dst,h4]
   .rw[PC,BH.BN]
    simp only[hW id];have hyr:(Rs i).w=false->Wy s0.ep i id=false->y.heap id=((sub Es (λ_=>true) s0 i).only (Rs i).T).heap id:=λhwf NB=>by
     refine Y5l hy (by rw[<-hw];exact hwf) ?_;have:((sub Es (λ_=>true) s0 i).only (Rs i).T).ep=s0.ep:=vQ;rw[this];exact NB
    cases NB:Wy s0.ep i id with
    | true=>
     simp only[Bool.true_or,if_true];rw[hhp,h2.out id (λhd=>by rw[hd.2] at NB;cases NB)]
    | false=>
     cases hc:(Rs i).T.contains id with
     | false=>
      simp only[US,Bool.or_self,Bn,if_false];exact h3 id ⟨hc,NB⟩
     | true=>
      have CU:¬((Rs i).T.contains id=false/\Wy s0.ep i id=false):=λhd=>by rw[hd.1] at hc;cases hc
      rw[h2.out id CU];cases hwi:(Rs i).w with
      | true=>simp[hhp]
      | false=>
       simp only[HW,Bool.or_self,Bn,if_false];rw[hyr hwi NB,<-VV.out id CU]
   .rw[G9,BH.Ey,h5]
 .obtain⟨hv,hWf,_,_⟩:=hf Vr
  rw[<-HA];refine St.ext' (λt=>?_) (λid=>?_) ?_
  .have e1:∀(z:St),(z.put o.dst (.AW [])).env t=if o.dst=some t then (.AW []) else z.env t:=λz=>by
    have:=BH.BX ⟨o.dst,.AW [],λ_=>false,λ_=>none⟩ z t;simpa [BH.app] using this
   rw[e1,BH.BX,gP.dst,hv]
  .rw[PC,BH.BN]
   simp[hWf id]
  .rw[G9,BH.Ey]
theorem Yyh {listed:Array Bool} {i n:Nat} (hi:i < n) (hl:listed.getD i true=false):
  ((List.range n).filter λj=>!(listed.setIfInBounds i true).getD j true).length < ((List.range n).filter λj=>!listed.getD j true).length:=by
 have Ww:i < listed.size:=by
  rcases L9 i listed.size with h|h
  .exact h
  .simp[s7 h] at hl
 have VW:∀j,(listed.setIfInBounds i true).getD j true=(listed.getD j true||j == i):=λj=>by
  by_cases h:i=j
  .subst h;simp[Ww]
  .have vS:(j == i)=false:=by simpa using (λe=>h e.symm)
   rw[getD_set_ne true h,vS,tK]
 have DI:((List.range n).filter λj=>!(listed.setIfInBounds i true).getD j true)=((List.range n).filter λj=>!listed.getD j true).filter λj=>!(j == i):=by
  rw[List.filter_filter]
  congr 1
  funext j
  rw[VW];cases listed.getD j true<;>cases (j == i)<;>rfl
 rw[DI];have hle:=SA (λj=>!(j == i)) ((List.range n).filter λj=>!listed.getD j true);rcases L9 (((List.range n).filter λj=>!listed.getD j true).filter λj=>!(j == i)).length ((List.range n).filter λj=>!listed.getD j true).length with h|h
 .exact h
 .have he:=(List.filter_sublist (p:=λj=>!(j == i)) (l:=(List.range n).filter λj=>!listed.getD j true)).eq_of_length (by omega)
  have hm:i∈(List.range n).filter λj=>!listed.getD j true:=OX.2 ⟨UR.2 hi,by rw[hl];rfl⟩;rw[<-he,OX] at hm;simp at hm
variable {B:Nat} {io:Nat->Prop} {fl:List Nat}
theorem Y4b {Q:Exit->Act->World->Prop} (hC:∀k,HB P M (C k)) (hF:∀(i:Nat) (o:Oper),ops[i]?=some o->GB P M C ops s0 Es Rs i o) (h0:∀id:Id,id.1=s0.ep->s0.heap id=none):
  ∀(fuel:Nat) (listed:Array Bool) {a:Act} {w:World} {U:AY} {F:Id->List Nat},listed.size=ops.size->((List.range ops.size).filter λj=>!listed.getD j true).length<=fuel->
   (∀(m:Nat) (o:Oper),listed.getD m false=true->ops[m]?=some o->∀e∈o.after,Region.binds .any e=true->listed.getD e.on false=true)->
   Rel P B io w a.tmps (sub Es (λj=>listed.getD j false) s0 ops.size) U F fl->(∀id:Id,id.1=s0.ep->(U id).isSome=true->listed.getD (id.2 / 1024) false=true)->LW a.tmps.size ops.toList=true->
   (∀a' w',G8 P B io fl w a U (sub Es (λ_=>true) s0 ops.size) a' w'->Q .normal a' w')->wpAny P .any ops Q fuel listed a w:=by
 have same:∀(listed:Array Bool) (j:Nat),listed.size=ops.size->j < ops.size->listed.getD j false=listed.getD j true:=λlisted j hs hj=>by
  simp[show j < listed.size by omega]
 have done:∀(listed:Array Bool) {a:Act} {w:World} {U:AY} {F:Id->List Nat},listed.size=ops.size->(∀(m:Nat) (o:Oper),listed.getD m false=true->ops[m]?=some o->∀e∈o.after,Region.binds .any e=true->listed.getD e.on false=true)->Region.ready .any ops listed=[]->
   Rel P B io w a.tmps (sub Es (λj=>listed.getD j false) s0 ops.size) U F fl->(∀a' w',G8 P B io fl w a U (sub Es (λ_=>true) s0 ops.size) a' w'->Q .normal a' w')->Q .normal a w:=by
  intro listed a w U F hs Qd hr h hQ;have K1:∀j,j < ops.size->listed.getD j false=true:=by
   intro j
   induction j using Nat.strongRecOn with
   | _ j ih=>
    intro hj;have Gg:ops[j]?=some (ops[j]'hj):=Var hj;cases hl:listed.getD j false with
    | true=>rfl
    | false=>
     exfalso;have:j∈Region.ready .any ops listed:=mem_ready.2 ⟨by rw[<-same listed j hs hj];exact hl,_,Gg,λe he hb=>ih e.on (vO hF Gg e he hb) (by have:=vO hF Gg e he hb;omega)⟩;rw[hr] at this;cases this
  have:sub Es (λj=>listed.getD j false) s0 ops.size=sub Es (λ_=>true) s0 ops.size:=Ypj λj hj=>K1 j hj;rw[this] at h;exact hQ _ _ (.refl h)
 intro fuel
 induction fuel with
 | zero=>
  intro listed a w U F hs hf Qd h hU hd hQ;have hr:Region.ready .any ops listed=[]:=by
   have Iu:=Gt (Nat.le_zero.1 hf);unfold Region.ready;rw[List.filter_eq_nil_iff];intro i hi hh;simp only[Bg] at hh;have hm:i∈(List.range ops.size).filter λj=>!listed.getD j true:=OX.2 ⟨hi,hh.1⟩;rw[Iu] at hm;cases hm
  exact⟨hr,done listed hs Qd hr h hQ⟩
 | succ fuel ih=>
  intro listed a w U F hs hf Qd h hU hd hQ;refine⟨λhr=>done listed hs Qd hr h hQ,λi hi=>?_⟩;obtain⟨BW,o,ho,Y7j⟩:=mem_ready.1 hi;have SU:i < ops.size:=(Hz.1 ho).1;have LX:listed.getD i false=false:=by rw[same listed i hs SU];exact BW
  obtain⟨g,hg,ht,NB⟩:=Y9j hF (L:=λj=>listed.getD j false) ho LX h0 Qd Y7j;have VW:∀j,(listed.setIfInBounds i true).getD j false=(listed.getD j false||j == i):=λj=>by
   by_cases e:i=j
   .subst e;simp[show i < listed.size by omega]
   .have vS:(j == i)=false:=by simpa using (λh=>e h.symm)
    rw[getD_set_ne false e,vS,tK]
  have Y7:∀id:Id,id.1=(sub Es (λj=>listed.getD j false) s0 ops.size).ep->id.2 / 1024=i->U id=none:=λid h1 h2=>by
   cases hr:U id with
   | none=>rfl
   | some x=>
    have:=hU id (by rw[h1,gL]) (by rw[hr];rfl);rw[h2,LX] at this;cases this
  have DB:∀d,o.dst=some d->d < a.tmps.size:=gJ hd (by simpa using ho);have next:∀{s2:St} {a':Act} {w':World} {U':AY} {F':Id->List Nat},Rel P B io w' a'.tmps s2 U' F' fl->s2=sub Es (λj=>listed.getD j false||j == i) s0 ops.size->J6 B io w w'->(∀id i,U id=some i->U' id=some i)->
    (∀id,(U' id).isSome=true->(U id).isSome=true\/(id.1=(sub Es (λj=>listed.getD j false) s0 ops.size).ep/\id.2 / 1024=i))->a'.tmps.size=a.tmps.size->a'.defers=a.defers->wpAny P .any ops Q fuel (listed.setIfInBounds i true) a' w':=by
   intro s2 a' w' U' F' hR Dj I2 Dh Ff GA DV;subst Dj;refine ih (listed.setIfInBounds i true) (by simpa using hs) (by have:=Yyh SU BW;omega) (λm o' hm VX e he hb=>?_) (by
    have:(λj=>(listed.setIfInBounds i true).getD j false)=λj=>listed.getD j false||j == i:=funext VW;rw[this];exact hR) (λid h1 h2=>?_) (by rw[GA];exact hd) (λa2 w2 hA=>hQ _ _ (.trans I2 Dh GA DV hA))
   .rw[VW] at hm ⊢
    simp only[Nj,beq_iff_eq] at hm ⊢;rcases hm with hm|rfl
    .exact .inl (Qd m o' hm VX e he hb)
    .rw[ho] at VX;injection VX with VX;subst VX
     exact .inl (Y7j e he hb)
   .rw[VW]
    simp only[Nj,beq_iff_eq];rcases Ff id h2 with h3|h3
    .exact .inl (hU id h1 h3)
    .exact .inr h3.2
  cases g with
  | true=>
   obtain⟨x1,hx1,DY⟩:=ht rfl;refine VQ (M:=M) (C:=C i) (v:=(Es i).v) (s1:=x1) h ho DB hg (λ_=>Y7) (λ_=>hx1) (λ_=>hC i _ _ _ _ _ _ F _ _ _ _ h Y7) (λa' w' U' F' hR Yk I2 Dh Ff GA DV=>?_);simp only[if_true] at hR;exact next hR DY I2 Dh Ff GA DV
  | false=>
   refine VQ (M:=M) (C:=C i) (v:=.undef) (s1:=s0) h ho DB hg (λhf=>by cases hf) (λhf=>by cases hf) (λhf=>by cases hf) (λa' w' U' F' hR Yk I2 Dh Ff GA DV=>?_);simp only[Bn,if_false] at hR;exact next hR (NB rfl) I2 Dh Ff GA DV
theorem Y7b {Q:Exit->Act->World->Prop} (hC:∀k,HB P M (C k)) {s':St} {a:Act} {w:World} {U:AY} {F:Id->List Nat} (h:Rel P B io w a.tmps s0 U F fl) (he:Fb P M C ops s0 [] 0 ops.toList=some s')
  (Y7:∀id:Id,id.1=s0.ep->U id=none) (hd:LW a.tmps.size ops.toList=true) (hQ:∀a' w',G8 P B io fl w a U s' a' w'->Q .normal a' w'):
  wpAny P .any ops Q ops.size (Array.replicate ops.size false) a w:=by
 obtain⟨Es,Rs,_,h2,h3⟩:=Yvn (s0:=s0) ops.toList (k:=0) (Es0:=λ_=>⟨none,.undef,λ_=>false,λ_=>none⟩) (Rs0:=λ_=>⟨[],[],false⟩) rfl rfl he;rw[OY,Array.length_toList] at h2;subst h2;have hF:∀(i:Nat) (o:Oper),ops[i]?=some o->GB P M C ops s0 Es Rs i o:=λi o ho=>by
  have:=h3 i o (by simpa using ho)
  rwa [OY] at this
 have VY:∀j,(Array.replicate ops.size false).getD j false=false:=λj=>by
  by_cases h:j < ops.size<;>simp[h]
 have hh0:∀id:Id,id.1=s0.ep->s0.heap id=none:=λid h1=>by
  cases hb:s0.heap id with
  | none=>rfl
  | some b=>
   exfalso;have hB:=h.heap id b hb;rw[Y7 id h1] at hB;unfold Xq at hB;split at hB
   .obtain⟨_,_,_,_,_,hi,_⟩:=hB;cases hi
   .rcases hB with⟨hi,_⟩|⟨_,_,_,_,hi,_⟩<;>cases hi
   .obtain⟨_,hB⟩:=hB
    rcases hB with⟨hi,_⟩|⟨_,_,_,_,hi,_⟩<;>cases hi
 refine Y4b (F:=F) hC hF hh0 ops.size _ (by simp) (by
  have:=SA (λj=>!(Array.replicate ops.size false).getD j true) (List.range ops.size);simpa using this) (λm o hm=>by rw[VY] at hm;cases hm) ?_ (λid h1 h2=>by rw[Y7 id h1] at h2;cases h2) hd hQ
 have:sub Es (λj=>(Array.replicate ops.size false).getD j false) s0 ops.size=s0:=by
  have key:∀k,sub Es (λj=>(Array.replicate ops.size false).getD j false) s0 k=s0:=by
   intro k
   induction k with
   | zero=>rfl
   | succ k ih=>rw[Ge,VY,Ai (by simp)];exact ih
  exact key _
 rw[this];exact h
end
def EH (n:Nat):Code->Bool
 | .region _ ops _=>LW n ops.toList
 | .seq a b=>EH n a&&EH n b
 | .cond _ a b=>EH n a&&EH n b
 | .block _ c=>EH n c
 | .loop c=>EH n c
 | _=>true
def Ex.to:Ex->Exit
 | .normal=>.normal
 | .ret=>.ret
 | .exit n=>.exit n
open Classical in
section
variable {P:Program} {B:Nat} {io:Nat->Prop} {w w':World} {a a':Act} {s s':St} {U U':AY} {F F':Id->List Nat} {fl:List Nat} {M:X2} {C:Kf}
theorem Rel.tick (h:Rel P B io w a.tmps s U F fl):Rel P B io w a.tmps {s with ep:=s.ep+1} U F fl:=
 {h with C5:=λid Zu=>by have:=h.C5 id Zu;simp only;omega}
theorem Rel.drawn (h:Rel P B io w a.tmps s U F fl) (n:Nat):Rel P B io {w with drawn:=n} a.tmps s U F fl:=by
 have hg:Jo P B io {w with drawn:=n} a.tmps s U F fl (AH s U w):=
  {h with
   env:=λt v hv=>(h.env t v hv).world λ_ _=>rfl
   heap:=λid b hb=>(h.heap id b hb).world (λ_ _=>rfl) (λ_ _=>rfl)
   Cr:=h.Cr.step (B4 _) (λ_ _ _=>rfl)}
 exact hg.Iy λg hg=>hg
end
structure Qs (D:Id->Prop) (s t:St):Prop where
 ext:Ext D s t
 env:t.env=s.env
 ph:∀id b,D id->t.heap id=some b->b.rows=[]
def EI (D:Id->Prop) (t s' t':St):Prop:=Qs D s' t'/\∀id,D id->t'.heap id=t.heap id
section
variable {D:Id->Prop} {s t s':St} {P:Program} {M:X2} {C:Kf} {k:Nat} {o:Oper} {v:V} {ops:Array Oper}
theorem Qs.three (h:Qs D s t):EI D t s t:=⟨h,λ_ _=>rfl⟩
theorem EI.trans {t1 s1 s2 t2:St} (h:EI D t s1 t1) (k:EI D t1 s2 t2):EI D t s2 t2:=⟨k.1,λid hd=>(k.2 id hd).trans (h.2 id hd)⟩
theorem Qs.vT {s1 t1:St} (h:Qs D s t) (e:Kj D t s1 t1) (CO:s1.env=s.env):EI D t s1 t1:=
 ⟨⟨e.1,by rw[e.2.2.1,h.env,CO],λid b hd hb=>h.ph id b hd (by rw[<-e.2.1 id hd];exact hb)⟩,e.2.1⟩
theorem Qs.put (h:Qs D s t) (d:Option Tmp) (v:V):EI D t (s.put d v) (t.put d v):=by
 cases d with
 | none=>exact h.three
 | some d=>exact⟨⟨⟨h.ext.ep,h.ext.out,h.ext.abs⟩,by simp only[St.put,h.env],h.ph⟩,λ_ _=>rfl⟩
theorem Qs.AP (h:Qs D s t):t.AP=s.AP:=by
 funext x;cases x<;>simp only[St.AP,h.env]
theorem Qs.wanted (h:Qs D s t):Ev.wanted t ops o=Ev.wanted s ops o:=by
 unfold Ev.wanted;rw[h.env]
theorem Yps {f:Operand->V} (he:Xj P M C f s k o=some (v,s')):s'.env=s.env/\s'.ep=s.ep:=by
 have h:Ext (λ_=>False) s ⟨s.env,s.heap,s.ep⟩:=⟨rfl,λ_ _=>rfl,λ_ h=>h.elim⟩;obtain⟨t',h1,h2⟩:=h.op (λ_ h=>h.elim) he;have h3:(some (v,t'):Option (V×St))=some (v,s'):=by rw[<-h1,<-he]
 simp only[AE,A6,true_and] at h3;subst h3;exact⟨h2.2.2.1,h2.2.2.2⟩
theorem Qs.op (h:Qs D s t) (hd:∀id:Id,D id->¬(id.1=s.ep/\id.2 / 1024=k)) (he:Ib P M C s k o=some (v,s')):∃t',Ib P M C t k o=some (v,t')/\EI D t s' t':=by
 unfold Ib at he ⊢;rw[h.AP];obtain⟨t',h1,h2⟩:=h.ext.op hd he;exact⟨t',h1,h.vT h2 (Yps he).1⟩
theorem Qs.VZ {C:Nat->Kf} (hD:∀id:Id,D id->id.1=0):∀(l:List Oper) {k:Nat} {s t s':St},Qs D s t->s.ep≠0->FG P M C ops s k l=some s'->∃t',FG P M C ops t k l=some t'/\EI D t s' t'/\s'.ep=s.ep:=by
 intro l
 induction l with
 | nil=>
  intro k s t s' h _ he;simp only[FG,AE] at he;subst he;exact⟨t,rfl,h.three,rfl⟩
 | cons o l ih=>
  intro k s t s' h Yk he;simp only[FG] at he ⊢;obtain⟨g,hg,he⟩:=A9.1 he;rw[h.wanted,hg,Ag];cases g with
  | true=>
   simp only[if_true] at he ⊢;obtain⟨⟨v,s1⟩,h1,he⟩:=A9.1 he;obtain⟨t1,g1,e1⟩:=h.op (λid hd hh=>Yk (by rw[<-hh.1];exact hD id hd)) h1;have hp:=e1.1.put o.dst v;have Cc:s1.ep=s.ep:=(Yps h1).2;obtain⟨t2,g2,e2,e3⟩:=ih hp.1 (by rw[G9,Cc];exact Yk) he;exact⟨t2,by rw[g1];exact g2,(e1.trans hp).trans e2,by rw[e3,G9,Cc]⟩
  | false=>
   simp only[Bn,if_false] at he ⊢;have hp:=h.put o.dst (.AW []);obtain⟨t2,g2,e2,e3⟩:=ih hp.1 (by rw[G9];exact Yk) he;exact⟨t2,g2,hp.trans e2,by rw[e3,G9]⟩
theorem Qs.deep (h:Qs D s t) (id:Id):t.deep id=s.deep id:=by
 unfold St.deep;by_cases hd:D id
 .rw[h.ext.abs id hd]
  cases hb:t.heap id with
  | none=>rfl
  | some b=>simp only[h.ph id b hd hb];simp
 .rw[h.ext.out id hd]
theorem Qs.storeT (h:Qs D s t) (d:List Id) (x:V):t.storeT d x=s.storeT d x:=by
 cases x with
 | ptr i j n=>
  simp only[St.storeT];by_cases hd:D i
  .rw[h.ext.abs i hd]
   cases hb:t.heap i with
   | none=>rfl
   | some b=>
    have:=h.ph i b hd hb;simp only[this];cases b.box<;>rfl
  .rw[h.ext.out i hd]
 | _=>rfl
theorem Qs.BV (h:Qs D s t):Ev.BV t o=Ev.BV s o:=by
 have hdp:t.deep=s.deep:=funext h.deep;have Fk:t.storeT=s.storeT:=funext λd=>funext λx=>h.storeT d x;unfold Ev.BV;rw[h.AP,hdp,Fk]
theorem Qs.only (h:Qs D s t) (T:List Id):Ext D (s.only T) (t.only T):=by
 refine⟨h.ext.ep,λid hd=>?_,λid hd=>?_⟩
 .simp only[St.only];split
  .exact h.ext.out id hd
  .rfl
 .simp only[St.only];split
  .exact h.ext.abs id hd
  .rfl
theorem Qs.merge {y z:St} {T:List Id} {w:Bool} (h:Qs D s t) (hD:∀id:Id,D id->Wy s.ep k id=false) (hy:Ext D y z) (hz:∀id,D id->z.heap id=(t.only T).heap id):EI D t (s.merge k T w y) (t.merge k T w z):=by
 have key:∀id,D id->(t.merge k T w z).heap id=t.heap id:=λid hd=>by
  simp only[St.merge,h.ext.ep,hD id hd,UT];split
  .rename_i hc
   rw[hz id hd];simp only[Bg] at hc;have hm:id∈T:=by simpa using hc.2
   simp[St.only,hm]
  .rfl
 refine⟨⟨⟨h.ext.ep,λid hd=>?_,λid hd=>?_⟩,h.env,λid b hd hb=>h.ph id b hd (by rw[<-key id hd];exact hb)⟩,key⟩
 .simp only[St.merge,h.ext.ep];split
  .exact hy.out id hd
  .exact h.ext.out id hd
 .simp only[St.merge];split
  .exact hy.abs id hd
  .exact h.ext.abs id hd
theorem Qs.draw {C:Nat->Kf} (hD:∀id:Id,D id->id.1=0):∀(l:List Oper) {k:Nat} {s t s':St} {recs:List Rec},Qs D s t->s.ep≠0->Fb P M C ops s recs k l=some s'->∃t',Fb P M C ops t recs k l=some t'/\EI D t s' t':=by
 intro l
 induction l with
 | nil=>
  intro k s t s' recs h _ he;simp only[Fb,AE] at he;subst he;exact⟨t,rfl,h.three⟩
 | cons o l ih=>
  intro k s t s' recs h Yk he;have Ct:∀id:Id,D id->¬(id.1=s.ep/\id.2 / 1024=k):=λid hd hh=>Yk (by rw[<-hh.1];exact hD id hd);have hnf:∀id:Id,D id->Wy s.ep k id=false:=λid hd=>by
   cases hf:Wy s.ep k id with
   | false=>rfl
   | true=>exact absurd (by simpa [Wy] using hf) (Ct id hd)
  simp only[Fb] at he ⊢;obtain⟨g,hg,he⟩:=A9.1 he;rw[h.wanted,hg,Ag,h.BV,h.AP,h.ext.ep];cases g with
  | true=>
   simp only[if_true] at he ⊢;split at he
   .rename_i Yg
    rw[Ah Yg];obtain⟨⟨v,y⟩,h1,he⟩:=A9.1 he;obtain⟨z,g1,e1⟩:=(h.only (Ev.BV s o)).op (by exact Ct) h1;have hm:=h.merge (T:=Ev.BV s o) (w:=Ic M s.AP o) hnf e1.1 e1.2.1;have hp:=hm.1.put o.dst v;obtain⟨t2,g2,e2⟩:=ih hp.1 (by rw[G9];exact Yk) he;exact⟨t2,by rw[g1];exact g2,(hm.trans hp).trans e2⟩
   .cases he
  | false=>
   simp only[Bn,if_false] at he ⊢;split at he
   .rename_i Yg
    rw[Ah Yg];have hp:=h.put o.dst (.AW []);obtain⟨t2,g2,e2⟩:=ih hp.1 (by rw[G9];exact Yk) he;exact⟨t2,g2,hp.trans e2⟩
   .cases he
theorem Qs.tick (h:Qs D s t):EI D t {s with ep:=s.ep+1} {t with ep:=t.ep+1}:=
 ⟨⟨⟨by simp only[h.ext.ep],h.ext.out,h.ext.abs⟩,h.env,h.ph⟩,λ_ _=>rfl⟩
theorem Qs.res (h:Qs D s t):∀{l:List ResultVar} {vs:List V},Gz P s l=some vs->Gz P t l=some vs:=by
 intro l
 induction l with
 | nil=>intro vs hr;exact hr
 | cons r l ih=>
  intro vs hr;cases r with
  | tmp x=>
   simp only[Gz,h.env] at hr ⊢;split at hr
   .cases hr
   .obtain⟨ys,h1,rfl⟩:=AL.1 hr
    rw[ih h1];rfl
  | cell a ty=>
   simp only[Gz,h.env] at hr ⊢;split at hr
   .obtain⟨b,hb,hr⟩:=A9.1 hr
    obtain⟨row,Xg,hr⟩:=A9.1 hr;rw[h.ext.get hb,Ag,Xg,Ag];split at hr
    .rename_i hl
     rw[Ah hl];obtain⟨x,hx,hr⟩:=A9.1 hr;obtain⟨ys,h1,rfl⟩:=AL.1 hr;rw[hx,Ag,ih h1];rfl
    .cases hr
   .cases hr
theorem Ext.BD (h:Ext D s t) {ts:List (Option TypeId)} {x y:V} (hl:s.BD ts x=some (y,s')):∃t',t.BD ts x=some (y,t')/\Kj D t s' t':=by
 unfold St.BD at hl ⊢;split at hl
 .obtain⟨⟨ys,s1⟩,h1,he⟩:=AL.1 hl
  simp only[A6] at he;obtain⟨rfl,rfl⟩:=he;obtain⟨t',g,e⟩:=Ext.AK h h1;exact⟨t',by rw[g];rfl,e⟩
 .obtain⟨⟨ys,s1⟩,h1,he⟩:=AL.1 hl
  simp only[A6] at he;obtain⟨rfl,rfl⟩:=he;obtain⟨⟨t',g,e⟩,_⟩:=h.Bv h1;exact⟨t',by rw[g];rfl,e⟩
 .exact h.AA hl
theorem Ext.liftAll:∀{xs:List V} {s t:St} {ts:List TypeId} {ys:List V} {s':St},Ext D s t->s.liftAll P ts xs=some (ys,s')->∃t',t.liftAll P ts xs=some (ys,t')/\Kj D t s' t':=by
 intro xs
 induction xs with
 | nil=>
  intro s t ts ys s' h hs;simp only[St.liftAll,AE,A6] at hs;obtain⟨rfl,rfl⟩:=hs;exact⟨t,rfl,h.two⟩
 | cons x xs ih=>
  intro s t ts ys s' h hs;simp only[St.liftAll] at hs ⊢;obtain⟨⟨y1,s1⟩,h1,hs⟩:=A9.1 hs;obtain⟨⟨y2,s2⟩,h2,hs⟩:=AL.1 hs;simp only[A6] at hs;obtain⟨rfl,rfl⟩:=hs;obtain⟨t1,g1,e1⟩:=h.BD h1;obtain⟨t2,g2,e2⟩:=ih e1.1 h2;exact⟨t2,by rw[g1];simp only[Ag,g2];rfl,e1.trans e2⟩
theorem Ext.AZ {p:Nat}:∀{xs:List V} {s t:St} {k:Nat} {ys:List V} {s':St},Ext D s t->s.AZ p k xs=some (ys,s')->∃t',t.AZ p k xs=some (ys,t')/\Kj D t s' t':=by
 intro xs
 induction xs with
 | nil=>
  intro s t k ys s' h hs;simp only[St.AZ,AE,A6] at hs;obtain⟨rfl,rfl⟩:=hs;exact⟨t,rfl,h.two⟩
 | cons x xs ih=>
  intro s t k ys s' h hs;unfold St.AZ at hs ⊢;split at hs
  .rename_i heq;cases heq
  .rename_i heq
   injection heq with h1 h2;subst h1;subst h2;obtain⟨er,hw,hs⟩:=A9.1 hs;obtain⟨Gd,hd⟩:=h.whole hw;rw[Gd,Ag];split at hs
   .rename_i he
    rw[Ah he];obtain⟨⟨PF,s1⟩,h1,he⟩:=AL.1 hs;simp only[A6] at he;obtain⟨rfl,rfl⟩:=he;obtain⟨t',g,e⟩:=ih (h.kill hd).1 h1;exact⟨t',by rw[g];rfl,(h.kill hd).trans e⟩
   .cases hs
  .rename_i Yh heq
   injection heq with h1 h2;subst h1;subst h2;obtain⟨⟨PF,s1⟩,h1,he⟩:=AL.1 hs;simp only[A6] at he;obtain⟨rfl,rfl⟩:=he;obtain⟨t',g,e⟩:=ih h h1;exact⟨t',by rw[g];rfl,e⟩
theorem Ext.I4 (h:Ext D s t) {p:Nat} {ts:List (Option TypeId)} {m:Yt} {x y:V} (ho:s.out p ts m x=some (y,s')):∃t',t.out p ts m x=some (y,t')/\Kj D t s' t':=by
 unfold St.out at ho ⊢;split at ho
 .simp only[AE,A6] at ho;obtain⟨rfl,rfl⟩:=ho;exact⟨t,rfl,h.two⟩
 .simp only[AE,A6] at ho;obtain⟨rfl,rfl⟩:=ho;exact⟨t,rfl,h.two⟩
 .split at ho
  .obtain⟨⟨ys,s1⟩,h1,ho⟩:=A9.1 ho
   obtain⟨⟨t',g,e⟩,_⟩:=h.Be h1;simp only at ho;split at ho
   .rename_i hl
    simp only[AE,A6] at ho;obtain⟨rfl,rfl⟩:=ho;exact⟨t',by rw[g,Ag];simp only[hl,if_true],e⟩
   .cases ho
  .cases ho
 .split at ho
  .obtain⟨⟨ys,s1⟩,h1,he⟩:=AL.1 ho
   simp only[A6] at he;obtain⟨rfl,rfl⟩:=he;obtain⟨t',g,e⟩:=Ext.AZ h h1;exact⟨t',by rw[g];rfl,e⟩
  .obtain⟨⟨ys,s1⟩,h1,ho⟩:=A9.1 ho
   obtain⟨z,hz,he⟩:=AL.1 ho;simp only[A6] at he;obtain⟨rfl,rfl⟩:=he;obtain⟨t',g,e⟩:=Ext.AZ h h1;exact⟨t',by rw[g,Ag];simp only[hz];rfl,e⟩
theorem Ext.outs:∀{xs:List V} {s t:St} {p:Nat} {ts:List TypeId} {ms:List Yt} {ys:List V},Ext D s t->s.outs P p ts ms xs=some ys->t.outs P p ts ms xs=some ys:=by
 intro xs
 induction xs with
 | nil=>intro s t p ts ms ys h hs;exact hs
 | cons x xs ih=>
  intro s t p ts ms ys h hs;simp only[St.outs] at hs ⊢;obtain⟨⟨y1,s1⟩,h1,hs⟩:=A9.1 hs;obtain⟨zs,h2,rfl⟩:=AL.1 hs;obtain⟨t1,g1,e1⟩:=h.I4 h1;rw[g1];simp only[Ag,ih e1.1 h2];rfl
theorem Qs.enter (h:Qs D s t) (hD:∀id:Id,D id->64000<=id.2) {p:Nat} {m:Yt} {x:V} (he:s.enter p m x=some s'):∃t',t.enter p m x=some t'/\EI D t s' t':=by
 have CU:p < 1000->∀j,64*p<=j->j < 64*p+64->¬D (0,j):=λhp j _ h2 hd=>by have:=hD _ hd;simp only at this;omega
 have one:∀{x y:V} {s1:St},p < 1000->s.Bb 0 (64*p) x=some (y,s1)->∃t1,t.Bb 0 (64*p) x=some (y,t1)/\EI D t (s1.put (some p) y) (t1.put (some p) y):=by
  intro x y s1 hp h1;obtain⟨t1,g,e⟩:=h.ext.Bb (CU hp) h1;have CO:s1.env=s.env:=by
   have h0:Ext (λ_=>False) s ⟨s.env,s.heap,s.ep⟩:=⟨rfl,λ_ _=>rfl,λ_ h=>h.elim⟩;obtain⟨t',k1,k2⟩:=h0.Bb (λ_ _ _ h=>h.elim) h1;have h3:(some (y,t'):Option (V×St))=some (y,s1):=by rw[<-k1,<-h1]
   simp only[AE,A6,true_and] at h3;subst h3;exact k2.2.2.1
  have e3:=h.vT e CO;exact⟨t1,g,e3.trans (e3.1.put _ _)⟩
 have two:∀{cs:List V} {y:V} {s1:St},p < 1000->s.BC 0 (64*p) cs=some (y,s1)->∃t1,t.BC 0 (64*p) cs=some (y,t1)/\EI D t (s1.put (some p) y) (t1.put (some p) y):=by
  intro x y s1 hp h1;obtain⟨t1,g,e⟩:=h.ext.BC (CU hp) h1;have CO:s1.env=s.env:=by
   have h0:Ext (λ_=>False) s ⟨s.env,s.heap,s.ep⟩:=⟨rfl,λ_ _=>rfl,λ_ h=>h.elim⟩;obtain⟨t',k1,k2⟩:=h0.BC (λ_ _ _ h=>h.elim) h1;have h3:(some (y,t'):Option (V×St))=some (y,s1):=by rw[<-k1,<-h1]
   simp only[AE,A6,true_and] at h3;subst h3;exact k2.2.2.1
  have e3:=h.vT e CO;exact⟨t1,g,e3.trans (e3.1.put _ _)⟩
 unfold St.enter at he ⊢;split at he
 case isFalse=>cases he
 rename_i hp;rw[Ah hp];split at he
 .simp only[AE] at he
  subst he;exact⟨_,rfl,h.put _ _⟩
 .split at he
  .obtain⟨⟨y,s1⟩,h1,rfl⟩:=AL.1 he
   obtain⟨t1,g,e⟩:=two hp h1;exact⟨_,by rw[g];rfl,e⟩
  .cases he
 .split at he
  .cases he
  .rename_i Yh
   obtain⟨⟨y,s1⟩,h1,rfl⟩:=AL.1 he;obtain⟨t1,g,e⟩:=one hp h1;refine⟨_,?_,e⟩;rw[g];rfl
 .split at he
  .cases he
  .rename_i Yh
   obtain⟨⟨y,s1⟩,h1,rfl⟩:=AL.1 he;obtain⟨t1,g,e⟩:=one hp h1;refine⟨_,?_,e⟩;rw[g];rfl
theorem Qs.enters (hD:∀id:Id,D id->64000<=id.2):∀{xs:List V} {s t s':St} {p:Nat} {ms:List Yt},Qs D s t->s.enters p ms xs=some s'->∃t',t.enters p ms xs=some t'/\EI D t s' t':=by
 intro xs
 induction xs with
 | nil=>
  intro s t s' p ms h hs;simp only[St.enters,AE] at hs;subst hs;exact⟨t,rfl,h.three⟩
 | cons x xs ih=>
  intro s t s' p ms h hs;simp only[St.enters] at hs ⊢;obtain⟨s1,h1,hs⟩:=A9.1 hs;obtain⟨t1,g1,e1⟩:=h.enter hD h1;obtain⟨t2,g2,e2⟩:=ih e1.1 hs;exact⟨t2,by rw[g1];exact g2,e1.trans e2⟩
end
theorem En.NC {w w':World} {ok ok':Nat->Prop} {U:AY} {v:Value} {id:Id} {off len:Nat} (h:En w ok U v (.sl id off len)):En w' ok' U v (.sl id off len):=by
 cases h with
 | sl h hc=>exact .sl h hc
 | sle h=>exact .sle h
theorem En.PG {w w':World} {ok ok':Nat->Prop} {U:AY} {v:Value} {id:Id} {i off:Nat} (h:En w ok U v (.ptr id i off)):En w' ok' U v (.ptr id i off):=by
 generalize hq:V.ptr id i off=q at h;cases h<;>cases hq;rename_i h;exact .ptr h
def Pl (U:AY) (p:Nat) (m:Yt) (u:Value) (x:V):Prop:=
 match m with
 | .io=>∀w ok,En w ok U u (.ptr (0,64*p+63) 0 0)
 | .Er=>match x with
  | .agg cs=>∃us:Array Value,u=.agg us/\us.size=cs.length/\∀(j:Nat) (v:Value) (e:TypeId) (rows:List (List V)),us[j]?=some v->cs[j]?=some (.own e rows)->∀w ok,En w ok U v (.sl (0,64*p+j) 0 rows.length)
  | x=>∀(e:TypeId) (rows:List (List V)),x=.own e rows->∀w ok,En w ok U u (.sl (0,64*p) 0 rows.length)
 | _=>True
inductive ND (U:AY):Nat->List Yt->List Value->List V->Prop
 | nil {p:Nat} {ms:List Yt}:ND U p ms [] []
 | cons {p:Nat} {ms:List Yt} {u:Value} {us:List Value} {x:V} {xs:List V} (h:Pl U p (ms.headD .rd) u x) (hs:ND U (p+1) ms.tail us xs):ND U p ms (u::us) (x::xs)
theorem Pl.ext {U U':AY} (hU:∀id i,U id=some i->U' id=some i) {p:Nat} {m:Yt} {u:Value} {x:V} (h:Pl U p m u x):Pl U' p m u x:=by
 cases m
 .exact trivial
 .exactλw ok=>(h w ok).ext (λ_ h=>h) hU
 .exact trivial
 .unfold Pl at h ⊢
  simp only at h ⊢;split
  .obtain⟨us,h1,h2,h3⟩:=h
   exact⟨us,h1,h2,λj v e rows hv hc w ok=>(h3 j v e rows hv hc w ok).ext (λ_ h=>h) hU⟩
  .rename_i Yh
   split at h
   .rename_i cs;exact absurd rfl (Yh cs)
   .exactλe rows he w ok=>(h e rows he w ok).ext (λ_ h=>h) hU
theorem Yrr {e:Nat}:∀{xs:List V} {s:St} {k:Nat} {ys:List V} {s':St},s.AN e k xs=some (ys,s')->∀(j:Nat) (e':TypeId) (rows:List (List V)),xs[j]?=some (.own e' rows)->ys[j]?=some (.sl (e,k+j) 0 rows.length):=by
 intro xs
 induction xs with
 | nil=>intro s k ys s' _ j e' rows h;simp at h
 | cons x xs ih=>
  intro s k ys s' hs j e' rows h;simp only[St.AN] at hs;obtain⟨⟨y1,s1⟩,h1,hs⟩:=A9.1 hs;obtain⟨⟨y2,s2⟩,h2,hs⟩:=AL.1 hs;simp only[A6] at hs;obtain⟨rfl,rfl⟩:=hs;cases j with
  | zero=>
   have:x=.own e' rows:=by simpa using h
   subst this;simp only[St.AS,AE,A6] at h1;simp[h1.1]
  | succ j=>
   have:=ih h2 j e' rows (by simpa using h);rw[Vea,this]
   congr 2
   simp only[V.sl.injEq,A6,true_and,and_true];omega
section
variable {P:Program} {B:Nat} {io:Nat->Prop} {w w':World} {tmps:Array Value} {s s':St} {U U':AY} {F F':Id->List Nat} {fl fl':List Nat} {ok ok':Nat->Prop}
structure PH (P:Program) (B:Nat) (io:Nat->Prop) (w:World) (tmps:Array Value) (s:St) (U:AY) (fl:List Nat) (ok:Nat->Prop) (lo hi:Nat) (s':St) (U':AY) (F':Id->List Nat):Prop where
 rel:Jo P B io w tmps s' U' F' fl ok
 ext:∀id i,U id=some i->U' id=some i
 C5:∀id,(U' id).isSome=true->(U id).isSome=true\/(id.1=0/\lo<=id.2/\id.2 < hi)
 ep:s'.ep=s.ep
 heap:∀id:Id,¬(id.1=0/\lo<=id.2/\id.2 < hi)->s'.heap id=s.heap id
 AJ:∀g,Ev.AJ s' U' g->Ev.AJ s U g\/io g
theorem vU {d:Option Tmp} {v:V} {g:Nat} (h:AJ (s.put d v) U g):AJ s U g:=by
 obtain⟨id,b,o,c,sz,h1,h2,h3⟩:=h;rw[PC] at h1;exact⟨id,b,o,c,sz,h1,h2,h3⟩
theorem Y7w {fp:List Nat} (h:Jo P B io w tmps s U F (fp++fl) ok) {p:Nat} {m:Yt} {u:Value} {x:V} (ha:VN P w ok io m u x fp) (hp:tmps[p]?=some u) (Yk:s.ep=0) (Y7:∀j,64*p<=j->j < 64*p+64->U (0,j)=none/\s.heap (0,j)=none) (he:s.enter p m x=some s'):
  ∃U' F',PH P B io w tmps s U fl ok (64*p) (64*p+64) s' U' F'/\Pl U' p m u x:=by
 have fin:∀{y:V} {s1:St} {z:V} ,Dz P w ok io u z fp->s.Bb 0 (64*p) z=some (y,s1)->∃U' F',PH P B io w tmps s U fl ok (64*p) (64*p+64) (s1.put (some p) y) U' F'/\En w ok U' u y:=by
  intro y s1 z hg ht;obtain⟨U',F',t,en⟩:=vA h hg (λg hg=>.inl hg) (e:=0) (by omega) Y7 ht;exact⟨U',F',⟨t.rel.put hp en,t.ext,t.C5,by rw[G9];exact t.ep,λid Zu=>by rw[PC];exact t.heap id Zu,λg hg=>t.AJ g (vU hg)⟩,en⟩
 unfold St.enter at he;split at he
 case isFalse=>cases he
 split at he
 .simp only[AE] at he
  subst he;obtain⟨h1,rfl⟩:=ha;exact⟨U,F,⟨h.put hp (h1 U),λ_ _ h=>h,λ_ h=>.inl h,G9 _ _ _,λid _=>by rw[PC],λg hg=>.inl (vU hg)⟩,trivial⟩
 .split at he
  .rename_i cs
   obtain⟨⟨y,s1⟩,h1,rfl⟩:=AL.1 he;obtain⟨G6,BO,hg⟩:=ha;injection BO with BO;subst BO;obtain⟨U',F',t,en,ey⟩:=Y3c h hg (λg hg=>.inl hg) (e:=0) (by omega) Y7 h1;subst ey;exact⟨U',F',⟨t.rel.put hp en,t.ext,t.C5,by rw[G9];exact t.ep,λid Zu=>by rw[PC];exact t.heap id Zu,λg hg=>t.AJ g (vU hg)⟩,λw' ok'=>en.PG⟩
  .cases he
 .split at he
  .cases he
  .obtain⟨⟨y,s1⟩,h1,rfl⟩:=AL.1 he
   obtain⟨U',F',h2,h3⟩:=fin ha.2 h1;exact⟨U',F',h2,trivial⟩
 .split at he
  .cases he
  .obtain⟨⟨y,s1⟩,h1,rfl⟩:=AL.1 he
   obtain⟨U',F',h2,h3⟩:=fin ha.2 h1;refine⟨U',F',h2,?_⟩;unfold Pl;simp only;split
   .rename_i cs
    obtain⟨us,rfl,G7⟩:=ha.2;refine⟨us,rfl,by have:=G7.length;simpa using this,λj v e rows hv hc w' ok'=>?_⟩;simp only[St.Bb] at h1;split at h1
    .obtain⟨⟨ys,s2⟩,h4,he⟩:=AL.1 h1
     simp only[A6] at he;rw[<-he.1] at h3;cases h3 with
     | agg hl Cl hr=>exact (hr j v _ hv (Yrr h4 j e rows hc)).NC
    .cases h1
   .rename_i Yh
    rintro e rows rfl w' ok';simp only[St.Bb,St.AS,AE,A6] at h1;rw[<-h1.1] at h3;exact h3.NC
theorem Y51:∀(xs:List V) {us:List Value} {p:Nat} {ms:List Yt} {s s':St} {U:AY} {F:Id->List Nat} {G:List Nat},Jo P B io w tmps s U F (G++fl) ok->N9 P w ok io ms us xs G->(∀(j:Nat) (u:Value),us[j]?=some u->tmps[p+j]?=some u)->s.ep=0->
  (∀j,64*p<=j->j < 64000->U (0,j)=none/\s.heap (0,j)=none)->s.enters p ms xs=some s'->∃U' F',PH P B io w tmps s U fl ok (64*p) 64000 s' U' F'/\ND U' p ms us xs:=by
 intro xs
 induction xs with
 | nil=>
  intro us p ms s s' U F G h ha ht Yk Y7 he;cases ha;simp only[St.enters,AE] at he;subst he;exact⟨U,F,⟨h,λ_ _ h=>h,λ_ h=>.inl h,rfl,λ_ _=>rfl,λ_ h=>.inl h⟩,.nil⟩
 | cons x xs ih=>
  intro us p ms s s' U F G h ha ht Yk Y7 he;cases ha with
  | @cons _ u us _ _ f1 f2 h1 hs=>
   simp only[St.enters] at he;obtain⟨s1,e1,he⟩:=A9.1 he;have hp:p < 1000:=by
    unfold St.enter at e1;split at e1
    .assumption
    .cases e1
   obtain⟨U1,F1,c1,p1⟩:=Y7w (fl:=f2++fl) (by rw[<-List.append_assoc];exact h) h1 (by simpa using ht 0 u rfl) Yk (λj h1 h2=>Y7 j h1 (by omega)) e1;obtain⟨U2,F2,c2,p2⟩:=ih c1.rel hs (λj v hv=>by have:=ht (j+1) v (by simpa using hv);rw[show p+1+j=p+(j+1) by omega];exact this) (by rw[c1.ep];exact Yk) (λj h1 h2=>by
    obtain⟨a1,a2⟩:=Y7 j (by omega) h2;refine⟨?_,by rw[c1.heap _ (λhh=>by have:=hh.2.2;simp only at this;omega)];exact a2⟩;cases hr:U1 (0,j) with
    | none=>rfl
    | some i=>
     rcases c1.C5 (0,j) (by rw[hr];rfl) with hh|hh
     .rw[a1] at hh;cases hh
     .have:=hh.2.2;simp only at this;omega) he
   refine⟨U2,F2,⟨c2.rel,λid i hi=>c2.ext id i (c1.ext id i hi),λid hi=>?_,c2.ep.trans c1.ep,λid Zu=>?_,λg hg=>?_⟩,.cons (p1.ext c2.ext) p2⟩
   .rcases c2.C5 id hi with h3|h3
    .rcases c1.C5 id h3 with h4|h4
     .exact .inl h4
     .exact .inr ⟨h4.1,h4.2.1,by omega⟩
    .exact .inr ⟨h3.1,by omega,h3.2.2⟩
   .rw[c2.heap id (λhh=>Zu ⟨hh.1,by omega,hh.2.2⟩)]
    exact c1.heap id (λhh=>Zu ⟨hh.1,hh.2.1,by omega⟩)
   .rcases c2.AJ g hg with h3|h3
    .exact c1.AJ g h3
    .exact .inr h3
end
inductive Gh (P:Program) (w:World) (ok top:Nat->Prop):List Value->List V->List Nat->Prop
 | nil:Gh P w ok top [] [] []
 | cons {v:Value} {x:V} {vs:List Value} {xs:List V} {f1 f2:List Nat} (h:Dz P w ok top v x f1) (hs:Gh P w ok top vs xs f2):Gh P w ok top (v::vs) (x::xs) (f1++f2)
theorem Gh.top {P:Program} {w:World} {ok top top':Nat->Prop} {v:List Value} {x:List V} {fp:List Nat} (h:Gh P w ok top v x fp) (ht:∀g,top g->top' g):Gh P w ok top' v x fp:=by
 induction h with
 | nil=>exact .nil
 | cons h _ ih=>exact .cons (h.top ht) ih
inductive Hg (P:Program) (w:World) (top:Nat->Prop):List Value->List V->List V->List Nat->Prop
 | nil:Hg P w top [] [] [] []
 | own {u:Value} {e:TypeId} {rows Bt:List (List V)} {us:List Value} {xs ns:List V} {f1 f2:List Nat} (h:Nt P w e u Bt f1) (ht:∀g,f1.head?=some g->top g) (hs:Hg P w top us xs ns f2):Hg P w top (u::us) (.own e rows::xs) (.own e Bt::ns) (f1++f2)
 | skip {u:Value} {x:V} {us:List Value} {xs ns:List V} {f:List Nat} (hx:∀e rows,x≠.own e rows) (hs:Hg P w top us xs ns f):Hg P w top (u::us) (x::xs) (.undef::ns) f
theorem Hg.top {P:Program} {w:World} {top top':Nat->Prop} {us:List Value} {xs ns:List V} {fp:List Nat} (h:Hg P w top us xs ns fp) (ht:∀g,top g->top' g):Hg P w top' us xs ns fp:=by
 induction h with
 | nil=>exact .nil
 | own h k _ ih=>exact .own h (λg hg=>ht g (k g hg)) ih
 | skip h _ ih=>exact .skip h ih
def LY (P:Program) (w:World) (ok top:Nat->Prop) (m:Yt) (u:Value) (x o:V) (fp:List Nat):Prop:=
 match m with
 | .rd|.mv=>fp=[]
 | .io=>∃cs G6,x=.agg cs/\o=.agg G6/\G6.length=cs.length/\Ix P w ok top u G6 fp
 | .Er=>(∃(us:Array Value) (cs ns:List V),x=.agg cs/\u=.agg us/\o=.agg ns/\Hg P w top us.toList cs ns fp)\/((∀cs,x≠.agg cs)/\Hg P w top [u] [x] [o] fp)
theorem LY.top {P:Program} {w:World} {ok top top':Nat->Prop} {m:Yt} {u:Value} {x o:V} {fp:List Nat} (h:LY P w ok top m u x o fp) (ht:∀g,top g->top' g):LY P w ok top' m u x o fp:=by
 cases m
 .exact h
 .obtain⟨cs,G6,h1,h2,h3,h4⟩:=h;exact⟨cs,G6,h1,h2,h3,h4.top ht⟩
 .exact h
 .rcases h with⟨us,cs,ns,h1,h2,h3,h4⟩|⟨h1,h2⟩
  .exact .inl ⟨us,cs,ns,h1,h2,h3,h4.top ht⟩
  .exact .inr ⟨h1,h2.top ht⟩
inductive Fo (P:Program) (w:World) (ok top:Nat->Prop):List Yt->List Value->List V->List V->List Nat->Prop
 | nil {ms:List Yt}:Fo P w ok top ms [] [] [] []
 | cons {ms:List Yt} {u:Value} {us:List Value} {x o:V} {xs os:List V} {f1 f2:List Nat} (h:LY P w ok top (ms.headD .rd) u x o f1) (hs:Fo P w ok top ms.tail us xs os f2):Fo P w ok top ms (u::us) (x::xs) (o::os) (f1++f2)
theorem Fo.top {P:Program} {w:World} {ok top top':Nat->Prop} {ms:List Yt} {us:List Value} {xs os:List V} {fp:List Nat} (h:Fo P w ok top ms us xs os fp) (ht:∀g,top g->top' g):Fo P w ok top' ms us xs os fp:=by
 induction h with
 | nil=>exact .nil
 | cons h _ ih=>exact .cons (h.top ht) ih
section
variable {P:Program} {B:Nat} {io:Nat->Prop} {w w':World} {tmps:Array Value} {s s':St} {U U':AY} {F F':Id->List Nat} {fl fl':List Nat} {ok ok':Nat->Prop}
theorem Y12 (h0:Rel P B io w tmps s U F fl) {s1 s2:St} {fl1:List Nat} (h:Rel P B io w tmps s1 U F fl1) (J3:Wa s s1) {ts:List (Option TypeId)} {u:Value} {x y:V} (hu:En w (AH s U w) U u x) (hl:s1.BD ts x=some (y,s2)):
  ∃fp,Rel P B io w tmps s2 U F (fp++fl1)/\Dz P w (AH s U w) (DA s1 s2 U F) u y fp/\Wa s1 s2:=by
 have Yg:∀g,AH s U w g->AH s1 U w g:=λg hg=>P8 J3 hg;unfold St.BD at hl;split at hl
 .rename_i cs
  exact vC h hu Yg (show s1.Ba ts (.agg cs)=some (y,s2) from hl)
 .rename_i id
  obtain⟨⟨cs,s4⟩,h3,he⟩:=AL.1 hl;simp only[A6] at he;obtain⟨rfl,rfl⟩:=he;obtain⟨fp,a,b,c,_⟩:=Ykp h hu Yg (h0.CK.less J3 id) h3;exact⟨fp,a,b,c⟩
 .obtain⟨fp,a,b,c⟩:=gI h hu Yg hl
  refine⟨fp,a,?_,c⟩;cases b with
  | lit h=>exact .lit h
  | tr h=>exact .tr h
  | own h k=>exact .own h k
theorem Y2u (h0:Rel P B io w tmps s U F fl):∀(xs:List V) {us:List Value} {ts:List TypeId} {s1 s2:St} {fl1:List Nat} {ys:List V},Rel P B io w tmps s1 U F fl1->Wa s s1->us.length=xs.length->
  (∀(j:Nat) (u:Value) (x:V),us[j]?=some u->xs[j]?=some x->En w (AH s U w) U u x)->s1.liftAll P ts xs=some (ys,s2)->∃fp,Rel P B io w tmps s2 U F (fp++fl1)/\Gh P w (AH s U w) (DA s1 s2 U F) us ys fp/\Wa s1 s2:=by
 intro xs
 induction xs with
 | nil=>
  intro us ts s1 s2 fl1 ys h J3 hl X3 hg;have:us=[]:=Gt (by simpa using hl);subst this;simp only[St.liftAll,AE,A6] at hg;obtain⟨rfl,rfl⟩:=hg;exact⟨[],h,.nil,.refl _⟩
 | cons x xs ih=>
  intro us ts s1 s2 fl1 ys h J3 hl X3 hg
  match us,hl with
  | u::us,hl=>
   simp only[St.liftAll] at hg;obtain⟨⟨y,s3⟩,h1,hg⟩:=A9.1 hg;obtain⟨⟨zs,s4⟩,h2,hg⟩:=AL.1 hg;simp only[A6] at hg;obtain⟨rfl,rfl⟩:=hg;simp only at h2;obtain⟨f1,r1,a1,l1⟩:=Y12 h0 h J3 (X3 0 u x rfl rfl) h1;obtain⟨f2,r2,a2,l2⟩:=ih r1 (J3.trans l1) (by simpa using hl) (λj v z hv hz=>X3 (j+1) v z (by simpa using hv) (by simpa using hz)) h2;refine⟨f1++f2,r2.perm ?_,.cons (a1.top λg hg=>hg.left l2) (a2.top λg hg=>hg.right l1),l1.trans l2⟩;rw[List.append_assoc];exact (OQ _ _ _)
theorem Yhj {p:Nat}:∀(xs:List V) {us:List Value} {k:Nat} {s1 s2:St} {fl1:List Nat} {ys:List V},Rel P B io w tmps s1 U F fl1->us.length=xs.length->
  (∀(j:Nat) (v:Value) (e:TypeId) (rows:List (List V)),us[j]?=some v->xs[j]?=some (.own e rows)->∀w ok,En w ok U v (.sl (0,64*p+(k+j)) 0 rows.length))->s1.AZ p k xs=some (ys,s2)->
  ∃fp,Rel P B io w tmps s2 U F (fp++fl1)/\Hg P w (DA s1 s2 U F) us xs ys fp/\Wa s1 s2:=by
 intro xs
 induction xs with
 | nil=>
  intro us k s1 s2 fl1 ys h hl X3 hg;have:us=[]:=Gt (by simpa using hl);subst this;simp only[St.AZ,AE,A6] at hg;obtain⟨rfl,rfl⟩:=hg;exact⟨[],h,.nil,.refl _⟩
 | cons x xs ih=>
  intro us k s1 s2 fl1 ys h hl X3 hg
  match us,hl with
  | u::us,hl=>
   have LJ:∀(j:Nat) (v:Value) (e:TypeId) (rows:List (List V)),us[j]?=some v->xs[j]?=some (.own e rows)->∀w ok,En w ok U v (.sl (0,64*p+(k+1+j)) 0 rows.length):=λj v e rows hv hx w' ok'=>by
    have:=X3 (j+1) v e rows (by simpa using hv) (by simpa using hx) w' ok';rw[show k+1+j=k+(j+1) by omega];exact this
   unfold St.AZ at hg;split at hg
   .rename_i heq;cases heq
   .rename_i heq
    injection heq with e1 e2;subst e1;subst e2;obtain⟨⟨e',Bt⟩,hw,hg⟩:=A9.1 hg;simp only at hg;split at hg
    .rename_i hee
     obtain⟨⟨zs,s3⟩,h2,he⟩:=AL.1 hg;simp only[A6] at he;obtain⟨rfl,rfl⟩:=he;subst hee;have hu:=X3 0 u _ _ rfl rfl w (AH s1 U w);obtain⟨f1,r1,o1,hh⟩:=h.FZ (by simpa using hu) hw;obtain⟨f2,r2,a2,l2⟩:=ih r1 (by simpa using hl) LJ h2;refine⟨f1++f2,r2.perm ?_,.own o1 (λg hg=>?_) (a2.top λg hg=>hg.right (.kill s1 _)),(Wa.kill s1 _).trans l2⟩
     .rw[List.append_assoc]
      exact (OQ _ _ _)
     .unfold St.whole at hw
      obtain⟨b,hb,hw⟩:=A9.1 hw;split at hw
      .rename_i hc
       exact⟨_,b,hb,hc.2.1,l2.none Q5,(hh g hg).1,(hh g hg).2⟩
      .cases hw
    .cases hg
   .rename_i Yh heq
    injection heq with e1 e2;subst e1;subst e2;obtain⟨⟨zs,s3⟩,h2,he⟩:=AL.1 hg;simp only[A6] at he;obtain⟨rfl,rfl⟩:=he;obtain⟨f2,r2,a2,l2⟩:=ih h (by simpa using hl) LJ h2;exact⟨f2,r2,.skip (λe rows hx=>Yh e rows hx) a2,l2⟩
theorem Xav {D:Id->Prop} (h0:Rel P B io w tmps s U F fl):∀(xs:List V) {us:List Value} {p:Nat} {ts:List TypeId} {ms:List Yt} {sa s1:St} {fl1:List Nat} {ys:List V},Rel P B io w tmps s1 U F fl1->Wa s s1->ND U p ms us xs->
  Ext D sa s1->sa.outs P p ts ms xs=some ys->s1.outs P p ts ms xs=some ys->∃s2 fp,(∀id,D id->s2.heap id=s1.heap id)/\Rel P B io w tmps s2 U F (fp++fl1)/\Fo P w (AH s U w) (DA s1 s2 U F) ms us xs ys fp/\Wa s1 s2:=by
 intro xs
 induction xs with
 | nil=>
  intro us p ts ms sa s1 fl1 ys h J3 N6 hx WA hg;cases N6;simp only[St.outs,AE] at hg;subst hg;exact⟨s1,[],λ_ _=>rfl,h,.nil,.refl _⟩
 | cons x xs ih=>
  intro us p ts ms sa s1 fl1 ys h J3 N6 hx WA hg;cases N6 with
  | @cons _ _ u us _ _ hp SP=>
   simp only[St.outs] at hg WA;obtain⟨⟨y,s3⟩,h1,hg⟩:=A9.1 hg;obtain⟨zs,h2,rfl⟩:=AL.1 hg;obtain⟨⟨ya,sa3⟩,Cz,WA⟩:=A9.1 WA;obtain⟨zsa,D1,Dy⟩:=AL.1 WA;simp only at h2 D1;injection Dy with vV Dy;have vV:=vV.symm;have Dy:=Dy.symm;subst vV;subst Dy;obtain⟨s3',k1,k2⟩:=hx.I4 Cz;rw[h1] at k1;simp only[AE,A6,true_and] at k1;subst k1;have Yg:∀g,AH s U w g->AH s1 U w g:=λg hg=>P8 J3 hg;have one:∃fp,Rel P B io w tmps s3 U F (fp++fl1)/\LY P w (AH s U w) (DA s1 s3 U F) (ms.headD .rd) u x y fp/\Wa s1 s3:=by
    unfold St.out at h1;split at h1
    .rename_i hm
     simp only[AE,A6] at h1;obtain⟨rfl,rfl⟩:=h1;rw[hm];exact⟨[],h,rfl,.refl _⟩
    .rename_i hm
     simp only[AE,A6] at h1;obtain⟨rfl,rfl⟩:=h1;rw[hm];exact⟨[],h,rfl,.refl _⟩
    .rename_i hm
     rw[hm] at hp ⊢;split at h1
     .rename_i cs
      obtain⟨⟨G6,s4⟩,h3,h1⟩:=A9.1 h1;simp only at h1;split at h1
      .rename_i Yn
       simp only[AE,A6] at h1;obtain⟨rfl,rfl⟩:=h1;obtain⟨fp,a,b,c,_⟩:=Ygx h (hp w (AH s U w)) Yg (h0.CK.less J3) h3;exact⟨fp,a,⟨cs,G6,rfl,rfl,Yn,b⟩,c⟩
      .cases h1
     .cases h1
    .rename_i hm
     rw[hm] at hp ⊢;unfold Pl at hp;simp only at hp;split at h1
     .rename_i cs
      obtain⟨⟨ns,s4⟩,h3,he⟩:=AL.1 h1;simp only[A6] at he;obtain⟨rfl,rfl⟩:=he;obtain⟨vs,rfl,Ww,X3⟩:=hp;obtain⟨fp,a,b,c⟩:=Yhj (p:=p) cs (us:=vs.toList) (k:=0) h (by simpa using Ww) (λj v e rows hv hc w' ok'=>by
       have:=X3 j v e rows (by simpa using hv) hc w' ok';rw[OY];exact this) h3
      exact⟨fp,a,.inl ⟨vs,cs,ns,rfl,rfl,rfl,b⟩,c⟩
     .rename_i Yh
      obtain⟨⟨ns,s4⟩,h3,h1⟩:=A9.1 h1;obtain⟨z,hz,he⟩:=AL.1 h1;simp only[A6] at he;obtain⟨rfl,rfl⟩:=he;split at hp
      .rename_i cs;exact absurd rfl (Yh cs)
      .obtain⟨fp,a,b,c⟩:=Yhj (p:=p) [x] (us:=[u]) (k:=0) h rfl (λj v e rows hv hc w' ok'=>by
        cases j with
        | zero=>
         have e1:u=v:=by simpa using hv
         have e2:x=.own e rows:=by simpa using hc
         subst e1;have:=hp e rows e2 w' ok';simpa using this
        | succ j=>simp at hc) h3
       have PI:ns=[z]:=by
        cases b with
        | own _ _ hs=>cases hs;simp at hz;rw[hz]
        | skip _ hs=>cases hs;simp at hz;rw[hz]
       subst PI;exact⟨fp,a,.inr ⟨Yh,b⟩,c⟩
   obtain⟨f1,r1,a1,l1⟩:=one;obtain⟨s5,f2,d2,r2,a2,l2⟩:=ih r1 (J3.trans l1) SP k2.1 D1 h2;refine⟨s5,f1++f2,λid hd=>(d2 id hd).trans (k2.2.1 id hd),r2.perm ?_,.cons (a1.top λg hg=>hg.left l2) (a2.top λg hg=>hg.right l1),l1.trans l2⟩;rw[List.append_assoc];exact (OQ _ _ _)
theorem Yxo {t:TypeId} {g n:Nat} {us:List Value} {cs:List V} {v:V} (hl:us.length=Z2 P t) (Qd:us.length=cs.length) (G1:∀x∈cs,AF x=true)
  (hc:∀j u,us[j]?=some u->w.cell? ⟨g,n+j,none⟩=some u) (he:JO P t cs=some v) (X3:∀(j:Nat) (u:Value) (x:V),us[j]?=some u->cs[j]?=some x->En w (AH s U w) U u x):
  ∃u,(loadVar t ⟨g,n,none⟩).run P w=.ok u w/\En w (AH s U w) U u v:=by
 unfold JO at he;split at he
 .rename_i Vi
  obtain⟨d,hu⟩:=EW.1 Vi;split at he
  .rename_i Pe
   simp only[AE] at he;subst he;obtain⟨ti,CN⟩:∃ti,P.info? t=some ti:=by
    unfold Program.underlying at hu;split at hu
    .rename_i h;exact⟨_,h⟩
    .rename_i h;exact⟨_,h⟩
    .cases hu
   have Ww:ti.size=us.length:=by rw[hl];simp[Z2,Program.cellsOf,CN]
   have Xu:=run_loadCells_list (P:=P) (w:=w) ⟨g,n,none⟩ us (λj u hj=>by rw[H6];exact hc j u hj);rw[<-Ww] at Xu;refine⟨.agg us.toArray,?_,(.agg (by simpa using Qd) G1 (λj u x hj hx=>X3 j u x (by simpa using hj) hx))⟩;cases d<;>simp[H3,hu] at Pe<;>simp[loadVar,isAgg,underlying,hu,Go.sizeOf,typeInfo,CN,Xu]
  .rename_i Pe
   split at he
   .rename_i y
    simp only[AE] at he;subst he
    match us,Qd with
    | [u],_=>
     refine⟨u,?_,X3 0 u y rfl rfl⟩;have h0:=hc 0 u rfl;simp only[GW] at h0;cases d<;>simp[H3,hu] at Pe<;>simp[loadVar,isAgg,underlying,hu,load,Sem.run,h0]
   .cases he
 .cases he
def PJ (tmps:Array Value):ResultVar->Sem Value
 | .tmp t=>pure (tmps.getD t undef)
 | .cell a t=>do loadVar t (<-asAddr (tmps.getD a undef))
theorem Xb7 (h:Rel P B io w tmps s U F fl):∀(l:List ResultVar) {vs:List V},Gz P s l=some vs->∃us:List Value,us.length=vs.length/\
  (l.mapM (PJ tmps)).run P w=.ok us w/\∀(j:Nat) (u:Value) (x:V),us[j]?=some u->vs[j]?=some x->En w (AH s U w) U u x:=by
 intro l
 induction l with
 | nil=>
  intro vs hr;simp only[Gz,AE] at hr;subst hr;exact⟨[],rfl,by simp,λj u x hu=>by simp at hu⟩
 | cons r l ih=>
  intro vs hr;have tm:∀t,s.env t≠.undef->t < tmps.size:=λt Yh=>by
   rcases L9 t tmps.size with h'|h'
   .exact h'
   .exact absurd (h.out t h') Yh
  have fin:∀{u:Value} {x:V} {ys:List V},(PJ tmps r).run P w=.ok u w->En w (AH s U w) U u x->Gz P s l=some ys->x::ys=vs->
    ∃us:List Value,us.length=vs.length/\((r::l).mapM (PJ tmps)).run P w=.ok us w/\∀(j:Nat) (u:Value) (x:V),us[j]?=some u->vs[j]?=some x->En w (AH s U w) U u x:=by
   rintro u x ys Xu X3 C6 rfl;obtain⟨us,h1,h2,h3⟩:=ih C6;refine⟨u::us,by simp[h1],?_,λj v z hv hz=>?_⟩
   .rw[List.mapM_cons]
    simp only[Sem.run_bind,Xu,h2,Result.andThen_ok,Sem.run_pure]
   .cases j with
    | zero=>
     have e1:u=v:=by simpa using hv
     have e2:x=z:=by simpa using hz
     subst e1;subst e2;exact X3
    | succ j=>exact h3 j v z (by simpa using hv) (by simpa using hz)
  cases r with
  | tmp t=>
   simp only[Gz] at hr;split at hr
   .cases hr
   .rename_i Yh
    obtain⟨ys,h1,h2⟩:=AL.1 hr;have Z6:=tm t Yh;have hv:tmps[t]?=some tmps[t]:=Var Z6;exact fin (u:=tmps.getD t undef) (by simp[PJ]) (by rw[OP,hv];exact h.env t _ hv) h1 h2
  | cell ad t=>
   simp only[Gz] at hr;split at hr
   .rename_i i j n hx
    obtain⟨b,hb,hr⟩:=A9.1 hr;obtain⟨row,Xg,hr⟩:=A9.1 hr;split at hr
    .rename_i Yn
     obtain⟨x,hxe,hr⟩:=A9.1 hr;obtain⟨ys,h1,h2⟩:=AL.1 hr;have Z6:=tm ad (by rw[hx];simp);have hv:tmps[ad]?=some tmps[ad]:=Var Z6;have X3:=h.env ad _ hv;rw[hx] at X3;generalize hq:tmps[ad]=q at X3 hv;generalize hpp:V.ptr i j n=pp at X3;cases X3<;>cases hpp;rename_i g o' c sz hU;have cell:∀(m:Nat) (y:V),row[m]?=some y->∃u,w.cell? ⟨g,o'+j*sz+m,none⟩=some u/\En w (AH s U w) U u y/\AF y=true:=λm y hy=>by
      obtain⟨u,k1,k2,k3⟩:=h.cell hb hU Xg hy;cases Xl:b.box with
      | true=>exact⟨u,k1,k2 Xl,h.Fe hb Xl Xg y (Ep hy)⟩
      | false=>exact⟨u,k1,(k3 Xl).en,(k3 Xl).AF⟩
     have each:∀m,∃u:Value,∀y,row[m]?=some y->w.cell? ⟨g,o'+j*sz+m,none⟩=some u/\En w (AH s U w) U u y:=λm=>by
      cases hm:row[m]? with
      | none=>exact⟨undef,λy hy=>by cases hy⟩
      | some z=>
       obtain⟨u,k1,k2,_⟩:=cell m z hm;exact⟨u,λy hy=>by injection hy with hy;subst hy;exact⟨k1,k2⟩⟩
     obtain⟨uf,Nu⟩:=sY each;obtain⟨u,Xu,hue⟩:=Yxo (P:=P) (s:=s) (U:=U) (w:=w) (t:=t) (g:=g) (n:=o'+j*sz+n) (us:=(List.range (Z2 P t)).map λm=>uf (n+m)) (cs:=(row.drop n).take (Z2 P t)) (by simp) (by simp;omega) (λx hx=>by
      obtain⟨m,hm⟩:=H0 hx;rw[Df] at hm;split at hm
      .rw[D7] at hm
       obtain⟨_,_,_,k4⟩:=cell _ x hm;exact k4
      .cases hm) (λm u hm=>by
      simp only[Dt,AL] at hm;obtain⟨m',D9,rfl⟩:=hm;obtain⟨gR,rfl⟩:=CX.1 D9;simp only[tF,tC] at gR ⊢;rw[Nat.add_assoc];exact (Nu (n+m) _ (CB (by omega))).1) hxe (λm u y hm hy=>by
      simp only[Dt,AL] at hm;obtain⟨m',D9,rfl⟩:=hm;obtain⟨gR,rfl⟩:=CX.1 D9;simp only[tF,tC] at gR ⊢;rw[Df,Ah gR,D7] at hy;exact (Nu (n+m) y hy).2)
     refine fin (u:=u) ?_ hue h1 h2;simp only[PJ,Sem.run_bind];rw[OP,hv];simp[asAddr,Xu]
    .cases hr
   .cases hr
end
def Fp (P:Program) (w:World) (ok top:Nat->Prop) (v:Value):V->List Nat->Prop
 | .AW rs,fp=>∃us:Array Value,v=.tuple us/\Gh P w ok top us.toList rs fp
 | x,fp=>Dz P w ok top v x fp
structure PK (P:Program) (ms:List Yt) (w:World) (us:Array Value) (xs:List V) (G:List Nat) (T X:Nat->Prop) (r:V) (os:List V) (v:Value) (w':World):Prop where
 left:J6 w.heap.size T w w'
 ex:∃(ok' top':Nat->Prop) (fr fo:List Nat),Fp P w' ok' top' v r fr/\Fo P w' ok' top' ms us.toList xs os fo/\(fr++fo).Nodup/\(∀g∈fr++fo,g < w'.heap.size/\(g∈G\/w.heap.size<=g))/\(∀g,top' g->T g\/w.heap.size<=g)/\(∀g,ok' g->g < w'.heap.size/\¬top' g/\¬X g)
def NF (P:Program) (ms:List Yt) (f:FuncId) (xs:List V) (r:V) (os:List V):Prop:=
 ∀(w:World) (us:Array Value) (G:List Nat) (T X ok:Nat->Prop),LG w T->N9 P w ok T ms us.toList xs G->G.Nodup->(∀g∈G,g < w.heap.size/\¬X g)->(∀g,ok g->g < w.heap.size/\¬T g/\¬X g)->
  (∀g,X g->∃cur e,w.heap[g]?=some (.cells cur e (0,0)))->Calls P f us w (λe w'=>∃v,e=.returned v/\PK P ms w us xs G T X r os v w')
def LZ (b:Nat) (id:Id):Prop:=id.1=0/\b<=id.2
def KH (w:World) (g:Nat):Bd:=match w.heap[g]? with|some (.cells _ e _)=>⟨false,true,false,e,[]⟩|_=>⟨false,true,false,0,[]⟩
def WB (P:Program) (w:World) (g:Nat):G0:=match w.heap[g]? with|some (.cells cur e _)=>.Bl g cur.size 0 (P.cellsOf e)|_=>.emp
open Classical in
noncomputable def DC (b:Nat) (w:World) (X:Nat->Prop):St:=⟨λ_=>.undef,λid=>if id.1=0/\b<=id.2/\X (id.2 - b) then some (KH w (id.2 - b)) else none,0⟩
open Classical in
noncomputable def CE (b:Nat) (P:Program) (w:World) (X:Nat->Prop):AY:=λid=>if id.1=0/\b<=id.2/\X (id.2 - b) then some (WB P w (id.2 - b)) else none
theorem PL (b:Nat) (w:World) (X:Nat->Prop):Qs (LZ b) ⟨λ_=>.undef,λ_=>none,0⟩ (DC b w X):=by
 refine⟨⟨rfl,λid Zu=>?_,λ_ _=>rfl⟩,rfl,λid bk hd hb=>?_⟩
 .simp only[DC]
  rw[Ai (λh=>Zu ⟨h.1,h.2.1⟩)]
 .simp only[DC] at hb
  split at hb
  .injection hb with hb
   subst hb;unfold KH;split<;>rfl
  .cases hb
section
variable {P:Program} {M:X2} {C:Kf}
theorem PM {b:Nat} {w:World} {X T ok:Nat->Prop} {tmps:Array Value} {fl:List Nat} (hT:LG w T) (hX:∀g,X g->∃cur e,w.heap[g]?=some (.cells cur e (0,0))) (BM:∀g∈fl,g < w.heap.size/\¬X g) (Ct:fl.Nodup):
  Jo P w.heap.size T w tmps (DC b w X) (CE b P w X) (λid=>[id.2 - b]) fl ok:=by
 have key:∀id k,(DC b w X).heap id=some k->id.1=0/\b<=id.2/\X (id.2 - b)/\k=KH w (id.2 - b):=λid k hb=>by
  simp only[DC] at hb;split at hb
  .rename_i h;injection hb with hb;exact⟨h.1,h.2.1,h.2.2,hb.symm⟩
  .cases hb
 have lt:∀g,X g->g < w.heap.size:=λg hg=>by
  obtain⟨cur,e,h⟩:=hX g hg;exact (Hz.1 h).1
 refine⟨λt v hv=>.undef,λt ht=>rfl,λid k hb=>?_,λid k hb ho g hg=>?_,λid k hb ho hc g hg=>?_,λid Aw k k' hb ho Yx BP Yh g hg Yd=>?_,λid k hb ho=>by simp,λid Zu=>?_,⟨B4 _,hT.1,hT.2.1,λg hg=>hg.elim (hT.2.2 g) (λhh=>L7 hT.1 hh)⟩,λg hg=>(BM g hg).1,λid k hb ho g hg Yd=>?_,Ct⟩
 .obtain⟨h1,h2,h3,rfl⟩:=key id _ hb
  obtain⟨cur,e,h⟩:=hX _ h3;have hU:CE b P w X id=some (.Bl (id.2 - b) cur.size 0 (P.cellsOf e)):=by
   simp only[CE];rw[Ah ⟨h1,h2,h3⟩];simp only[WB,h]
  have DK:KH w (id.2 - b)=⟨false,true,false,e,[]⟩:=by simp only[KH,h]
  rw[hU,DK];exact .Cq rfl rfl rfl h (B4 _) (Cd _) (by simp) (by simp) rfl (λhf=>by cases hf) (λ_=>⟨rfl,λk x hx=>by simp at hx⟩)
 .obtain⟨h1,h2,h3,rfl⟩:=key id _ hb
  rw[List.mem_singleton.1 hg];exact lt _ h3
 .obtain⟨h1,h2,h3,rfl⟩:=key id _ hb
  obtain⟨cur,e,h⟩:=hX _ h3;obtain⟨g1,o1,c1,z1,hi,hc⟩:=hc;simp only[CE] at hi;rw[Ah ⟨h1,h2,h3⟩] at hi;simp only[WB,h] at hi;injection hi with hi;injection hi with _ _ hi _;omega
 .obtain⟨h1,h2,h3,_⟩:=key id _ hb
  obtain⟨KF,Pn,h3',_⟩:=key Aw _ Yx;have e1:=List.mem_singleton.1 hg;have e2:=List.mem_singleton.1 Yd;apply Yh;obtain⟨i1,i2⟩:=id;obtain⟨j1,j2⟩:=Aw;simp only at*;rw[h1,KF,show i2=j2 by omega]
 .simp only[CE] at Zu
  split at Zu
  .rename_i h;simp only[DC];omega
  .simp at Zu
 .obtain⟨h1,h2,h3,rfl⟩:=key id _ hb
  rw[List.mem_singleton.1 hg] at Yd;exact (BM _ Yd).2 h3
structure X7 (P:Program):Prop where
 mixed:P.follows .mixedOrders=true
 dst:∀(f:FuncId) (fn:Func) (c:Code),P.funcs[f]?=some fn->fn.body=some c->EH fn.ntmps c=true
 name:∀(f:FuncId) (fn:Func),P.funcs[f]?=some fn->(fn.name == "runtime.NumGoroutine")=false
def Ywf:List Value->Value
 | [u]=>u
 | l=>.tuple l.toArray
theorem Y0a {fn:Func} {tmps:Array Value} {w:World} {us:List Value} (h:(fn.results.toList.mapM (PJ tmps)).run P w=.ok us w):
  (results fn tmps).run P w=.ok (Ywf us) w:=by
 have e:results fn tmps=(fn.results.mapM (PJ tmps)) >>=λvs=>pure (if h:vs.size=1 then vs[0] else .tuple vs):=by
  unfold results
  congr 1
 rw[e,Array.mapM_eq_mapM_toList];simp only[Sem.run_bind,Sem.run_map,h,Result.andThen_ok,Sem.run_pure]
 match us with
 | []=>rfl
 | [u]=>rfl
 | u::v::l=>rfl
theorem Y6c {n m:Nat} (h:n<=m) {l:List Oper} (hl:LW n l=true):LW m l=true:=by
 unfold LW at hl ⊢;rw[Cb] at hl ⊢;intro o ho;have:=hl o ho;cases hd:o.dst with
 | none=>rfl
 | some d=>
  rw[hd] at this;simp only[Bj] at this ⊢;exact GU this h
theorem Y2h {n m:Nat} (h:n<=m):∀(c:Code),EH n c=true->EH m c=true:=by
 intro c
 induction c with
 | region id ops d=>exact Y6c h
 | seq a b vW vX=>intro hc;simp only[EH,Bg] at hc ⊢;exact⟨vW hc.1,vX hc.2⟩
 | cond x a b vW vX=>intro hc;simp only[EH,Bg] at hc ⊢;exact⟨vW hc.1,vX hc.2⟩
 | block i c ih=>intro hc;simp only[EH] at hc ⊢;exact ih hc
 | loop c ih=>intro hc;simp only[EH] at hc ⊢;exact ih hc
 | _=>intro _;rfl
theorem Gh.C2 {w:World} {ok ok' top:Nat->Prop} {v:List Value} {x:List V} {fp:List Nat} (h:Gh P w ok top v x fp) (ht:∀g,ok g->ok' g):Gh P w ok' top v x fp:=by
 induction h with
 | nil=>exact .nil
 | cons h _ ih=>exact .cons (h.C2 ht) ih
theorem Dz.PN {w:World} {ok top:Nat->Prop} {u:Value} {x:V} {fp:List Nat} (h:Dz P w ok top u x fp):∀rs,x≠.AW rs:=by
 rintro rs rfl;cases h
theorem Fp.of {w:World} {ok top:Nat->Prop} {us:List Value} {ys:List V} {fp:List Nat} (h:Gh P w ok top us ys fp):Fp P w ok top (Ywf us) (UZ ys) fp:=by
 cases h with
 | nil=>exact⟨#[],rfl,.nil⟩
 | @cons u x us xs f1 f2 h hs=>
  cases hs with
  | nil=>
   rw[Gu];have:=h.PN;cases x<;>first|exact h|exact absurd rfl (this _)
  | @cons v y Ma xs' f3 f4 h2 Dj=>exact⟨(u::v::Ma).toArray,rfl,.cons h (.cons h2 Dj)⟩
end
def PO (P:Program) (U:AY) (u:Value) (x y:V):Prop:=∀id len,x=.sl id 0 len->∃g o c e rows,y=.own e rows/\U id=some (.Bl g o c (P.cellsOf e))/\u=.slice (some ⟨g,o,none⟩) len c/\0 < len
def Bk (P:Program) (U:AY) (m:Yt) (u:Value) (x y:V):Prop:=
 match m with
 | .io=>∀id,x=.ptr id 0 0->∃cs g,y=.agg cs/\U id=some (.Bl g 0 1 cs.length)/\u=.pointer (some ⟨g,0,none⟩)
 | .Er=>(∃(us:Array Value) (xs ys:List V),thin x=.agg xs/\y=.agg ys/\u=.agg us/\us.size=xs.length/\ys.length=xs.length/\∀(j:Nat) (v:Value) (a b:V),us[j]?=some v->xs[j]?=some a->ys[j]?=some b->PO P U v a b)\/((∀cs,thin x≠.agg cs)/\(∀cs,y≠.agg cs)/\PO P U u (thin x) y)
 | _=>True
inductive Mb (P:Program) (U:AY):List Yt->List Value->List V->List V->Prop
 | nil {ms:List Yt}:Mb P U ms [] [] []
 | cons {ms:List Yt} {u:Value} {us:List Value} {x y:V} {xs ys:List V} (h:Bk P U (ms.headD .rd) u x y) (hs:Mb P U ms.tail us xs ys):Mb P U ms (u::us) (x::xs) (y::ys)
def DZ:V->List Id
 | .sl id 0 _=>[id]
 | _=>[]
def PQ:V->List Id
 | .agg cs=>cs.flatMap DZ
 | x=>DZ x
def GC (m:Yt) (x:V):List Id:=match m with
 | .io=>match x with|.ptr id 0 0=>[id]|_=>[]
 | .Er=>PQ (thin x)
 | _=>[]
def EJ:List Yt->List V->List Id
 | _,[]=>[]
 | ms,x::r=>GC (ms.headD .rd) x++EJ ms.tail r
section
variable {P:Program} {B:Nat} {io:Nat->Prop} {w w':World} {tmps:Array Value} {s s' s1:St} {U U':AY} {F F':Id->List Nat} {fl fl':List Nat} {ok ok' top:Nat->Prop}
theorem Yuo {t:Option TypeId} {x y:V} (h:s.AA t x=some (y,s')):(DZ x).Nodup/\∀id∈DZ x,s'.heap id=none/\∃b,s.heap id=some b:=by
 unfold DZ;split
 .rename_i id len
  refine⟨by simp,λAw Zu=>?_⟩;rw[List.mem_singleton.1 Zu];simp only[St.AA] at h;obtain⟨er,hw,he⟩:=AL.1 h;simp only[A6] at he;obtain⟨_,rfl⟩:=he;unfold St.whole at hw;obtain⟨b,hb,_⟩:=A9.1 hw;exact⟨Q5,b,hb⟩
 .exact⟨by simp,λid Zu=>by simp at Zu⟩
theorem WC {t:Option TypeId} {x y:V} (h:s.AA t x=some (y,s')):Wa s s':=by
 unfold St.AA at h;split at h
 .obtain⟨e,h1,he⟩:=AL.1 h
  simp only[A6] at he;rw[<-he.2];exact .refl _
 .simp only[AE,A6] at h;rw[<-h.2];exact .refl _
 .simp only[AE,A6] at h;rw[<-h.2];exact .refl _
 .simp only[AE,A6] at h;rw[<-h.2];exact .refl _
 .obtain⟨er,hw,he⟩:=AL.1 h
  simp only[A6] at he;rw[<-he.2];exact .kill _ _
 .cases h
theorem Ykg {a b:List Id} {x z y:St} (ha:a.Nodup/\∀id∈a,z.heap id=none/\∃k,x.heap id=some k) (hb:b.Nodup/\∀id∈b,y.heap id=none/\∃k,z.heap id=some k) (h1:Wa x z) (h2:Wa z y):(a++b).Nodup/\∀id∈a++b,y.heap id=none/\∃k,x.heap id=some k:=by
 refine⟨EC.2 ⟨ha.1,hb.1,λi hi j hj e=>?_⟩,λid Zu=>?_⟩
 .subst e
  obtain⟨k,hk⟩:=(hb.2 i hj).2;rw[(ha.2 i hi).1] at hk;cases hk
 .rcases BT.1 Zu with h|h
  .exact⟨h2.none (ha.2 id h).1,(ha.2 id h).2⟩
  .obtain⟨k,hk⟩:=(hb.2 id h).2
   exact⟨(hb.2 id h).1,k,h1.sub id k hk⟩
theorem Ydb:∀{xs:List V} {s s':St} {ts:List (Option TypeId)} {ys:List V},s.AK ts xs=some (ys,s')->((xs.flatMap DZ).Nodup/\∀id∈xs.flatMap DZ,s'.heap id=none/\∃b,s.heap id=some b)/\Wa s s':=by
 intro xs
 induction xs with
 | nil=>
  intro s s' ts ys h;simp only[St.AK,AE,A6] at h;rw[<-h.2];exact⟨⟨by simp,λid Zu=>by simp at Zu⟩,.refl _⟩
 | cons x xs ih=>
  intro s s' ts ys h;simp only[St.AK] at h;obtain⟨⟨y1,s1⟩,h1,h⟩:=A9.1 h;obtain⟨⟨y2,s2⟩,h2,h⟩:=AL.1 h;simp only[A6] at h;obtain⟨_,rfl⟩:=h;obtain⟨i1,l1⟩:=ih h2;rw[FE];exact⟨Ykg (Yuo h1) i1 (WC h1) l1,(WC h1).trans l1⟩
theorem Ysu {ts:List (Option TypeId)} {id:Id} {ys:List V} (h:s.Bv ts id=some (ys,s')):(s'.heap id=none/\∃b,s.heap id=some b)/\Wa s s':=by
 unfold St.Bv at h;obtain⟨b,hb,h⟩:=A9.1 h;split at h
 .split at h
  .have:=(Ydb h).2
   exact⟨⟨this.none Q5,b,hb⟩,(Wa.kill s id).trans this⟩
  .cases h
 .cases h
theorem Z63:∀{xs:List V} {s s':St} {ts:List (Option TypeId)} {ys:List V},s.AQ ts xs=some (ys,s')->ys.length=xs.length/\Wa s s':=by
 intro xs
 induction xs with
 | nil=>
  intro s s' ts ys h;simp only[St.AQ,AE,A6] at h;rw[<-h.1,<-h.2];exact⟨rfl,.refl _⟩
 | cons x xs ih=>
  intro s s' ts ys h;simp only[St.AQ] at h;obtain⟨⟨y1,s1⟩,h1,h⟩:=A9.1 h;obtain⟨⟨y2,s2⟩,h2,h⟩:=AL.1 h;simp only[A6] at h;obtain⟨rfl,rfl⟩:=h;obtain⟨i1,l1⟩:=ih h2;refine⟨by simp[i1],Wa.trans ?_ l1⟩;unfold St.Bh at h1;split at h1
  .obtain⟨⟨cs,s4⟩,h3,he⟩:=AL.1 h1
   simp only[A6] at he;obtain⟨_,rfl⟩:=he;exact (Ysu h3).2
  .exact WC h1
theorem Yrh {ts:List (Option TypeId)} {id:Id} {ys:List V} (h:s.Be ts id=some (ys,s')):(s'.heap id=none/\∃b,s.heap id=some b)/\Wa s s':=by
 unfold St.Be at h;obtain⟨b,hb,h⟩:=A9.1 h;split at h
 .split at h
  .have:=(Z63 h).2
   exact⟨⟨this.none Q5,b,hb⟩,(Wa.kill s id).trans this⟩
  .cases h
 .cases h
theorem Ycq {ts:List (Option TypeId)} {x y:V} (h:s.Ba ts x=some (y,s')):((PQ x).Nodup/\∀id∈PQ x,s'.heap id=none/\∃b,s.heap id=some b)/\Wa s s':=by
 unfold St.Ba at h;split at h
 .obtain⟨⟨ys,s2⟩,h1,he⟩:=AL.1 h
  simp only[A6] at he;obtain⟨_,rfl⟩:=he;exact Ydb h1
 .rename_i Yh
  refine⟨?_,WC h⟩;unfold PQ;split
  .rename_i cs;exact absurd rfl (Yh cs)
  .exact Yuo h
theorem vY:∀{xs:List V} {s s':St} {ts:List TypeId} {ms:List Yt} {ys:List V},s.Bs P ts ms xs=some (ys,s')->((EJ ms xs).Nodup/\∀id∈EJ ms xs,s'.heap id=none/\∃b,s.heap id=some b)/\Wa s s':=by
 intro xs
 induction xs with
 | nil=>
  intro s s' ts ms ys h;simp only[St.Bs,AE,A6] at h;rw[<-h.2];exact⟨⟨by simp[EJ],λid Zu=>by simp[EJ] at Zu⟩,.refl _⟩
 | cons x xs ih=>
  intro s s' ts ms ys h;simp only[St.Bs] at h;obtain⟨⟨y1,s1⟩,h1,h⟩:=A9.1 h;obtain⟨⟨y2,s2⟩,h2,h⟩:=AL.1 h;simp only[A6] at h;obtain⟨_,rfl⟩:=h;obtain⟨i1,l1⟩:=ih h2;have one:((GC (ms.headD .rd) x).Nodup/\∀id∈GC (ms.headD .rd) x,s1.heap id=none/\∃b,s.heap id=some b)/\Wa s s1:=by
   unfold St.Db at h1;unfold GC;split at h1
   .rename_i hm
    rw[hm];simp only[AE,A6] at h1;rw[<-h1.2];exact⟨⟨by simp,λid Zu=>by simp at Zu⟩,.refl _⟩
   .rename_i hm
    rw[hm];split at h1
    .obtain⟨⟨cs,s4⟩,h3,he⟩:=AL.1 h1
     simp only[A6] at he;obtain⟨_,rfl⟩:=he;have:=Yrh h3;exact⟨⟨by simp,λid Zu=>by rw[List.mem_singleton.1 Zu];exact this.1⟩,this.2⟩
    .cases h1
   .rename_i hm
    rw[hm];exact⟨⟨by simp,λid Zu=>by simp at Zu⟩,(Ycq h1).2⟩
   .rename_i hm
    rw[hm];exact Ycq h1
  unfold EJ;exact⟨Ykg one.1 i1 one.2 l1,one.2.trans l1⟩
theorem Y5a (h:Rel P B io w tmps s U F fl) (hl:Wa s s1) {u:Value} {x y:V} {t:Option TypeId} (hu:En w (AH s U w) U u x) (hx:∀id,x≠.sl id 0 0) (hg:s1.AA t x=some (y,s')):PO P U u x y:=by
 rintro id len rfl;simp only[St.AA] at hg;obtain⟨⟨e,rows⟩,hw,he⟩:=AL.1 hg;simp only[A6] at he;obtain⟨rfl,_⟩:=he;unfold St.whole at hw;obtain⟨b,hb,hw⟩:=A9.1 hw;split at hw
 .rename_i hc
  simp only[AE,A6] at hw;obtain⟨rfl,rfl⟩:=hw;have hB:=h.heap id b (hl.sub id b hb);cases hu with
  | sle=>exact absurd rfl (hx id)
  | @sl _ g o c sz _ _ hU Cl=>
   have Yn:0 < len:=tD λe=>by subst e;exact hx id rfl
   rw[hU] at hB;unfold Xq at hB;rw[hc.1,hc.2.1] at hB;rcases hB with⟨hi,_⟩|⟨g',o',c',cur,hi,_⟩
   .cases hi
   .cases hi
    exact⟨g,o,c,b.el,_,rfl,hU,by simp,Yn⟩
 .cases hw
theorem Yt4 (x:V):∀id,BU x≠.sl id 0 0:=λid e=>by
 unfold BU at e;split at e
 .cases e
 .rename_i Yh;subst e;exact Yh id 0 rfl
theorem Yrw:∀{xs:List V} {s s':St} {ts:List (Option TypeId)} {ys:List V},s.AK ts xs=some (ys,s')->ys.length=xs.length/\∀(j:Nat) (a b:V),xs[j]?=some a->ys[j]?=some b->∃s1 s2 t,Wa s s1/\s1.AA t a=some (b,s2):=by
 intro xs
 induction xs with
 | nil=>
  intro s s' ts ys h;simp only[St.AK,AE,A6] at h;rw[<-h.1];exact⟨rfl,λj a b ha=>by simp at ha⟩
 | cons x xs ih=>
  intro s s' ts ys h;simp only[St.AK] at h;obtain⟨⟨y1,s1⟩,h1,h⟩:=A9.1 h;obtain⟨⟨y2,s2⟩,h2,h⟩:=AL.1 h;simp only[A6] at h;obtain⟨rfl,rfl⟩:=h;obtain⟨i1,i2⟩:=ih h2;refine⟨by simp[i1],λj a b ha hb=>?_⟩;cases j with
  | zero=>
   have e1:x=a:=by simpa using ha
   have e2:y1=b:=by simpa using hb
   subst e1;subst e2;exact⟨s,s1,_,.refl _,h1⟩
  | succ j=>
   obtain⟨s3,s4,t,k1,k2⟩:=i2 j a b (by simpa using ha) (by simpa using hb);exact⟨s3,s4,t,(WC h1).trans k1,k2⟩
theorem Y8z (h:Rel P B io w tmps s U F fl):∀{xs:List V} {us:List Value} {s1 s':St} {ts:List TypeId} {ms:List Yt} {ys:List V},Wa s s1->us.length=xs.length->(∀(j:Nat) (u:Value) (x:V),us[j]?=some u->xs[j]?=some x->En w (AH s U w) U u x)->
  s1.Bs P ts ms xs=some (ys,s')->Mb P U ms us xs ys:=by
 intro xs
 induction xs with
 | nil=>
  intro us s1 s' ts ms ys hl Yn X3 hg;have:us=[]:=Gt (by simpa using Yn);subst this;simp only[St.Bs,AE,A6] at hg;rw[<-hg.1];exact .nil
 | cons x xs ih=>
  intro us s1 s' ts ms ys hl Yn X3 hg
  match us,Yn with
  | u::us,Yn=>
   have K1:=vY hg;simp only[St.Bs] at hg;obtain⟨⟨y,s2⟩,h1,hg⟩:=A9.1 hg;obtain⟨⟨zs,s3⟩,h2,hg⟩:=AL.1 hg;simp only[A6] at hg;obtain⟨rfl,rfl⟩:=hg;have hu:=X3 0 u x rfl rfl;have CJ:Wa s1 s2:=by
    have:=(vY (P:=P) (xs:=[x]) (s:=s1) (s':=s2) (ts:=ts) (ms:=ms) (ys:=[y]) (by simp only[St.Bs];rw[h1];rfl)).2;exact this
   refine .cons ?_ (ih (hl.trans CJ) (by simpa using Yn) (λj v z hv hz=>X3 (j+1) v z (by simpa using hv) (by simpa using hz)) h2);unfold St.Db at h1;unfold Bk;split at h1
   .rename_i hm;rw[hm];exact trivial
   .rename_i hm
    rw[hm];rintro id rfl;simp only at h1;obtain⟨⟨cs,s4⟩,h3,he⟩:=AL.1 h1;simp only[A6] at he;obtain⟨rfl,rfl⟩:=he;unfold St.Be at h3;obtain⟨b,hb,h3⟩:=A9.1 h3;split at h3
    .rename_i hc
     split at h3
     .rename_i row hr
      have hB:=h.heap id b (hl.sub id b hb);unfold Xq at hB;rw[hc.1] at hB;obtain⟨_,g,cur,e,Cg,hi,DW,Ch,hs,_⟩:=hB;rw[hr] at Ch;injection Ch with Ch _;subst Ch;generalize hq:V.ptr id 0 0=q at hu;cases hu<;>cases hq;rename_i g' o' c' sz hU;rw[hi] at hU;injection hU with hU;injection hU with e1 e2 e3 e4;subst e1;subst e2;exact⟨cs,g,rfl,by rw[hi,(Z63 h3).1],by simp⟩
     .cases h3
    .cases h3
   .rename_i hm;rw[hm];exact trivial
   .rename_i hm
    rw[hm];have PR:=hu.thin;have Yh:∀cs,thin x=.agg cs->∀c∈cs,∀id,c≠.sl id 0 0:=λcs BO c hc id=>by
     unfold thin at BO;split at BO
     .injection BO with BO
      subst BO;obtain⟨z,_,rfl⟩:=Dx.1 hc;exact Yt4 z id
     .rename_i Ii
      unfold BU at BO;split at BO
      .cases BO
      .exact absurd BO (Ii cs)
    have WD:(∀cs,thin x≠.agg cs)->∀id,thin x≠.sl id 0 0:=λIi id=>by
     unfold thin at Ii ⊢;split
     .simp
     .exact Yt4 x id
    generalize thin x=tx at h1 PR Yh WD;unfold St.Ba at h1;split at h1
    .rename_i cs
     obtain⟨⟨ys,s4⟩,h3,he⟩:=AL.1 h1;simp only[A6] at he;obtain⟨rfl,rfl⟩:=he;cases PR with
     | @agg vs _ Ww Cl hr=>
      obtain⟨g1,g2⟩:=Yrw h3;refine .inl ⟨vs,cs,ys,rfl,rfl,rfl,Ww,g1,λj v a b hv ha hb=>?_⟩;obtain⟨s5,s6,t,k1,k2⟩:=g2 j a b ha hb;exact Y5a h (hl.trans k1) (hr j v a hv ha) (Yh cs rfl a (Ep ha)) k2
    .rename_i Ii
     refine .inr ⟨Ii,λcs e=>?_,Y5a h hl PR (WD Ii) h1⟩;subst e;unfold St.AA at h1;split at h1<;>simp at h1
end
section
variable {P:Program} {B:Nat} {io:Nat->Prop} {w w':World} {tmps:Array Value} {s s' s1:St} {U U':AY} {F F':Id->List Nat} {fl fl':List Nat} {ok ok' top:Nat->Prop}
theorem Xbe {f1:List Nat} (h:Jo P B io w tmps s U F (f1++fl) ok) {id:Id} {len:Nat} {u:Value} {y:V} {e:TypeId} {rows Bt:List (List V)} (hb:PO P U u (.sl id 0 len) (.own e rows)) (hO:Nt P w e u Bt f1) (ht:∀g,f1.head?=some g->top g) (X8:∀g,top g->io g\/B<=g) (hn:s.heap id=none):
  ∃F',C3 P B io w tmps s U fl ok top (λAw=>Aw=id) (s.A5 id ⟨false,true,true,e,Bt⟩) U F':=by
 obtain⟨g,o,c,e',r,hy,hU,hu,Yn⟩:=hb id len rfl;injection hy with hy _;subst hy;rcases hO with⟨A,rfl,rfl,rfl⟩|⟨g',o',c',cur,BQ,hv,hg,hl,hm,BW,hz,SJ,rfl⟩
 .injection hu with _ hu _;omega
 .rw[hu] at hv
  injection hv with hv CJ hc;injection hv with hv;injection hv with e1 e2 _;subst e1;subst e2;subst hc;have Yk:id.1<=s.ep:=h.C5 id (by rw[hU];rfl);refine⟨_,h.add hn Yk (λ_ _ h=>h) (λ_ _=>rfl) (by rw[hU];exact .Cq rfl rfl rfl hg hl hm BW hz rfl (λ_=>SJ) (λhf=>by cases hf)) (λ_ g' Yd=>X8 g' (ht g' Yd)),λ_ _ h=>h,λ_ h=>.inl h,rfl,rfl,λAw e=>X1 e,λg' Yd=>?_⟩;rcases VK (λ_ _=>rfl) Yd with h1|⟨_,o2,c2,z2,h1⟩
  .exact .inl h1
  .rw[hU] at h1
   injection h1 with h1;injection h1 with h1;subst h1;exact .inr (ht _ rfl)
theorem Yc8:∀(xs:List V) {us:List Value} {ys ns:List V} {s s':St} {F:Id->List Nat} {fo fl:List Nat},Jo P B io w tmps s U F (fo++fl) ok->Hg P w top us ys ns fo->us.length=xs.length->ys.length=xs.length->
  (∀(j:Nat) (v:Value) (a b:V),us[j]?=some v->xs[j]?=some a->ys[j]?=some b->PO P U v a b)->(∀g,top g->io g\/B<=g)->(xs.flatMap DZ).Nodup->(∀id∈xs.flatMap DZ,s.heap id=none)->s.AO xs ns=some s'->
  ∃F',C3 P B io w tmps s U fl ok top (λid=>id∈xs.flatMap DZ) s' U F':=by
 intro xs
 induction xs with
 | nil=>
  intro us ys ns s s' F fo fl h ho hl hly _ _ _ _ hs;simp only[St.AO,AE] at hs;subst hs;have:us=[]:=Gt (by simpa using hl);subst this;cases ho;exact⟨F,(C3.refl h).mono (λ_ h=>h.elim)⟩
 | cons x xs ih=>
  intro us ys ns s s' F fo fl h ho hl hly DK X8 CU EK hs;rw[FE] at CU EK;have SW:=EC.1 CU;have rest:∀{u:Value} {Ma:List Value} {y:V} {PF:List V} {n:V} {WE:List V} {s2:St} {F2:Id->List Nat} {f2:List Nat},us=u::Ma->ys=y::PF->Jo P B io w tmps s2 U F2 (f2++fl) ok->Hg P w top Ma PF WE f2->(∀id∈xs.flatMap DZ,s2.heap id=none)->s2.AO xs WE=some s'->
    ∃F',C3 P B io w tmps s2 U fl ok top (λid=>id∈xs.flatMap DZ) s' U F':=by
   intro u Ma y PF n WE s2 F2 f2 e1 e2 h2 H9 P7 Dj;subst e1;subst e2;exact ih h2 H9 (by simpa using hl) (by simpa using hly) (λj v a b hv ha hb=>DK (j+1) v a b (by simpa using hv) (by simpa using ha) (by simpa using hb)) X8 SW.2.1 P7 Dj
  have vZ:∀id∈xs.flatMap DZ,s.heap id=none:=λid Zu=>EK id (Ds _ Zu);cases ho with
  | nil=>simp at hl
  | @own u e rows Bt Ma PF WE f1 f2 hO ht Dj=>
   rw[List.append_assoc] at h;unfold St.AO at hs;split at hs
   .rename_i heq;cases heq
   .rename_i id len os1 e2 r2 ns2 KC PS
    injection KC with a1 a2;subst a1;subst a2;injection PS with b1 b2;injection b1 with b1 b3;subst b1;subst b3;subst b2;obtain⟨F1,t1⟩:=Xbe (fl:=f2++fl) (y:=.undef) h (DK 0 u _ _ rfl rfl rfl) hO ht X8 (EK id (CC _ (by simp[DZ])));obtain⟨F2,t2⟩:=rest (n:=.undef) rfl rfl t1.rel Dj (λAw Hh=>by
     rw[t1.heap Aw (λe=>by
      subst e;exact SW.2.2 _ (by simp[DZ]) _ Hh rfl)]
     exact vZ Aw Hh) hs
    refine⟨F2,(t1.trans t2).mono (λAw Hh=>?_)⟩;rw[FE];rcases Hh with rfl|Hh
    .exact CC _ (by simp[DZ])
    .exact Ds _ Hh
   .rename_i KC PS
    injection KC with a1 a2;subst a1;subst a2;injection PS with b1 b2;subst b2;obtain⟨F2,t2⟩:=rest (n:=.undef) rfl rfl (h.less (HT _ _)) Dj vZ hs;exact⟨F2,t2.mono (λAw Hh=>by rw[FE];exact Ds _ Hh)⟩
   .cases hs
  | @skip u y Ma PF WE f hx Dj=>
   unfold St.AO at hs;split at hs
   .rename_i heq;cases heq
   .rename_i KC PS
    injection PS with b1 b2;cases b1
   .rename_i KC PS
    injection KC with a1 a2;subst a1;subst a2;injection PS with b1 b2;subst b2;obtain⟨F2,t2⟩:=rest (n:=.undef) rfl rfl h Dj vZ hs;exact⟨F2,t2.mono (λAw Hh=>by rw[FE];exact Ds _ Hh)⟩
   .cases hs
theorem Xb9 {fo:List Nat} (h:Jo P B io w tmps s U F (fo++fl) ok) {m:Yt} {e k:Nat} {u:Value} {x y o:V} (hb:Bk P U m u x y) (ho:LY P w ok top m u y o fo) (X8:∀g,top g->io g\/B<=g) (Yk:e<=s.ep) (Y7:∀j,64*k<=j->j < 64*k+64->U (e,j)=none/\s.heap (e,j)=none)
  (CU:(GC m x).Nodup) (EK:∀id∈GC m x,s.heap id=none) (hs:s.back m e k x o=some s'):
  ∃U' F',C3 P B io w tmps s U fl ok top (λid=>(id.1=e/\64*k<=id.2/\id.2 < 64*k+64)\/id∈GC m x) s' U' F':=by
 unfold St.back at hs;split at hs
 .simp only[AE] at hs
  subst hs;have:fo=[]:=ho;subst this;exact⟨U,F,(C3.refl h).mono (λ_ h=>h.elim)⟩
 .simp only[AE] at hs
  subst hs;have:fo=[]:=ho;subst this;exact⟨U,F,(C3.refl h).mono (λ_ h=>h.elim)⟩
 .split at hs
  .rename_i id G6
   split at hs
   .rename_i hl62
    obtain⟨⟨zs,s2⟩,h1,rfl⟩:=AL.1 hs;obtain⟨cs,g,rfl,hU,hu⟩:=hb id rfl;obtain⟨cs0,cs1,e1,e2,Yn,g',cur,et,BQ,Ck,DW,G7,rfl,I0⟩:=ho;injection e1 with e1;injection e2 with e2;subst e1;subst e2;rw[hu] at Ck;injection Ck with Ck;injection Ck with Ck;injection Ck with Ck _ _;subst Ck;have vB:((BQ++([g]++fl)):List Nat).Perm (g::BQ++fl):=SC;obtain⟨U1,F1,t,l,c,en⟩:=Yan G6 (fl:=[g]++fl) (h.perm vB) G7 X8 Yk (λj hj Z6=>Y7 j hj (by omega)) h1;have wA:s.heap id=none:=EK id (by simp[GC]);have hidJ:¬(id.1=e/\64*k<=id.2/\id.2 < 64*k+wt G6):=λhh=>by
     have:=(Y7 id.2 hh.2.1 (by omega)).1;rw[<-hh.1] at this;rw[show (id.1,id.2)=id from rfl,hU] at this;cases this
    have Ez:U1 id=some (.Bl g 0 1 zs.length):=by
     rw[t.ext id _ hU];have:zs.length=cs.length:=by rw[<-l,<-Yn];exact G7.length
     rw[this]
    have HA:=t.rel.add (fp:=[g]) (fl:=fl) (id:=id) (U':=U1) (b:=⟨true,true,true,0,[zs]⟩) (by rw[t.heap _ hidJ];exact wA) (by rw[t.ep];exact h.C5 id (by rw[hU];rfl)) (λ_ _ h=>h) (λ_ _=>rfl) (by
     rw[Ez];exact .Ig rfl rfl rfl DW rfl (by simpa using l) (λj v z hv hz=>en j v z (by simpa using hv) hz) c rfl) (λ_ g' Yd=>by
     have:g=g':=by simpa using Yd
     subst this;exact X8 g I0)
    refine⟨U1,_,⟨HA,t.ext,λAw hi=>?_,t.env,t.ep,λAw Hh=>?_,λg' Yd=>?_⟩⟩
    .rcases t.C5 Aw hi with hh|hh
     .exact .inl hh
     .exact .inr (.inl ⟨hh.1,hh.2.1,by omega⟩)
    .rw[X1 (λe=>Hh (.inr (by rw[e];simp[GC])))]
     exact t.heap Aw (λhh=>Hh (.inl ⟨hh.1,hh.2.1,by omega⟩))
    .rcases VK (λ_ _=>rfl) Yd with h3|⟨_,o2,c2,z2,h3⟩
     .exact t.AJ g' h3
     .rw[Ez] at h3
      injection h3 with h3;injection h3 with h3;subst h3;exact .inr I0
   .cases hs
  .cases hs
 .unfold Bk at hb
  unfold LY at ho;unfold GC at CU EK ⊢;simp only at hb ho CU EK ⊢;rcases hb with⟨us,xs,ys,ht,rfl,rfl,Ww,SL,DK⟩|⟨wB,hny,DK⟩
  .rw[ht] at hs CU EK ⊢
   simp only[PQ] at CU EK ⊢;rcases ho with⟨Ma,cs,ns,e1,e2,rfl,hO⟩|⟨Yh,_⟩
   .injection e1 with e1
    injection e2 with e2;subst e1;subst e2;simp only at hs;obtain⟨F',t⟩:=Yc8 xs h hO (by simpa using Ww) SL (λj v a b hv ha hb=>DK j v a b (by simpa using hv) ha hb) X8 CU EK hs;exact⟨U,F',t.mono (λid Zu=>.inr Zu)⟩
   .exact absurd rfl (Yh ys)
  .rcases ho with⟨Ma,cs,ns,e1,_⟩|⟨_,hO⟩
   .exact absurd e1 (hny cs)
   .generalize thin x=tx at hs CU EK wB DK
    have H5:s.AO [tx] [o]=some s':=by
     split at hs
     .rename_i cs ns;exact absurd rfl (wB cs)
     .exact hs
    have wC:([tx].flatMap DZ)=DZ tx:=by simp
    have hm:PQ tx=DZ tx:=by
     cases tx<;>first|rfl|exact absurd rfl (wB _)
    rw[hm] at CU EK;obtain⟨F',t⟩:=Yc8 [tx] h hO rfl rfl (λj v a b hv ha hb=>by
     cases j with
     | zero=>
      have e1:u=v:=by simpa using hv
      have e2:tx=a:=by simpa using ha
      have e3:y=b:=by simpa using hb
      subst e1;subst e2;subst e3;exact DK
     | succ j=>simp at hv) X8 (by rw[wC];exact CU) (by rw[wC];exact EK) H5
    exact⟨U,F',t.mono (λid Zu=>.inr (by rw[hm];rw[wC] at Zu;exact Zu))⟩
theorem Y0k {m:Yt} {u:Value} {x y:V} (hb:Bk P U m u x y) {w:World} (hu:En w ok U u x):∀id∈GC m x,(U id).isSome=true:=by
 intro id Zu;unfold GC at Zu;split at Zu
 .split at Zu
  .rename_i Aw
   rw[List.mem_singleton.1 Zu];obtain⟨cs,g,_,hU,_⟩:=hb Aw rfl;rw[hU];rfl
  .simp at Zu
 .have PR:=hu.thin
  have one:∀{v:Value} {c:V},En w ok U v c->id∈DZ c->(U id).isSome=true:=λ{v c} hv hc=>by
   unfold DZ at hc;split at hc
   .rw[List.mem_singleton.1 hc]
    cases hv with
    | sl h=>rw[h];rfl
    | sle h=>exact h
   .simp at hc
  unfold PQ at Zu;split at Zu
  .rename_i cs BO
   rw[BO] at PR;obtain⟨c,hc,Zu⟩:=List.mem_flatMap.1 Zu;cases PR with
   | @agg vs _ hl _ hr=>
    obtain⟨j,hj⟩:=H0 hc;have Z6:=(CX.1 hj).1;exact one (hr j _ c (Var (by omega)) hj) Zu
  .exact one PR Zu
 .simp at Zu
theorem Y9w {e:Nat}:∀(xs:List V) {us:List Value} {ys os:List V} {ms:List Yt} {k:Nat} {s s':St} {U:AY} {F:Id->List Nat} {fo fl:List Nat},Jo P B io w tmps s U F (fo++fl) ok->Mb P U ms us xs ys->Fo P w ok top ms us ys os fo->
  (∀(j:Nat) (u:Value) (x:V),us[j]?=some u->xs[j]?=some x->∃w ok,En w ok U u x)->(∀g,top g->io g\/B<=g)->e<=s.ep->(∀j,64*k<=j->j < 64*(k+xs.length)->U (e,j)=none/\s.heap (e,j)=none)->
  (EJ ms xs).Nodup->(∀id∈EJ ms xs,s.heap id=none)->s.BF e ms k xs os=some s'->
  ∃U' F',C3 P B io w tmps s U fl ok top (λid=>(id.1=e/\64*k<=id.2/\id.2 < 64*(k+xs.length))\/id∈EJ ms xs) s' U' F':=by
 intro xs
 induction xs with
 | nil=>
  intro us ys os ms k s s' U F fo fl h hb ho X3 X8 Yk Y7 CU EK hs;cases hb;cases ho;simp only[St.BF,AE] at hs;subst hs;exact⟨U,F,(C3.refl h).mono (λ_ h=>h.elim)⟩
 | cons x xs ih=>
  intro us ys os ms k s s' U F fo fl h hb ho X3 X8 Yk Y7 CU EK hs;simp only[AV] at Y7;cases hb with
  | @cons _ u us _ y _ ys hb KA=>
   cases ho with
   | @cons _ _ _ _ o _ os f1 f2 ho wD=>
    simp only[St.BF] at hs;obtain⟨s1,h1,hs⟩:=A9.1 hs;unfold EJ at CU EK;have SW:=EC.1 CU;rw[List.append_assoc] at h;obtain⟨U1,F1,t1⟩:=Xb9 h hb ho X8 Yk (λj hj Z6=>Y7 j hj (by omega)) SW.1 (λid Zu=>EK id (CC _ Zu)) h1;have Vi:∀id∈EJ ms.tail xs,(U id).isSome=true:=by
     have key:∀{xs:List V} {ms:List Yt} {us:List Value} {ys:List V},Mb P U ms us xs ys->(∀(j:Nat) (u:Value) (x:V),us[j]?=some u->xs[j]?=some x->∃w ok,En w ok U u x)->∀id∈EJ ms xs,(U id).isSome=true:=by
      intro xs ms us ys hb
      induction hb with
      | nil=>intro _ id Zu;simp[EJ] at Zu
      | cons h _ ih=>
       intro X3 id Zu;unfold EJ at Zu;rcases BT.1 Zu with Zu|Zu
       .obtain⟨w',PT,hu⟩:=X3 0 _ _ rfl rfl
        exact Y0k h hu id Zu
       .exact ih (λj u x hu hx=>X3 (j+1) u x (by simpa using hu) (by simpa using hx)) id Zu
     exact key KA (λj u x hu hx=>X3 (j+1) u x (by simpa using hu) (by simpa using hx))
    have Xce:∀id∈GC (ms.headD .rd) x,(U id).isSome=true:=λid Zu=>by
     obtain⟨w',PT,hu⟩:=X3 0 _ _ rfl rfl;exact Y0k hb hu id Zu
    have WG:∀j,64*(k+1)<=j->j < 64*(k+1+xs.length)->U1 (e,j)=none/\s1.heap (e,j)=none:=λj hj Z6=>by
     obtain⟨a1,a2⟩:=Y7 j (by omega) (by omega);have WH:¬((((e,j):Id).1=e/\64*k<=((e,j):Id).2/\((e,j):Id).2 < 64*k+64)\/(e,j)∈GC (ms.headD .rd) x):=λhh=>by
      rcases hh with hh|hh
      .have:=hh.2.2;simp only at this;omega
      .have:=Xce _ hh;rw[a1] at this;cases this
     refine⟨?_,by rw[t1.heap _ WH];exact a2⟩;cases hr:U1 (e,j) with
     | none=>rfl
     | some i=>
      rcases t1.C5 (e,j) (by rw[hr];rfl) with hh|hh
      .rw[a1] at hh;cases hh
      .exact absurd hh WH
    have WI:Mb P U1 ms.tail us xs ys:=by
     have ce:∀{v:Value} {a b:V},PO P U v a b->PO P U1 v a b:=λhb id len hx=>by
      obtain⟨g,o,c,e,rows,h1,h2,h3⟩:=hb id len hx;exact⟨g,o,c,e,rows,h1,t1.ext _ _ h2,h3⟩
     have one:∀{m:Yt} {u:Value} {x y:V},Bk P U m u x y->Bk P U1 m u x y:=λ{m u x y} hb=>by
      cases m
      .exact trivial
      .intro id hx
       obtain⟨cs,g,h1,h2,h3⟩:=hb id hx;exact⟨cs,g,h1,t1.ext _ _ h2,h3⟩
      .exact trivial
      .rcases hb with⟨us,xs,ys,h1,h2,h3,h4,h5,h6⟩|⟨h1,h2,h3⟩
       .exact .inl ⟨us,xs,ys,h1,h2,h3,h4,h5,λj v a b hv ha hb=>ce (h6 j v a b hv ha hb)⟩
       .exact .inr ⟨h1,h2,ce h3⟩
     have key:∀{xs:List V} {ms:List Yt} {us:List Value} {ys:List V},Mb P U ms us xs ys->Mb P U1 ms us xs ys:=by
      intro xs ms us ys hb
      induction hb with
      | nil=>exact .nil
      | cons h _ ih=>exact .cons (one h) ih
     exact key KA
    obtain⟨U2,F2,t2⟩:=ih t1.rel WI wD (λj u x hu hx=>by
     obtain⟨w',PT,Ck⟩:=X3 (j+1) u x (by simpa using hu) (by simpa using hx);exact⟨w',PT,Ck.ext (λ_ h=>h) t1.ext⟩) X8 (by rw[t1.ep];exact Yk) WG SW.2.1 (λid Zu=>by
     rw[t1.heap id (λhh=>by
      rcases hh with hh|hh
      .have:=(Y7 id.2 hh.2.1 (by omega)).1
       rw[<-hh.1,show (id.1,id.2)=id from rfl] at this;have h2:=Vi id Zu;rw[this] at h2;cases h2
      .exact SW.2.2 id hh id Zu rfl)]
     exact EK id (Ds _ Zu)) hs
    refine⟨U2,F2,(t1.trans t2).mono (λid Zu=>?_)⟩;rcases Zu with (Zu|Zu)|(Zu|Zu)
    .exact .inl ⟨Zu.1,Zu.2.1,by simp only[AV];omega⟩
    .exact .inr (by unfold EJ;exact CC _ Zu)
    .exact .inl ⟨Zu.1,by omega,by simp only[AV];omega⟩
    .exact .inr (by unfold EJ;exact Ds _ Zu)
theorem Y38 {e:Nat}:∀(xs:List V) {us:List Value} {k:Nat} {fp fl:List Nat} {s s':St} {U:AY} {F:Id->List Nat} {ys:List V},Jo P B io w tmps s U F (fp++fl) ok->Gh P w ok top us xs fp->(∀g,top g->io g\/B<=g)->e<=s.ep->
  (∀j,64*k<=j->j < 64*(k+xs.length)->U (e,j)=none/\s.heap (e,j)=none)->s.Bw e k xs=some (ys,s')->
  ∃U' F',C3 P B io w tmps s U fl ok top (λid=>id.1=e/\64*k<=id.2/\id.2 < 64*(k+xs.length)) s' U' F'/\us.length=ys.length/\(∀(j:Nat) (u:Value) (y:V),us[j]?=some u->ys[j]?=some y->En w ok U' u y):=by
 intro xs
 induction xs with
 | nil=>
  intro us k fp fl s s' U F ys h hg X8 Yk Y7 ht;cases hg;simp only[St.Bw,AE,A6] at ht;obtain⟨rfl,rfl⟩:=ht;exact⟨U,F,(C3.refl h).mono (λ_ h=>h.elim),rfl,λj u y hu=>by simp at hu⟩
 | cons x xs ih=>
  intro us k fp fl s s' U F ys h hg X8 Yk Y7 ht;simp only[AV] at Y7;cases hg with
  | @cons u _ us _ f1 f2 hg VL=>
   simp only[St.Bw] at ht;obtain⟨⟨y,s1⟩,h1,ht⟩:=A9.1 ht;obtain⟨⟨zs,s2⟩,h2,ht⟩:=AL.1 ht;simp only[A6] at ht;obtain⟨rfl,rfl⟩:=ht;simp only at h2;obtain⟨U1,F1,t1,e1⟩:=vA (fl:=f2++fl) (by rw[<-List.append_assoc];exact h) hg X8 Yk (λj hj Z6=>Y7 j hj (by omega)) h1;obtain⟨U2,F2,t2,l2,e2⟩:=ih t1.rel VL X8 (by rw[t1.ep];exact Yk) (λj hj Z6=>by
    obtain⟨a1,a2⟩:=Y7 j (by omega) (by omega);have Yh:¬(((e,j):Id).1=e/\64*k<=((e,j):Id).2/\((e,j):Id).2 < 64*k+64):=λhh=>by have:=hh.2.2;simp only at this;omega
    refine⟨?_,by rw[t1.heap _ Yh];exact a2⟩;cases hr:U1 (e,j) with
    | none=>rfl
    | some i=>
     rcases t1.C5 (e,j) (by rw[hr];rfl) with hh|hh
     .rw[a1] at hh;cases hh
     .exact absurd hh Yh) h2
   refine⟨U2,F2,(t1.trans t2).mono (λid Zu=>?_),by simp[l2],λj u' z hu hz=>?_⟩
   .rcases Zu with⟨a,b,c⟩|⟨a,b,c⟩
    .exact⟨a,b,by simp only[AV];omega⟩
    .exact⟨a,by omega,by simp only[AV];omega⟩
   .cases j with
    | zero=>
     have a1:u=u':=by simpa using hu
     have a2:y=z:=by simpa using hz
     subst a1;subst a2;exact e1.ext (λ_ h=>h) t2.ext
    | succ j=>exact e2 j u' z (by simpa using hu) (by simpa using hz)
theorem Y4d {fp:List Nat} (h:Jo P B io w tmps s U F (fp++fl) ok) {u:Value} {x y:V} (hg:Fp P w ok top u x fp) (X8:∀g,top g->io g\/B<=g) {e k:Nat} (Yk:e<=s.ep) (Y7:∀j,64*k<=j->j < 64*(k+8)->U (e,j)=none/\s.heap (e,j)=none) (ht:s.BB e k x=some (y,s')):
  ∃U' F',C3 P B io w tmps s U fl ok top (λid=>id.1=e/\64*k<=id.2/\id.2 < 64*(k+8)) s' U' F'/\En w ok U' u y:=by
 unfold St.BB at ht;split at ht
 .rename_i vs
  split at ht
  .rename_i hl
   obtain⟨⟨ys,s1⟩,h1,he⟩:=AL.1 ht;simp only[A6] at he;obtain⟨rfl,rfl⟩:=he;obtain⟨us,rfl,G7⟩:=hg;obtain⟨U',F',t,l,en⟩:=Y38 vs h G7 X8 Yk (λj hj Z6=>Y7 j hj (by omega)) h1;exact⟨U',F',t.mono (λid Zu=>⟨Zu.1,Zu.2.1,by omega⟩),.AW (by simpa using l) (λj v z hv hz=>en j v z (by simpa using hv) hz)⟩
  .cases ht
 .rename_i Yh
  have Yd:Dz P w ok top u x fp:=by
   cases x<;>first|exact hg|exact absurd rfl (Yh _)
  obtain⟨U',F',t,en⟩:=vA h Yd X8 Yk (λj hj Z6=>Y7 j hj (by omega)) ht;exact⟨U',F',t.mono (λid Zu=>⟨Zu.1,Zu.2.1,by omega⟩),en⟩
end
section
variable {P:Program} {M:X2} {C:Kf}
theorem Yyr:∀{xs:List V} {s s':St} {ts:List TypeId} {ms:List Yt} {ys:List V},s.Bs P ts ms xs=some (ys,s')->Ia ms xs=true->Ia ms ys=true:=by
 intro xs
 induction xs with
 | nil=>
  intro s s' ts ms ys h _;simp only[St.Bs,AE,A6] at h;rw[<-h.1];rfl
 | cons x xs ih=>
  intro s s' ts ms ys h hp;simp only[St.Bs] at h;obtain⟨⟨y1,s1⟩,h1,h⟩:=A9.1 h;obtain⟨⟨y2,s2⟩,h2,h⟩:=AL.1 h;simp only[A6] at h;obtain⟨rfl,rfl⟩:=h;simp only[Ia,Bg] at hp ⊢;refine⟨?_,ih h2 hp.2⟩;unfold St.Db at h1;unfold tO at hp ⊢;split at h1
  .rename_i hm
   rw[hm] at hp ⊢;simp only[AE,A6] at h1;rw[<-h1.1];exact hp.1
  all_goals (rename_i hm;rw[hm])
theorem wE {w:World} {ok ok' top:Nat->Prop} {v:Value} {x:V} {fp:List Nat} (h:CY P w ok top v x fp) (ht:Pa x=false):CY P w ok' top v x fp:=by
 cases h with
 | lit h=>exact .lit h
 | tr h=>simp[Pa] at ht
 | own h k=>exact .own h k
theorem wF {w:World} {ok ok' top:Nat->Prop} {v:List Value} {x:List V} {fp:List Nat} (h:Fm P w ok top v x fp) (ht:x.any Pa=false):Fm P w ok' top v x fp:=by
 induction h with
 | nil=>exact .nil
 | cons h _ ih=>
  simp only[Nk,OS] at ht;exact .cons (wE h ht.1) (ih ht.2)
theorem wG {x:V} (h:HZ x=false):Pa x=false:=by
 cases x<;>first|exact h|rfl
theorem Ysx {xs:List V} (h:xs.any HZ=false):xs.any Pa=false:=by
 rw[List.any_eq_false] at h ⊢;exactλx hx=>by rw[wG (by simpa using h x hx)];decide
theorem Y5g {w:World} {ok ok' top:Nat->Prop} {v:List Value} {x:List V} {fp:List Nat} (h:FI P w ok top v x fp) (ht:x.any HZ=false):FI P w ok' top v x fp:=by
 induction h with
 | nil=>exact .nil
 | cons h _ ih=>
  simp only[Nk,OS] at ht;refine .cons ?_ (ih ht.2);cases h with
  | one h=>exact .one (wE h (wG ht.1))
  | box h=>
   obtain⟨g,cur,e,BQ,h1,h2,h3,h4,h5⟩:=h;exact .box ⟨g,cur,e,BQ,h1,h2,wF h3 ht.1,h4,h5⟩
theorem Ylc {w:World} {ok ok' top:Nat->Prop} {v:Value} {x:V} {fp:List Nat} (h:Dz P w ok top v x fp) (ht:H4 x=false):Dz P w ok' top v x fp:=by
 cases x
 case agg cs=>obtain⟨us,h1,h2⟩:=h;exact⟨us,h1,wF h2 (Ysx ht)⟩
 case CM cs=>obtain⟨g,cur,e,BQ,h1,h2,h3,h4,h5⟩:=h;exact⟨g,cur,e,BQ,h1,h2,wF h3 (Ysx ht),h4,h5⟩
 all_goals exact wE h (wG ht)
theorem Y3v {w:World} {ok ok' top:Nat->Prop} {v:List Value} {x:List V} {fp:List Nat} (h:Gh P w ok top v x fp) (ht:x.any H4=false):Gh P w ok' top v x fp:=by
 induction h with
 | nil=>exact .nil
 | cons h _ ih=>
  simp only[Nk,OS] at ht;exact .cons (Ylc h ht.1) (ih ht.2)
theorem Y62 {w:World} {ok ok' top:Nat->Prop} {v:Value} {x:V} {fp:List Nat} (h:Fp P w ok top v x fp) (ht:Pb x=false):Fp P w ok' top v x fp:=by
 cases x
 case AW rs=>obtain⟨us,h1,h2⟩:=h;exact⟨us,h1,Y3v h2 ht⟩
 all_goals (simp only[Fp] at h ⊢;exact Ylc h ht)
theorem Y8n {w:World} {ok ok' top:Nat->Prop} {m:Yt} {u:Value} {x o:V} {fp:List Nat} (h:LY P w ok top m u x o fp) (ht:(∀g,ok g->ok' g)\/H4 o=false):LY P w ok' top m u x o fp:=by
 cases m
 .exact h
 .obtain⟨cs,G6,h1,rfl,h3,h4⟩:=h
  refine⟨cs,G6,h1,rfl,h3,?_⟩;rcases ht with ht|ht
  .exact h4.C2 ht
  .obtain⟨g,cur,e,BQ,e1,e2,e3,e4,e5⟩:=h4
   exact⟨g,cur,e,BQ,e1,e2,Y5g e3 ht,e4,e5⟩
 .exact h
 .exact h
theorem Y6o {w:World} {ok ok' top:Nat->Prop} {ms:List Yt} {us:List Value} {xs os:List V} {fp:List Nat} (h:Fo P w ok top ms us xs os fp) (ht:(∀g,ok g->ok' g)\/os.any H4=false):Fo P w ok' top ms us xs os fp:=by
 induction h with
 | nil=>exact .nil
 | cons h _ ih=>
  refine .cons (Y8n h (ht.imp (λh=>h) (λh=>by simp only[Nk,OS] at h;exact h.1))) (ih (ht.imp (λh=>h) (λh=>by simp only[Nk,OS] at h;exact h.2)))
theorem Y9m {w:World} {ok ok' top:Nat->Prop} {v:Value} {x:V} {fp:List Nat} (h:Fp P w ok top v x fp) (ht:∀g,ok g->ok' g):Fp P w ok' top v x fp:=by
 cases x
 case AW rs=>obtain⟨us,h1,h2⟩:=h;exact⟨us,h1,h2.C2 ht⟩
 all_goals (simp only[Fp] at h ⊢;exact Dz.C2 h ht)
theorem Y9c {w:World} {ok top:Nat->Prop}:∀{ys:List V} {ms:List Yt} {us:List Value} {xs os:List V} {fp:List Nat} {s:St},s.BL ms ys=some xs->Fo P w ok top ms us xs os fp->Fo P w ok top ms us ys os fp:=by
 intro ys
 induction ys with
 | nil=>
  intro ms us xs os fp s hr h;simp only[St.BL,AE] at hr;subst hr;exact h
 | cons y ys ih=>
  intro ms us xs os fp s hr h;simp only[St.BL] at hr;obtain⟨z,h1,hr⟩:=A9.1 hr;obtain⟨zs,h2,rfl⟩:=AL.1 hr;cases h with
  | cons h hs=>
   refine .cons ?_ (ih h2 hs);unfold St.Cm at h1;cases hm:ms.headD .rd with
   | rd=>rw[hm] at h;exact h
   | io=>rw[hm] at h h1;simp only[AE] at h1;subst h1;exact h
   | mv=>rw[hm] at h;exact h
   | Er=>rw[hm] at h h1;simp only[AE] at h1;subst h1;exact h
theorem Yu6 (hP:X7 P) (wH:∀(f:FuncId) (xs:List V) (r:V) (os:List V),C f xs=some (r,os)->(∃fn,P.funcs[f]?=some fn/\fn.body.isSome=true)/\NF P (M.AU f) f xs r os):HB P M C:=by
 intro B io w tmps s U F fl k v s' h Y7 g args us Ww X3 he;unfold JQ at he;split at he
 case isFalse=>cases he
 rename_i wI;obtain⟨⟨ys,s1⟩,gS,he⟩:=A9.1 he;obtain⟨xs,Eh,he⟩:=A9.1 he;obtain⟨⟨r,os⟩,hc,he⟩:=A9.1 he;simp only at Eh he;split at he
 case isTrue=>cases he
 rename_i Xcf;obtain⟨s2,WJ,SY⟩:=A9.1 he;obtain⟨⟨fn,CL,WK⟩,Yqx⟩:=wH g xs r os hc;have LJ:∀(j:Nat) (u:Value) (x:V),us.toList[j]?=some u->args[j]?=some x->En w (AH s U w) U u x:=λj u x hu hx=>X3 j u x (by simpa using hu) hx;obtain⟨G,D2,Y7k,J3⟩:=Y7y h args (us:=us.toList) h (.refl _) (by simpa using Ww) LJ gS;have DK:=Y8z h (.refl _) (by simpa using Ww) LJ gS;have gT:=vY gS;refine⟨fn,CL,WK,hP.name g fn CL,?_⟩;have NG:=(EC.1 D2.AT).1;have WL:∀x∈G,x < w.heap.size:=λx hx=>D2.AR x (CC _ hx)
 let T:Nat->Prop:=DA s s1 U F
 have hTA:LG w T:=⟨h.Cr.Fc.1,h.Cr.Fc.2.1,λx ⟨id,b,h1,h2,h3,h4,h5⟩=>h.Cr.Fc.2.2 x (h.top id b h1 h2 h5 x h4)⟩;have WM:∀x,T x->AJ s U x:=λx ⟨id,b,h1,h2,h3,h4,_⟩=>h.Ei h1 h2 h4;have Y7l:∀x,AJ s1 U x->AJ s U x:=λx ⟨id,b,o,c,sz,h1,h2,h3⟩=>⟨id,b,o,c,sz,J3.sub id b h1,h2,h3⟩;have VO:∀id b,s1.heap id=some b->b.own=true->∀x∈F id,¬T x:=λid b hb ho x hx ⟨Gc,b2,h1,h2,h3,h4,_⟩=>by
  have Yh:id≠Gc:=λe=>by subst e;rw[hb] at h3;cases h3
  have DY:x∈F Gc:=by
   cases hf:F Gc with
   | nil=>rw[hf] at h4;simp at h4
   | cons y l=>
          rw[hf] at h4;have:y=x:=by simpa using h4
          subst this;exact BJ
  exact h.apart id Gc b b2 (J3.sub id b hb) ho h1 h2 Yh x hx DY
 have Xcc:∀x,AJ s1 U x->¬T x/\x ∉ G:=λx ⟨id,b,o,c,sz,h1,h2,h3⟩=>by
  have hx:x∈F id:=by
   have:=D2.heap id b h1;rw[h3] at this;exact this.top h2
  exact⟨VO id b h1 h2 x hx,λhg=>D2.A7 id b h1 h2 x hx (CC _ hg)⟩
 have behind:∀(X:Nat->Prop) (wJ:Nat->Prop),(∀x,AH s U w x->wJ x)->(∀x,wJ x->x < w.heap.size/\¬T x)->(Pb r=false/\os.any H4=false\/(∀x,AJ s1 U x->X x))->∀(val:Value) (w':World),PK P (M.AU g) w us xs G T X r os val w'->Cf P B io w tmps s U fl k v s' val w':=by
  intro X wJ _ _ wK val w' hd;obtain⟨FH,ok',top',fr,fo,Xad,gU,CU,gV,Xae,Vq⟩:=hd;have JX:∀x,AH s U w x->w'.heap[x]?=w.heap[x]?:=λx hx=>FH.block x hx.2 (λht=>hx.1 (WM x ht));have Xcg:∀id b,s1.heap id=some b->∀x∈F id,w'.heap[x]?=w.heap[x]?:=λid b hb x hx=>by
   refine FH.block x (D2.Il hb x hx) ?_;cases ho:b.own with
   | true=>exact VO id b hb ho x hx
   | false=>
    have hB:=h.heap id b (J3.sub id b hb);unfold Xq at hB;rw[ho] at hB;split at hB
    .cases hB.1
    .rename_i h2;cases h2
    .rw[hB.1] at hx;cases hx
  have WN:∀x∈fl,x < w.heap.size:=λx hx=>h.AR x hx
  let okc:Nat->Prop:=λx=>AH s U w x\/(ok' x/\¬AJ s1 U x)
  have hRG:Jo P B io w' tmps s1 U F (fo++(fr++fl)) (λx=>AH s U w x\/(ok' x/\¬AJ s1 U x)):=by
   refine⟨λt u hu=>?_,λt ht=>by rw[J3.env];exact h.out t ht,λid b hb=>?_,λid b hb ho x hx=>GU (D2.CI id b hb ho x hx) FH.size,λid b hb ho Fj x hx=>D2.top id b hb ho Fj x hx,D2.apart,D2.once,λid Zu=>D2.C5 id Zu,h.Cr.step FH.size (λk hk Ha=>FH.block k (GU hk h.base) (λ⟨id,b,h1,h2,h3,h4,h5⟩=>by
    rcases h.top id b h1 h2 h5 k h4 with h6|h6
    .exact Ha h6
    .omega)),λx hx=>?_,λid b hb ho x hx DY=>?_,?_⟩
   .rw[J3.env]
    exact ((h.env t u hu).world JX).ext (λx hx=>.inl hx) (λ_ _ h=>h)
   .exact ((h.heap id b (J3.sub id b hb)).world JX (Xcg id b hb)).ext (λx hx=>.inl hx) (λ_ _ h=>h)
   .rcases BT.1 hx with hx|hx
    .exact (gV x (Ds _ hx)).1
    .rcases BT.1 hx with hx|hx
     .exact (gV x (CC _ hx)).1
     .exact GU (WN x hx) FH.size
   .have Z6:=D2.CI id b hb ho x hx
    have nf:x ∉ fr++fo:=λhm=>by
     rcases (gV x hm).2 with hG|N3
     .exact D2.A7 id b hb ho x hx (CC _ hG)
     .omega
    rcases BT.1 DY with DY|DY
    .exact nf (Ds _ DY)
    .rcases BT.1 DY with DY|DY
     .exact nf (CC _ DY)
     .exact D2.A7 id b hb ho x hx (Ds _ DY)
   .have n1:((fr++fo)++fl).Nodup:=EC.2 ⟨CU,h.AT,λx hx y hy e=>by
     subst e;rcases (gV x hx).2 with hG|N3
     .exact (EC.1 D2.AT).2.2 x hG x hy rfl
     .have:=WN x hy;omega⟩
    have p1:(fo++(fr++fl)).Perm ((fr++fo)++fl):=by
     rw[<-List.append_assoc];exact Vec _ eR
    exact p1.nodup_iff.2 n1
  have Y7m:∀x,top' x->io x\/B<=x:=λx hx=>by
   rcases Xae x hx with⟨id,b,h1,h2,h3,h4,h5⟩|N3
   .exact h.top id b h1 h2 h5 x h4
   .have:=h.base;exact .inr (by omega)
  have Xaf:Pb r=false/\os.any H4=false\/∀x,ok' x->(AH s U w x\/(ok' x/\¬AJ s1 U x)):=by
   rcases wK with h1|h1
   .exact .inl h1
   .exact .inr λx hx=>.inr ⟨hx,λht=>(Vq x hx).2.2 (h1 x ht)⟩
  have Xch:Fo P w' (λx=>AH s U w x\/(ok' x/\¬AJ s1 U x)) top' (M.AU g) us.toList ys os fo:=
   Y6o (Y9c Eh gU) (Xaf.symm.imp (λh=>h) (λh=>h.2))
  have Xci:Fp P w' (λx=>AH s U w x\/(ok' x/\¬AJ s1 U x)) top' val r fr:=by
   rcases Xaf with h1|h1
   .exact Y62 Xad h1.1
   .exact Y9m Xad h1
  have Xag:∀id:Id,id.1=s.ep->id.2 / 1024=k->U id=none/\s1.heap id=none:=λid h1 h2=>by
   have hn:=Y7 id h1 h2;refine⟨hn,?_⟩;cases hb:s1.heap id with
   | none=>rfl
   | some b=>
    exfalso;have hB:=D2.heap id b hb;rw[hn] at hB;unfold Xq at hB;split at hB
    .obtain⟨_,_,_,_,_,hi,_⟩:=hB;cases hi
    .rcases hB with⟨hi,_⟩|⟨_,_,_,_,hi,_⟩<;>cases hi
    .obtain⟨_,hB⟩:=hB
     rcases hB with⟨hi,_⟩|⟨_,_,_,_,hi,_⟩<;>cases hi
  obtain⟨U2,F2,t2⟩:=Y9w (e:=s.ep) (k:=16*k+8) args hRG DK Xch (λj u x hu hx=>⟨w,AH s U w,LJ j u x hu hx⟩) Y7m (by rw[J3.ep];exact B4 _) (λj hj Z6=>Xag _ rfl (by simp only;omega)) gT.1.1 (λid Zu=>(gT.1.2 id Zu).1) WJ;have wL:∀id∈EJ (M.AU g) args,∀j,64*(16*k)<=j->j < 64*(16*k+8)->id≠(s.ep,j):=λid Zu j hj Z6 e=>by
   subst e;obtain⟨b,hb⟩:=(gT.1.2 _ Zu).2;have hB:=h.heap _ b hb;rw[Y7 (s.ep,j) rfl (by simp only;omega)] at hB;unfold Xq at hB;split at hB
   .obtain⟨_,_,_,_,_,hi,_⟩:=hB;cases hi
   .rcases hB with⟨hi,_⟩|⟨_,_,_,_,hi,_⟩<;>cases hi
   .obtain⟨_,hB⟩:=hB
    rcases hB with⟨hi,_⟩|⟨_,_,_,_,hi,_⟩<;>cases hi
  obtain⟨U3,F3,t3,en3⟩:=Y4d (e:=s.ep) (k:=16*k) t2.rel Xci Y7m (by rw[t2.ep,J3.ep];exact B4 _) (λj hj Z6=>by
   obtain⟨a1,a2⟩:=Xag (s.ep,j) rfl (by simp only;omega);have WH:¬((((s.ep,j):Id).1=s.ep/\64*(16*k+8)<=((s.ep,j):Id).2/\((s.ep,j):Id).2 < 64*(16*k+8+args.length))\/(s.ep,j)∈EJ (M.AU g) args):=λhh=>by
    rcases hh with hh|hh
    .have:=hh.2.1;simp only at this;omega
    .exact wL _ hh j hj Z6 rfl
   refine⟨?_,by rw[t2.heap _ WH];exact a2⟩;cases hr:U2 (s.ep,j) with
   | none=>rfl
   | some i=>
    rcases t2.C5 _ (by rw[hr];rfl) with hh|hh
    .rw[a1] at hh;cases hh
    .exact absurd hh WH) SY
  have WO:∀x,(AH s U w x\/(ok' x/\¬AJ s1 U x))->AH s' U3 w' x:=λx hx=>by
   have Xah:AJ s' U3 x->AJ s1 U x\/top' x:=λht=>by
    rcases t3.AJ x ht with h1|h1
    .exact t2.AJ x h1
    .exact .inr h1
   rcases hx with hx|hx
   .refine⟨λht=>?_,GU hx.2 FH.size⟩
    rcases Xah ht with h1|h1
    .exact hx.1 (Y7l x h1)
    .rcases Xae x h1 with h2|h2
     .exact hx.1 (WM x h2)
     .have:=hx.2;omega
   .refine⟨λht=>?_,(Vq x hx.1).1⟩
    rcases Xah ht with h1|h1
    .exact hx.2 h1
    .exact (Vq x hx.1).2.1 h1
  refine⟨by rw[t3.env,t2.env,J3.env],by rw[t3.ep,t2.ep,J3.ep],⟨FH.os,FH.tape,FH.output,FH.size,λx hx Ha=>FH.block x (by have:=h.base;omega) (λ⟨id,b,h1,h2,h3,h4,h5⟩=>?_)⟩,U3,F3,t3.rel.Iy WO,en3.ext WO (λ_ _ h=>h),λid i hi=>t3.ext id i (t2.ext id i hi),λid Zu=>?_⟩
  .rcases h.top id b h1 h2 h5 x h4 with h6|h6
   .exact Ha h6
   .omega
  .rcases t3.C5 id Zu with h1|h1
   .rcases t2.C5 id h1 with h2|h2
    .exact .inl h2
    .rcases h2 with h2|h2
     .exact .inr ⟨h2.1,by omega⟩
     .left
      obtain⟨b,hb⟩:=(gT.1.2 id h2).2;have hB:=h.heap id b hb;cases hr:U id with
      | some i=>rfl
      | none=>
       exfalso;rw[hr] at hB;unfold Xq at hB;split at hB
       .obtain⟨_,_,_,_,_,hi,_⟩:=hB;cases hi
       .rcases hB with⟨hi,_⟩|⟨_,_,_,_,hi,_⟩<;>cases hi
       .obtain⟨_,hB⟩:=hB
        rcases hB with⟨hi,_⟩|⟨_,_,_,_,hi,_⟩<;>cases hi
   .exact .inr ⟨h1.1,by omega⟩
 by_cases gW:Pb r=false/\os.any H4=false
 .have gX:∀x,AH s U w x->x < w.heap.size/\¬T x/\¬False:=λx hx=>⟨hx.2,λht=>hx.1 (WM x ht),λh=>h⟩
  refine (Yqx w us G T (λ_=>False) (λx=>x < w.heap.size/\¬T x) hTA ?_ NG (λx hx=>⟨WL x hx,λh=>h⟩) (λx hx=>⟨hx.1,hx.2,λh=>h⟩) (λx hx=>hx.elim)).mono (λe w' ⟨val,he,hd⟩=>⟨val,he,behind _ (λx=>x < w.heap.size/\¬T x) (λx hx=>⟨(gX x hx).1,(gX x hx).2.1⟩) (λx hx=>hx) (.inl gW) val w' hd⟩);refine Ysw h J3 (λx hx=>⟨(gX x hx).1,(gX x hx).2.1⟩) Y7k (.inr λid b x o c sz hb ho hU=>?_) Eh;have hx:x∈F id:=by
   have:=D2.heap id b hb;rw[hU] at this;exact this.top ho
  exact⟨D2.CI id b hb ho x hx,VO id b hb ho x hx⟩
 .have N6:Ia (M.AU g) args=true:=by
   cases hp:Ia (M.AU g) args with
   | true=>rfl
   | false=>
    exfalso;apply Xcf;rw[hp];cases h1:Pb r<;>cases h2:os.any H4<;>simp;exact gW ⟨h1,h2⟩
  refine (Yqx w us G T (AJ s1 U) (AH s U w) hTA ?_ NG (λx hx=>⟨WL x hx,λht=>(Xcc x ht).2 hx⟩) (λx hx=>⟨hx.2,λht=>hx.1 (WM x ht),λht=>hx.1 (Y7l x ht)⟩) (λx hx=>?_)).mono (λe w' ⟨val,he,hd⟩=>⟨val,he,behind _ (AH s U w) (λx hx=>hx) (λx hx=>⟨hx.2,λht=>hx.1 (WM x ht)⟩) (.inr λx hx=>hx) val w' hd⟩)
  .exact Ysw h J3 (λx hx=>hx) Y7k (.inl (Yyr gS N6)) Eh
  .obtain⟨id,b,o,c,sz,h1,h2,h3⟩:=hx
   have hB:=D2.heap id b h1;rw[h3] at hB;unfold Xq at hB;split at hB
   .obtain⟨_,g',cur,e,row,hi,hg,_⟩:=hB
    cases hi;exact⟨cur,e,hg⟩
   .rcases hB with⟨hi,_⟩|⟨g',o',c',cur,hi,hg,_⟩
    .cases hi
    .cases hi;exact⟨cur,_,hg⟩
   .rename_i hh;rw[h2] at hh;cases hh
end
end Go.Proofs.YthdljdelfgofdaaGreatDoor.Ev
namespace Go.Proofs.YthdljdelfgofdaaGreatDoor.Ev
open Go
variable [Anchor]
def Mc (op:BinOp) (k k':IntKind) (a b:Int):Option V:=
 match op with
 | .shl=>if b < 0 then none else some (.lit (.int k (k.wrap (a*2^min b.toNat k.bits))))
 | .shr=>if b < 0 then none else some (.lit (.int k (a.fdiv (2^min b.toNat k.bits))))
 | op=>if k=k' then match op with
  | .add=>some (.lit (.int k (k.wrap (a+b))))
  | .sub=>some (.lit (.int k (k.wrap (a - b))))
  | .mul=>some (.lit (.int k (k.wrap (a*b))))
  | .quo=>if b=0 then none else some (.lit (.int k (k.wrap (a.tdiv b))))
  | .rem=>if b=0 then none else some (.lit (.int k (a.tmod b)))
  | .and=>some (.lit (.int k (k.wrap ((BitVec.ofInt k.bits a &&& BitVec.ofInt k.bits b).toNat))))
  | .or=>some (.lit (.int k (k.wrap ((BitVec.ofInt k.bits a ||| BitVec.ofInt k.bits b).toNat))))
  | .xor=>some (.lit (.int k (k.wrap ((BitVec.ofInt k.bits a ^^^ BitVec.ofInt k.bits b).toNat))))
  | .andNot=>some (.lit (.int k (k.wrap ((BitVec.ofInt k.bits a &&& ~~~BitVec.ofInt k.bits b).toNat))))
  | .eql=>some (.lit (.bool (decide (a=b))))
  | .neq=>some (.lit (.bool (decide (a≠b))))
  | .lss=>some (.lit (.bool (decide (a < b))))
  | .leq=>some (.lit (.bool (decide (a<=b))))
  | .gtr=>some (.lit (.bool (decide (a > b))))
  | .geq=>some (.lit (.bool (decide (a≥b))))
  | _=>none
  else none
def I5 (op:BinOp) (a b:ByteArray):Option V:=
 match op with
 | .add=>if ((a.size+b.size:Nat):Int) > IntKind.i64.max then none else some (.lit (.string (a++b)))
 | .eql=>some (.lit (.bool (a.toList == b.toList)))
 | .neq=>some (.lit (.bool (!(a.toList == b.toList))))
 | .lss=>some (.lit (.bool (Go.Op.bytesLess a.toList b.toList)))
 | .leq=>some (.lit (.bool (Go.Op.bytesLess a.toList b.toList||a.toList == b.toList)))
 | .gtr=>some (.lit (.bool (!(Go.Op.bytesLess a.toList b.toList||a.toList == b.toList))))
 | .geq=>some (.lit (.bool (!(Go.Op.bytesLess a.toList b.toList))))
 | _=>none
section
variable {P:Program} {v:Operand->V}
theorem Xp {α β:Type} (x:Sem α) (f:α->Sem β):eval? P (x >>= f)=(eval? P x).bind λa=>eval? P (f a):=by
 induction x with
 | pure a=>rfl
 | program k ih=>exact ih P
 | _=>rfl
theorem WQ {α β:Type} (x:Sem α) (f:α->β):eval? P (f <$> x)=(eval? P x).map f:=by
 induction x with
 | pure a=>rfl
 | program k ih=>exact ih P
 | _=>rfl
def EL (P:Program) (op:BinOp) (t:TypeId) (x y:Operand) (X Y:V):Option V:=
 if (Qi X).isSome&&(Qi Y).isSome then (eval? P (do eqGuard op t x y ((Qi X).getD undef) ((Qi Y).getD undef);binOp op t ((Qi X).getD undef) ((Qi Y).getD undef))).bind Gy else none
theorem wM {x:Sem Value}:(match eval? P (Next.value <$> x) with|some (.value v)=>Gy v|_=>none)=(eval? P x).bind Gy:=by
 rw[WQ];cases eval? P x<;>rfl
theorem Y5r {d:Option Tmp} {op:BinOp} {t yt ty:TypeId} {x y:Operand} {p:String} {af:Array Edge} {g:Option (Nat×Bool)}:W6 P v ⟨d,.binOp op t x y yt,ty,p,af,g⟩=EL P op t x y (v x) (v y):=by
 unfold W6 EL;rw[<-wM];simp only[Nl,Op.operands,GV,DT,UU,L5];rfl
theorem Yz6 {op:BinOp} {t:TypeId} {x y:Operand} {k k':IntKind} {a b:Int}:eqGuard op t x y (.int k a) (.int k' b)=pure ():=by
 unfold eqGuard;cases op<;>rfl
theorem Yy7 {op:BinOp} {t:TypeId} {x y:Operand} {a b:ByteArray}:eqGuard op t x y (.string a) (.string b)=pure ():=by
 unfold eqGuard;cases op<;>rfl
theorem Ycn {op:BinOp} {t:TypeId} {x y:Operand} {a b:Bool}:eqGuard op t x y (.bool a) (.bool b)=pure ():=by
 unfold eqGuard;cases op<;>rfl
theorem Y9p {op:BinOp} {t:TypeId} {x y:Operand} {k k':IntKind} {a b:Int}:EL P op t x y (.lit (.int k a)) (.lit (.int k' b))=Mc op k k' a b:=by
 have e:EL P op t x y (.lit (.int k a)) (.lit (.int k' b))=(eval? P (binOp op t (.int k a) (.int k' b))).bind Gy:=by
  simp only[EL,Qi,OV,L6,if_true,FY,Yz6];rfl
 rw[e];unfold binOp;by_cases hk:k=k'
 .subst hk
  cases op<;>simp only[ne_eq,not_true,if_false,if_true,Mc]<;>first|rfl|skip
  .unfold Go.Op.intDiv;by_cases hb:b=0<;>simp only[hb,if_true,if_false]<;>rfl
  .unfold Go.Op.intDiv;by_cases hb:b=0<;>simp only[hb,if_true,if_false]<;>rfl
  .unfold Go.Op.shift;by_cases hb:b < 0<;>simp only[hb,if_true,if_false]<;>rfl
  .unfold Go.Op.shift;by_cases hb:b < 0<;>simp only[hb,if_true,if_false]<;>rfl
  .simp only[Go.Op.intCmp,bne];exact congrArg (λc=>some (V.lit (.bool c))) (by by_cases h:a=b<;>simp[h])
 .cases op<;>simp only[ne_eq,hk,not_false_eq_true,if_true,if_false,Mc]<;>first|rfl|skip
  .unfold Go.Op.shift;by_cases hb:b < 0<;>simp only[hb,if_true,if_false]<;>rfl
  .unfold Go.Op.shift;by_cases hb:b < 0<;>simp only[hb,if_true,if_false]<;>rfl
theorem Y71 {op:BinOp} {t:TypeId} {x y:Operand} {a b:ByteArray}:EL P op t x y (.lit (.string a)) (.lit (.string b))=I5 op a b:=by
 have e:EL P op t x y (.lit (.string a)) (.lit (.string b))=(eval? P (binOp op t (.string a) (.string b))).bind Gy:=by
  simp only[EL,Qi,OV,L6,if_true,FY,Yy7];rfl
 rw[e];unfold binOp;cases op<;>simp only[I5]<;>first|rfl|skip
 unfold Go.Op.stringOp;simp only[];by_cases hb:((a.size+b.size:Nat):Int) > IntKind.i64.max<;>simp only[hb,if_true,if_false]<;>rfl
theorem Yka {t:TypeId} {a b:Bool} (ht:P.underlying t=some .bool):eval? P (Go.Op.equal t (.bool a) (.bool b))=some (a == b):=by
 have hu:eval? P (underlying t)=some .bool:=by
  unfold underlying;rw[Xp];show eval? P (match P.underlying t with|some d=>pure d|none=>stuck "no such type" : Sem TypeDesc)=some .bool;rw[ht];rfl
 show eval? P (Go.Op.equalIn (9999+1) t (.bool a) (.bool b))=_;unfold Go.Op.equalIn;rw[Xp,hu];rfl
theorem Y78 {t:TypeId} {x y:Operand} {a b:Bool} (ht:P.underlying t=some .bool):EL P .eql t x y (.lit (.bool a)) (.lit (.bool b))=some (.lit (.bool (a == b))):=by
 simp only[EL,Qi,OV,L6,if_true,FY,Ycn];have e:(pure () >>=λ_=>binOp .eql t (.bool a) (.bool b):Sem Value)=((λb=>Value.bool b) <$> Go.Op.equal t (.bool a) (.bool b)):=rfl;rw[e,WQ,Yka ht];rfl
theorem Y9d {t:TypeId} {x y:Operand} {a b:Bool} (ht:P.underlying t=some .bool):EL P .neq t x y (.lit (.bool a)) (.lit (.bool b))=some (.lit (.bool (a != b))):=by
 simp only[EL,Qi,OV,L6,if_true,FY,Ycn];have e:(pure () >>=λ_=>binOp .neq t (.bool a) (.bool b):Sem Value)=((λb=>Value.bool (!b)) <$> Go.Op.equal t (.bool a) (.bool b)):=rfl;rw[e,WQ,Yka ht];rfl
end
def I6 (b:ByteArray) (i:V):Option Int:=(Wv i).bind λn=>(b[n]?).map λc=>(c.toNat:Int)
def PU (b:ByteArray) (lo hi:Option V):Option ByteArray:=
 (match hi with|some v=>Wv v|none=>some b.size).bind λh=>(match lo with|some v=>Wv v|none=>some 0).bind λl=>if l<=h/\h<=b.size then some (b.extract l h) else none
def Md (rows:List (List V)):Option ByteArray:=(Nq rows).map λbs=>⟨bs.toArray⟩
section
variable {P:Program} {v:Operand->V} {d:Option Tmp} {t ty:TypeId} {x ix:Operand} {p:String} {af:Array Edge} {g:Option (Nat×Bool)} {b:ByteArray}
theorem wN {t:TypeId} {d:TypeDesc} (ht:P.underlying t=some d):eval? P (underlying t)=some d:=by
 unfold underlying;rw[Xp];show eval? P (match P.underlying t with|some d=>pure d|none=>stuck "no such type" : Sem TypeDesc)=some d;rw[ht];rfl
theorem WR {x:V} {n:Nat} (h:Wv x=some n):∃k i,x=.lit (.int k i)/\0<=i/\n=i.toNat:=by
 unfold Wv at h;split at h
 .rename_i k i
  split at h
  .rename_i h0;injection h with h;exact⟨k,i,rfl,h0,h.symm⟩
  .cases h
 .cases h
theorem Y9y {m:Int} (ht:P.underlying t=some .string) (hx:v x=.lit (.string b)) (h:I6 b (v ix)=some m):W6 P v ⟨d,.index t x ix,ty,p,af,g⟩=some (.lit (.int .u8 m)):=by
 unfold I6 at h;obtain⟨n,hn,h⟩:=A9.1 h;obtain⟨c,hc,rfl⟩:=AL.1 h;obtain⟨k,i,hi,h0,rfl⟩:=WR hn;have key:W6 P v ⟨d,.index t x ix,ty,p,af,g⟩=if (Qi (v x)).isSome&&(Qi (v ix)).isSome then (eval? P (Instr.index t ((Qi (v x)).getD undef) ((Qi (v ix)).getD undef))).bind Gy else none:=by
  unfold W6;rw[<-wM];simp only[Nl,Op.operands,GV,DT,UU,L5];rfl
 rw[key,hx,hi];show (eval? P (Instr.index t (.string b) (.int k i))).bind Gy=_;have e:eval? P (Instr.index t (.string b) (.int k i))=some (.int .u8 c.toNat):=by
  unfold Instr.index;rw[Xp];show eval? P (underlying t >>= _)=_;rw[Xp,wN ht,Ag];show eval? P (match (if 0<=i then b[i.toNat]? else none:Option UInt8) with|some b=>(pure (Value.int .u8 b.toNat):Sem Value)|none=>boundsPanic k i b.size .index)=_;rw[Ah h0,hc];rfl
 rw[e];rfl
theorem wO {k:IntKind} {i:Int} {y:Nat} {code:BoundsCode} (h0:0<=i) (h:i.toNat<=y):eval? P (Instr.sliceBound (.int k i) y code)=some i.toNat:=by
 unfold Instr.sliceBound;rw[Xp];show eval? P (if 0<=i/\i<=y then pure i.toNat else boundsPanic k i y code)=_;rw[Ah ⟨h0,by omega⟩];rfl
theorem Yz4 {n l h:Nat} {lo hi:Option V} (hh:(match hi with|some v=>Wv v|none=>some n)=some h) (hl:(match lo with|some v=>Wv v|none=>some 0)=some l) (h1:l<=h) (h2:h<=n):
  eval? P (Instr.sliceBounds false n n (lo.map λv=>(Qi v).getD undef) (hi.map λv=>(Qi v).getD undef) none)=some (l,h,n):=by
 have pu:∀{α:Type} (a:α),eval? P (pure a:Sem α)=some a:=λ_=>rfl;unfold Instr.sliceBounds;cases hi with
 | none=>
  simp only[AE] at hh;subst hh;cases lo with
  | none=>
   simp only[AE] at hl;subst hl;simp only[fD,Xp,pu,Ag]
  | some u=>
   obtain⟨k,i,rfl,h0,rfl⟩:=WR hl;have e2:=λc=>wO (P:=P) (k:=k) (code:=c) h0 h1;simp only[fD,D8,Qi,FY,Xp,pu,Ag,e2]
 | some z=>
  obtain⟨k',i',rfl,gY,rfl⟩:=WR hh;have e1:=λc=>wO (P:=P) (k:=k') (code:=c) gY h2;cases lo with
  | none=>
   simp only[AE] at hl;subst hl;simp only[fD,D8,Qi,FY,Xp,pu,Ag,e1]
  | some u=>
   obtain⟨k,i,rfl,h0,rfl⟩:=WR hl;have e2:=λc=>wO (P:=P) (k:=k) (code:=c) h0 h1;simp only[fD,D8,Qi,FY,Xp,pu,Ag,e1,e2]
theorem Y5t {lo hi:Option Operand} {c:ByteArray} (ht:P.underlying t=some .string) (hx:v x=.lit (.string b)) (h:PU b (lo.map v) (hi.map v)=some c):W6 P v ⟨d,.slice t x lo hi none,ty,p,af,g⟩=some (.lit (.string c)):=by
 unfold PU at h;obtain⟨h',hh,h⟩:=A9.1 h;obtain⟨l,hl,h⟩:=A9.1 h;split at h
 case isFalse=>cases h
 rename_i h1;injection h with h;subst h;have gZ:∀{z:Operand} {m:Nat},Wv (v z)=some m->(Qi (v z)).isSome=true:=λ{z m} ho=>by
  obtain⟨k,i,e,_⟩:=WR ho;rw[e];rfl
 have key:W6 P v ⟨d,.slice t x lo hi none,ty,p,af,g⟩=(eval? P (Instr.sliceAt t ((Qi (v x)).getD undef) (lo.map λy=>(Qi (v y)).getD undef) (hi.map λy=>(Qi (v y)).getD undef) none)).bind Gy:=by
  unfold W6;rw[<-wM];rw[Ah (by
   simp only[Nl,GV,Cb];intro y hy;cases lo with
   | none=>cases hi with
    | none=>
     have:y=x:=by simpa [Op.operands] using hy
     subst this;rw[hx];rfl
    | some z=>
     have:y=x\/y=z:=by simpa [Op.operands] using hy
     rcases this with e|e
     .subst e;rw[hx];rfl
     .subst e;exact gZ (m:=h') hh
   | some u=>cases hi with
    | none=>
     have:y=x\/y=u:=by simpa [Op.operands] using hy
     rcases this with e|e
     .subst e;rw[hx];rfl
     .subst e;exact gZ (m:=l) hl
    | some z=>
     have:y=x\/y=u\/y=z:=by simpa [Op.operands] using hy
     rcases this with e|e|e
     .subst e;rw[hx];rfl
     .subst e;exact gZ (m:=l) hl
     .subst e;exact gZ (m:=h') hh)]
  rfl
 rw[key,hx];have em:∀o:Option Operand,(o.map λy=>(Qi (v y)).getD undef)=(o.map v).map λz=>(Qi z).getD undef:=λo=>by cases o<;>rfl
 rw[em,em];have e:eval? P (Instr.sliceAt t (.string b) ((lo.map v).map λz=>(Qi z).getD undef) ((hi.map v).map λz=>(Qi z).getD undef) none)=some (.string (b.extract l h')):=by
  unfold Instr.sliceAt;rw[Xp,wN ht];show eval? P (Instr.slice t (.string b) _ _ none)=_;unfold Instr.slice;rw[Xp,wN ht];show eval? P (Instr.sliceBounds false b.size b.size _ _ none >>= _)=_;rw[Xp,Yz4 hh hl h1.1 h1.2];rfl
 show (eval? P (Instr.sliceAt t (.string b) _ _ none)).bind Gy=_;rw[e];rfl
end
end Go.Proofs.YthdljdelfgofdaaGreatDoor.Ev
namespace Go.Proofs.YthdljdelfgofdaaGreatDoor.Ev
open Go Go.RowKit Go.ChangeShapes Go.WideShapes
section
variable {H:Type} {enc:TypeId×Value->H} {P:Program} {w:World}
def okW (w:World) (g:Nat):Prop:=g < w.heap.size
def Me (w:World) (cs:List Value) (xs:List V):Prop:=cs.length=xs.length/\∀(k:Nat) (v:Value) (x:V),cs[k]?=some v->xs[k]?=some x->Rd w (okW w) v x
theorem Me.one {v:Value} {x:V} (h:Rd w (okW w) v x):Me w [v] [x]:=by
 refine⟨rfl,λk u y h1 h2=>?_⟩;cases k with
 | zero=>simp at h1 h2;subst h1;subst h2;exact h
 | succ k=>simp at h1
theorem Me.append {cs ds:List Value} {xs ys:List V} (h:Me w cs xs) (k:Me w ds ys):Me w (cs++ds) (xs++ys):=by
 refine⟨by rw[Cw,Cw,h.1,k.1],λi v x h1 h2=>?_⟩;rcases L9 i cs.length with hi|hi
 .rw[EV hi] at h1
  rw[EV (by rw[<-h.1];exact hi)] at h2;exact h.2 i v x h1 h2
 .rw[FD hi] at h1
  rw[FD (by rw[<-h.1];exact hi),<-h.1] at h2;exact k.2 _ v x h1 h2
def I7 {α:Type} (enc:TypeId×Value->H) (P:Program) (w:World) (t:TypeId) (e:α->List V) (Q:α->Prop):Prop:=
 ∀(fuel:Nat) (cs:List Value) (x:DataW H×List MemPlace),DataW.trod enc P w 0 (λ_=>true) true fuel t cs=some x->∃a,Me w cs (e a)/\Q a
theorem hH {t:TypeId} {k:IntKind} (ht:P.underlying t=some (.int k)):I7 enc P w t (λn:Int=>[.lit (.int k n)]) (λn=>(Lit.int k n).wf=true):=by
 intro fuel cs x h;obtain⟨n,rfl,_,hw⟩:=DataW.trod_int ht h;exact⟨n,.one (.lit rfl),hw⟩
theorem WS {t:TypeId} (ht:P.underlying t=some .bool):I7 enc P w t (λb:Bool=>[.lit (.bool b)]) (λ_=>True):=by
 intro fuel cs x h;obtain⟨n,rfl,_⟩:=DataW.trod_bool ht h;exact⟨n,.one (.lit rfl),trivial⟩
theorem hM {α β:Type} {t:TypeId} {e:α->List V} {e':β->List V} {Q:α->Prop} {Q':β->Prop} (h:I7 enc P w t e Q) (f:α->β) (he:∀a,Q a->e' (f a)=e a) (hq:∀a,Q a->Q' (f a)):I7 enc P w t e' Q':=by
 intro fuel cs x hx;obtain⟨a,h1,h2⟩:=h fuel cs x hx;exact⟨f a,by rw[he a h2];exact h1,hq a h2⟩
theorem SZ {α:Type} {t el:TypeId} {e:α->List V} {Q:α->Prop} (ht:P.underlying t=some (.slice el)) (hs:∀a,(e a).length=P.cellsOf el) (hz:P.cellsOf el≠0) (he:I7 enc P w el e Q):
  I7 enc P w t (λxs:List α=>[.tr (xs.map e)]) (λxs=>xs.length<=maxLen/\∀x∈xs,Q x):=by
 intro fuel cs x h;rcases DataW.trod_slice ht h with⟨rfl,_⟩|⟨a,len,cap,elems,rest,n,_,rfl,rfl,hb,hl,hm,Yn,Pz,_,_⟩
 .exact⟨[],.one .emp,by simp,by simp⟩
 .have each:∀i:Fin len,∃p,∃c:List Value,Me w c (e p)/\Q p/\c.length=P.cellsOf el/\∀(j:Nat) (u:Value),c[j]?=some u->w.cell? (a.add (i.1*P.cellsOf el+j))=some u:=by
   intro i;have h1:=Pz i.1 i.2;have h2:elems[i.1]?=some elems[i.1]:=CB (by omega);rw[h2] at h1;obtain⟨c,hc,hy⟩:=A9.1 h1;obtain⟨p,hK,hQ⟩:=he _ _ _ hy;obtain⟨_,Qd,Cl⟩:=World.cells?_some hc;refine⟨p,c,hK,hQ,Qd,λj u hj=>?_⟩;have JS:j < P.cellsOf el:=by
    have:=(CX.1 hj).1;omega
   have h3:=Cl j JS;rw[hj] at h3;rw[<-h3]
   congr 1
   simp only[Addr.add];split<;>split<;>split<;>simp_all<;>omega
  refine⟨List.ofFn λi=>Classical.choose (each i),.one ?_,by simp;omega,?_⟩
  .rcases tE len with rfl|Mf
   .exact .emp
   .have N0:∀(k:Nat) (x:V),((List.ofFn λi=>Classical.choose (each i)).map e).flatten[k]?=some x->∃v,w.cell? (a.add k)=some v/\Rd w (okW w) v x:=by
     intro k x hk
     haveI:Anchor:=⟨w⟩
     obtain⟨i,j,row,h1,h2,rfl⟩:=uA (sz:=P.cellsOf el) (λr hr=>by
      obtain⟨p,_,rfl⟩:=Dx.1 hr;exact hs p) hk
     rw[Dt] at h1;obtain⟨p,h3,rfl⟩:=AL.1 h1;obtain⟨hi,rfl⟩:=CX.1 h3;rw[List.length_ofFn] at hi;obtain⟨c,hK,hQ,Qd,Cl⟩:=UH (each ⟨i,hi⟩);rw[List.getElem_ofFn] at h2;have JS:j < c.length:=by
      have:=(CX.1 h2).1;rw[hK.1];exact this
     exact⟨c[j],Cl j _ (CB JS),hK.2 j _ _ (CB JS) h2⟩
    have Xai:a.spot=none:=by
     obtain⟨c,hK,hQ,Qd,Cl⟩:=UH (each ⟨0,Mf⟩);have h0:=Cl 0 c[0] (CB (by omega));simp only[fG,GW,Addr.add,if_true] at h0;exact World.cell?_spot h0
    obtain⟨g,o,sp⟩:=a;simp only at Xai;subst Xai;have HA:∀k,(Addr.mk g o none).add k=⟨g,o+k,none⟩:=λk=>by
     unfold Addr.add;split
     .rename_i h;rw[h];rfl
     .rfl
    refine .tr (u:=λk=>(w.cell? ⟨g,o+k,none⟩).getD undef) (by simp) hl hm (sz:=P.cellsOf el) (λr hr=>by
      obtain⟨p,_,rfl⟩:=Dx.1 hr;exact hs p) ?_ (λk x hk=>?_) (λk x hk=>?_)
    .obtain⟨c,hK,hQ,Qd,Cl⟩:=UH (each ⟨0,Mf⟩)
     have h0:=Cl 0 c[0] (CB (by omega));rw[HA] at h0;exact fI h0
    .obtain⟨v,hv,_⟩:=N0 k x hk
     rw[HA] at hv;rw[hv];rfl
    .obtain⟨v,hv,hr⟩:=N0 k x hk
     rw[HA] at hv;rw[hv];exact hr
  .intro p hp
   obtain⟨i,rfl⟩:=List.mem_ofFn.1 hp;obtain⟨c,hK,hQ,_⟩:=UH (each i);exact hQ
def Mg {α:Type} (enc:TypeId×Value->H) (P:Program) (w:World) (fs:List Field) (off sz:Nat) (e:α->List V) (Q:α->Prop):Prop:=
 ∀(n:Nat) (cs:List Value) (xs:List (DataW H×List MemPlace)),cs.length=off+sz->xs.length=fs.length->
  (∀(i:Nat) (f:Field),fs[i]?=some f->DataW.trod enc P w 0 (λ_=>true) true n f.type ((cs.drop f.offset).take (P.cellsOf f.type))=xs[i]?)->∃a,Me w (cs.drop off) (e a)/\Q a
theorem WT {α:Type} {f:Field} {off sz:Nat} {e:α->List V} {Q:α->Prop} (ho:f.offset=off) (hs:P.cellsOf f.type=sz) (h:I7 enc P w f.type e Q):Mg enc P w [f] off sz e Q:=by
 intro n cs xs hl hx hf;have h0:=hf 0 f rfl
 match xs,hx with
 | [y],_=>
  obtain⟨a,hK,hQ⟩:=h _ _ _ h0;refine⟨a,?_,hQ⟩;rw[ho,hs,D6 (by rw[eZ];omega)] at hK;exact hK
theorem Ta {α β:Type} {f:Field} {fs:List Field} {off sa sb:Nat} {a:α->List V} {b:β->List V} {Qa:α->Prop} {Qb:β->Prop} (ho:f.offset=off) (hs:P.cellsOf f.type=sa) (ha:I7 enc P w f.type a Qa)
  (hb:Mg enc P w fs (off+sa) sb b Qb):Mg enc P w (f::fs) off (sa+sb) (λx:α×β=>a x.1++b x.2) (λx=>Qa x.1/\Qb x.2):=by
 intro n cs xs hl hx hf
 match xs,hx with
 | y::ys,hx=>
  have h0:=hf 0 f rfl;obtain⟨x0,hK,hQ⟩:=ha _ _ _ h0;obtain⟨x1,hK1,hQ1⟩:=hb n cs ys (by omega) (by simpa using hx) (λi g hg=>by simpa using hf (i+1) g (by simpa using hg));refine⟨(x0,x1),?_,hQ,hQ1⟩;rw[ho,hs] at hK;have e:cs.drop off=(cs.drop off).take sa++cs.drop (off+sa):=by rw[<-List.drop_drop,eT]
  rw[e];exact hK.append hK1
theorem Xco {α:Type} {t:TypeId} {fs:Array Field} {e:α->List V} {Q:α->Prop} {sz:Nat} (ht:P.underlying t=some (.struct fs)) (hs:P.cellsOf t=sz) (h:Mg enc P w fs.toList 0 sz e Q):I7 enc P w t e Q:=by
 intro fuel cs x hx;obtain⟨xs,n,_,rfl,hl,hZ,hf⟩:=DataW.trod_struct ht hx;obtain⟨a,hK,hQ⟩:=h n cs xs (by omega) (by simpa using hZ) (λi f iA=>hf i f (by simpa using iA));exact⟨a,by simpa using hK,hQ⟩
theorem Rd.I8 {ok:Nat->Prop} {v:Value} {x:V} (h:Rd w ok v x):Ev.AF x=true:=by
 cases h<;>rfl
theorem Xcn {α:Type} {t el:TypeId} {e:α->V} {Q:α->Prop} {r:Reach} {b0:Nat} {v:Value} {x:DataW H} {p:List MemPlace} (ht:P.underlying t=some (.slice el)) (ho:I7 enc P w t (λa=>[e a]) Q)
  (hv:Value.okWide P w r b0 t v) (h:DataW.Trod enc P w 0 (λ_=>true) true t v x p):∃a:α,Q a/\∀U,En w (okW w) U v (e a):=by
 obtain⟨A0,len,cap,rfl⟩:=okWide_slice ht hv;obtain⟨n,hn⟩:=h;obtain⟨a,hK,hQ⟩:=ho _ _ _ hn
 haveI:Anchor:=⟨w⟩
 exact⟨a,hQ,λU=>(hK.2 0 _ _ rfl rfl).en⟩
theorem Xcm {α:Type} {t:TypeId} {fs:Array Field} {e:α->List V} {Q:α->Prop} {r:Reach} {b0:Nat} {v:Value} {x:DataW H} {p:List MemPlace} (ht:P.underlying t=some (.struct fs)) (ho:I7 enc P w t e Q)
  (hv:Value.okWide P w r b0 t v) (h:DataW.Trod enc P w 0 (λ_=>true) true t v x p):∃a:α,Q a/\∀U,En w (okW w) U v (.agg (e a)):=by
 obtain⟨cs,rfl,_⟩:=okWide_struct ht hv;obtain⟨n,hn⟩:=h;obtain⟨a,hK,hQ⟩:=ho _ _ _ hn;simp only[Value.cells] at hK
 haveI:Anchor:=⟨w⟩
 refine⟨a,hQ,λU=>.agg (by rw[<-Array.length_toList];exact hK.1) (λy hy=>?_) (λk u y h1 h2=>(hK.2 k u y (by simpa using h1) h2).en)⟩;obtain⟨k,hk,rfl⟩:=OU hy;exact (hK.2 k _ _ (CB (by rw[hK.1];exact hk)) (CB hk)).I8
inductive PV (w:World):List Value->List V->Prop
 | nil:PV w [] []
 | cons {u:Value} {x:V} {us:List Value} {xs:List V} (h:∀U,En w (okW w) U u x) (hs:PV w us xs):PV w (u::us) (x::xs)
theorem Xbd:PV w [] []:=.nil
theorem Y85 {u:Value} {x:V} {us:List Value} {xs:List V} (h:∀U,En w (okW w) U u x) (hs:PV w us xs):PV w (u::us) (x::xs):=.cons h hs
theorem Xbr {us:List Value} {xs:List V} (h:PV w us xs):∀(j:Nat) (u:Value) (x:V),us[j]?=some u->xs[j]?=some x->∀U,En w (okW w) U u x:=by
 induction h with
 | nil=>intro j u x h1;simp at h1
 | cons h hs ih=>
  intro j u x h1 h2;cases j with
  | zero=>simp at h1 h2;subst h1;subst h2;exact h
  | succ j=>exact ih j u x (by simpa using h1) (by simpa using h2)
theorem Y8s [Anchor] {M:X2} {f:FuncId} {us:List Value} {xs os:List V} (WU:Anchor.w=w) (hm:M.AU f=[]) (hc:NF P (M.AU f) f xs (.lit (.bool true)) os) (ha:us.length=xs.length) (he:∀(j:Nat) (u:Value) (x:V),us[j]?=some u->xs[j]?=some x->∀U,En w (okW w) U u x):
  Calls P f us.toArray w (λe w'=>e=.returned (.bool true)/\Below w.heap.size w w'):=by
 have hA:∀(us:List Value) (xs:List V),us.length=xs.length->(∀(j:Nat) (u:Value) (x:V),us[j]?=some u->xs[j]?=some x->∀U,En w (okW w) U u x)->N9 P w (okW w) (λ_=>False) [] us xs []:=by
  intro us
  induction us with
  | nil=>intro xs hl _;cases xs with
   | nil=>exact .nil
   | cons x xs=>simp at hl
  | cons u us ih=>intro xs hl he;cases xs with
   | nil=>simp at hl
   | cons x xs=>exact .cons (f1:=[]) (f2:=[]) ⟨he 0 u x rfl rfl,rfl⟩ (ih xs (by simpa using hl) (λj v y h1 h2=>he (j+1) v y (by simpa using h1) (by simpa using h2)))
 refine (hc w us.toArray [] (λ_=>False) (λ_=>False) (okW w) ⟨by rw[WU];exact B4 _,λk _=>by rw[WU],λg hg=>hg.elim⟩ (by rw[hm];exact hA us xs ha he) List.nodup_nil (λg hg=>by simp at hg) (λg hg=>⟨hg,λh=>h,λh=>h⟩) (λg hg=>hg.elim)).mono (λe w' ⟨v,hv,hd⟩=>?_);obtain⟨FH,ok',top',fr,fo,SY,_⟩:=hd;have:v=.bool true:=by
  simp only[Fp] at SY;cases SY with
  | lit h=>rfl
 subst this;exact⟨hv,FH.below⟩
end
end Go.Proofs.YthdljdelfgofdaaGreatDoor.Ev
namespace Go.Proofs.YthdljdelfgofdaaGreatDoor.Ev
open Go Go.RowKit
variable [Anchor]
def Lw (P:Program) (c:Code) (Q:Exit->Act->World->Prop) (a:Act) (w:World):Prop:=
 ∀(b:Frame) (k:List Item) (cs:List Frame),∃e a' w',Q e a' w'/\Arrives P (lone (b.at a (.code c::.inLoop c::k)) cs w) b k cs e a' w'
def wpL (P:Program) (c:Code) (Q:Exit->Act->World->Prop) (a:Act) (w:World):Prop:=
 match c with
 | .loop c=>Lw P c Q a w
 | c=>c.wp P Q a w
section
variable {P:Program} {c:Code} {Q:Exit->Act->World->Prop} {a:Act} {w:World}
theorem Tb (h:wpL P c Q a w):c.wp P Q a w:=by
 cases c with
 | loop c=>
  intro b k cs;obtain⟨e,a',w',hq,Zzz⟩:=h b k cs;exact⟨e,a',w',hq,.of_steps (.one step_loop) Zzz⟩
 | _=>exact h
theorem Y9i (h:c.wp P (Exit.then (λa' w'=>Lw P c Q a' w') Q) a w):Lw P c Q a w:=by
 intro b k cs;obtain⟨e,a₁,w₁,hq,Zzz⟩:=h b (.inLoop c::k) cs;cases e with
 | normal=>
  obtain⟨e₂,a₂,w₂,hq₂,Zzz₂⟩:=hq b k cs;exact⟨e₂,a₂,w₂,hq₂,.of_steps (Steps.trans Zzz (.one step_inLoop)) Zzz₂⟩
 | exit id=>exact⟨_,a₁,w₁,hq,.pass (x:=.inLoop c) rfl (λ_ _=>.inl (by simp)) Zzz⟩
 | goto l=>exact⟨_,a₁,w₁,hq,.pass (x:=.inLoop c) rfl (λ_ _=>.inl (by simp)) Zzz⟩
 | ret=>exact⟨_,a₁,w₁,hq,.pass (x:=.inLoop c) rfl (λ_ _=>.inl (by simp)) Zzz⟩
 | panic ch=>exact⟨_,a₁,w₁,hq,.pass (x:=.inLoop c) rfl (λ_ _=>.inl (by simp)) Zzz⟩
 | outgrown=>exact⟨_,a₁,w₁,hq,.pass (x:=.inLoop c) rfl (λ_ _=>.inl (by simp)) Zzz⟩
end
def D0:Id->Prop:=LZ 64000
theorem D0.zero {id:Id} (h:D0 id):id.1=0:=h.1
def WV (P:Program) (B:Nat) (io:Nat->Prop) (fl:List Nat) (w:World) (a:Act) (U:AY) (t':St) (a':Act) (w':World):Prop:=
 ∃U' F',Rel P B io w' a'.tmps t' U' F' fl/\J6 B io w w'/\(∀id i,id.1=0->U id=some i->U' id=some i)/\a'.tmps.size=a.tmps.size/\a'.defers=a.defers
def Cx (P:Program) (c:Code) (S:St) (R:Ex->St->Prop):Prop:=
 ∀(t:St) (B:Nat) (io:Nat->Prop) (w:World) (a:Act) (U:AY) (F:Id->List Nat) (fl:List Nat) (Q:Exit->Act->World->Prop),Qs D0 S t->Rel P B io w a.tmps t U F fl->EH a.tmps.size c=true->
  (∀ex S' t' a' w',R ex S'->EI D0 t S' t'->WV P B io fl w a U t' a' w'->Q ex.to a' w')->wpL P c Q a w
section
variable {P:Program} {M:X2} {C:Kf} {S:St} {R:Ex->St->Prop} {B:Nat} {io:Nat->Prop} {w w1:World} {a a1 a':Act} {w':World} {U U1:AY} {F F1:Id->List Nat} {fl:List Nat} {t t':St}
theorem G8.x (h:G8 P B io fl w a U t' a' w'):WV P B io fl w a U t' a' w':=by
 obtain⟨U',F',h1,h2,h3,h4,h5⟩:=h;exact⟨U',F',h1,h2,λid i _ h=>h3 id i h,h4,h5⟩
theorem WV.trans (hl:J6 B io w w1) (hU:∀id i,id.1=0->U id=some i->U1 id=some i) (ht:a1.tmps.size=a.tmps.size) (hd:a1.defers=a.defers) (h:WV P B io fl w1 a1 U1 t' a' w'):WV P B io fl w a U t' a' w':=by
 obtain⟨U',F',h1,h2,h3,h4,h5⟩:=h;exact⟨U',F',h1,hl.trans h2,λid i h0 h=>h3 id i h0 (hU id i h0 h),h4.trans ht,h5.trans hd⟩
theorem Xb2 (h:R .normal S):Cx P .skip S R:=λt B io w a U F fl Q hE hR hd hQ=>wp_skip (hQ _ _ _ _ _ h hE.three (G8.refl hR).x)
theorem PW (h:R .ret S):Cx P .ret S R:=λt B io w a U F fl Q hE hR hd hQ=>wp_ret (hQ _ _ _ _ _ h hE.three (G8.refl hR).x)
theorem Xay {i:Nat} (h:R (.exit i) S):Cx P (.exit i) S R:=λt B io w a U F fl Q hE hR hd hQ=>wp_exit (hQ _ _ _ _ _ h hE.three (G8.refl hR).x)
def NH (K:St->Prop) (R:Ex->St->Prop):Ex->St->Prop
 | .normal,s=>K s
 | e,s=>R e s
theorem PX {x y:Code} (h:Cx P x S (NH (λs=>Cx P y s R) R)):Cx P (.seq x y) S R:=by
 intro t B io w a U F fl Q hE hR hd hQ;simp only[EH,Bg] at hd;refine wp_seq (Tb (h t B io w a U F fl _ hE hR hd.1 (λex S' t' a' w' hr hx hA=>?_)));cases ex with
 | normal=>
  obtain⟨U',F',r1,r2,r3,r4,r5⟩:=hA;show y.wp P Q a' w';exact Tb (hr t' B io w' a' U' F' fl Q hx.1 r1 (by rw[r4];exact hd.2) (λex2 S2 t2 a2 w2 C6 DY wP=>hQ _ _ _ _ _ C6 (hx.trans DY) (.trans r2 r3 r4 r5 wP)))
 | ret=>exact hQ _ _ _ _ _ hr hx hA
 | exit i=>exact hQ _ _ _ _ _ hr hx hA
theorem Y0v {c:Operand} {x y:Code} {b:Bool} (hc:S.AP c=.lit (.bool b)) (h:Cx P (if b then x else y) S R):Cx P (.cond c x y) S R:=by
 intro t B io w a U F fl Q hE hR hd hQ;simp only[EH,Bg] at hd;have hv:=hR.AP c;rw[hE.AP,hc] at hv;generalize hq:a.eval c=q at hv;cases hv;refine wp_cond hq (Tb ?_);refine h t B io w a U F fl Q hE hR ?_ hQ;cases b
 .exact hd.2
 .exact hd.1
def inX (i:Nat) (R:Ex->St->Prop):Ex->St->Prop
 | .exit j,s=>if j=i then R .normal s else R (.exit j) s
 | e,s=>R e s
theorem Y88 {i:Nat} {c:Code} (h:Cx P c S (inX i R)):Cx P (.block i c) S R:=by
 intro t B io w a U F fl Q hE hR hd hQ;simp only[EH] at hd;refine wp_block (Tb (h t B io w a U F fl _ hE hR hd (λex S' t' a' w' hr hx hA=>?_)));cases ex with
 | exit j=>
  show Exit.inBlock i Q (.exit j) a' w';simp only[inX] at hr;by_cases hj:j=i
  .subst hj
   rw[Ah rfl] at hr;simp only[Exit.inBlock,if_true];exact hQ _ _ _ _ _ hr hx hA
  .rw[Ai hj] at hr
   simp only[Exit.inBlock,Ai hj];exact hQ _ _ _ _ _ hr hx hA
 | normal=>exact hQ _ _ _ _ _ hr hx hA
 | ret=>exact hQ _ _ _ _ _ hr hx hA
theorem Xa6 {c:Code} (h:Cx P c S (NH (λs=>Cx P (.loop c) s R) R)):Cx P (.loop c) S R:=by
 intro t B io w a U F fl Q hE hR hd hQ;refine Y9i (Tb (h t B io w a U F fl _ hE hR hd (λex S' t' a' w' hr hx hA=>?_)));cases ex with
 | normal=>
  obtain⟨U',F',r1,r2,r3,r4,r5⟩:=hA;show Lw P c Q a' w';exact hr t' B io w' a' U' F' fl Q hx.1 r1 (by rw[r4];exact hd) (λex2 S2 t2 a2 w2 C6 DY wP=>hQ _ _ _ _ _ C6 (hx.trans DY) (.trans r2 r3 r4 r5 wP))
 | ret=>exact hQ _ _ _ _ _ hr hx hA
 | exit i=>exact hQ _ _ _ _ _ hr hx hA
theorem wQ {c:Code} {R':Ex->St->Prop} (h:Cx P c S R) (hR:∀e s,R e s->R' e s):Cx P c S R':=λt B io w a U F fl Q hE wR hd hQ=>h t B io w a U F fl Q hE wR hd (λex S' t' a' w' hr=>hQ ex S' t' a' w' (hR _ _ hr))
abbrev wS:=FuncId×List V×V×List V
open Classical in
noncomputable def one (q:wS):Kf:=λf xs=>if f=q.1/\xs=q.2.1 then some q.2.2 else none
def Xx:Kf:=λ_ _=>none
def Zr (P:Program) (M:X2) (q:wS):Prop:=(∃fn,P.funcs[q.1]?=some fn/\fn.body.isSome=true)/\NF P (M.AU q.1) q.1 q.2.1 q.2.2.1 q.2.2.2
theorem PY (hP:X7 P) {q:wS} (h:Zr P M q):HB P M (one q):=Yu6 hP λf xs r os hc=>by
 obtain⟨q1,q2,q3,q4⟩:=q;unfold one at hc;split at hc
 .rename_i hh
  obtain⟨rfl,rfl⟩:=hh;injection hc with hc;injection hc with h1 h2;subst h1;subst h2;exact h
 .cases hc
theorem Wf (hP:X7 P):HB P M Xx:=Yu6 hP λf xs r os hc=>by cases hc
theorem PZ (hP:X7 P) (C:Nat->Kf) (hC:∀k,HB P M (C k)) {i:Nat} {ops:Array Oper} {S':St} (he:FG P M C ops ⟨S.env,S.heap,S.ep+1⟩ 0 ops.toList=some S') (h:R .normal S'):Cx P (.region i ops false) S R:=by
 intro t B io w a U F fl Q hE hR hd hQ;have ht:=hE.tick;obtain⟨t',g,x,_⟩:=Qs.VZ (D:=D0) (λid h=>h.zero) ops.toList ht.1 (by simp) he;have Y7:∀id:Id,id.1=t.ep+1->U id=none:=λid Zu=>by
  cases hr:U id with
  | none=>rfl
  | some x=>have:=hR.C5 id (by rw[hr];rfl);omega
 refine wp_region ?_;rw[s8,<-Array.length_toList];exact Y8w hC ops.toList hR.tick (by simp) hd (λid h2 _=>Y7 id h2) g (λa' w' hA=>hQ _ _ _ _ _ h (ht.trans x) hA.x)
theorem Xa9 (hP:X7 P) (C:Nat->Kf) (hC:∀k,HB P M (C k)) {i:Nat} {ops:Array Oper} (hs:Region.noSelect ops=true) {S':St} (he:Fb P M C ops ⟨S.env,S.heap,S.ep+1⟩ [] 0 ops.toList=some S') (h:R .normal S'):Cx P (.region i ops true) S R:=by
 intro t B io w a U F fl Q hE hR hd hQ;have ht:=hE.tick;obtain⟨t',g,x⟩:=Qs.draw (D:=D0) (λid h=>h.zero) ops.toList ht.1 (by simp) he;have Y7:∀id:Id,id.1=t.ep+1->U id=none:=λid Zu=>by
  cases hr:U id with
  | none=>rfl
  | some x=>have:=hR.C5 id (by rw[hr];rfl);omega
 refine wp_region_any hP.mixed (Y7b hC (hR.tick.drawn _) g Y7 hd (λa' w' hA=>hQ _ _ _ _ _ h (ht.trans x) ?_));obtain⟨U',F',r1,r2,r3,r4,r5⟩:=hA;exact⟨U',F',r1,⟨r2.os,r2.tape,r2.output,r2.size,r2.block⟩,λid i _ h=>r3 id i h,r4,r5⟩
end
section
variable {P:Program} {M:X2} {B:Nat} {io:Nat->Prop} {w:World} {a:Act} {s:St} {U:AY} {F:Id->List Nat} {fl:List Nat} {k:Nat} {o:Oper}
theorem Y3q (h:Rel P B io w a.tmps s U F fl) {t yt e:TypeId} {x y:Operand} (ho:o.op=.binOp .eql t x y yt) (Qt:Qo P t=some e) (hx:s.AP x=.tr []) (hy:s.AP y=.lit (.slice none 0 0)):
  ∃b,Ce P o a w (Cf P B io w a.tmps s U fl k (.lit (.bool b)) s):=by
 have ht:=LH Qt;have VE:∃ad n c,a.eval x=.slice ad n c:=by
  have hR:=h.rowsOf (ok':=λg=>g < w.heap.size) (h.AP x) (by rw[hx];rfl) (λg hg=>hg.2) (λ_ _ _ _ _ _ _ _ _ _ _ _ hg _=>hg);generalize a.eval x=q at hR;cases hR with
  | emp=>exact⟨_,_,_,rfl⟩
  | tr=>exact⟨_,_,_,rfl⟩
 obtain⟨ad,n,c,VE⟩:=VE;have Iu:a.eval y=.slice none 0 0:=by
  have:=h.AP y;rw[hy] at this;generalize a.eval y=q at this;cases this;rfl
 refine⟨ad.isNone,.value (v:=.bool ad.isNone) (w':=w) ?_ (.same h (.lit rfl))⟩;have g3:(eqGuard .eql t x y (.slice ad n c) (.slice none 0 0)).run P w=.ok () w:=by simp[eqGuard]
 have g4:(binOp .eql t (.slice ad n c) (.slice none 0 0)).run P w=.ok (.bool ad.isNone) w:=by
  have h1:∀d,(Op.equalIn (d+1) t (.slice ad n c) (.slice none 0 0)).run P w=.ok ad.isNone w:=by
   intro d;cases ad<;>simp[Op.equalIn,run_underlying ht]
  have h2:(Op.equal t (.slice ad n c) (.slice none 0 0)).run P w=.ok ad.isNone w:=h1 9999;simp[binOp,h2]
 simp only[execOp,ho,Sem.run_bind,Sem.run_pure,Result.andThen_ok,VE,Iu,g3,g4]
theorem Xbc (M:X2) (hP:X7 P) {S:St} {R:Ex->St->Prop} {i:Nat} {d0 d1:Tmp} {x0 y:Operand} {t yt e QA KI:TypeId} {p0 p1:String} {QB KJ:Array Edge} (Qt:Qo P t=some e) (hx:S.AP x0=.tr []) (hy:(({S with ep:=S.ep+1}:St).put (some d0) (.tr [])).AP y=.lit (.slice none 0 0))
  (h:∀b,R .normal ((({S with ep:=S.ep+1}:St).put (some d0) (.tr [])).put (some d1) (.lit (.bool b)))):
  Cx P (.region i #[⟨some d0,.move x0,QA,p0,QB,none⟩,⟨some d1,.binOp .eql t (.tmp d0) y yt,KI,p1,KJ,none⟩] false) S R:=by
 intro t1 B io w a U F fl Q hE hR hd hQ;have ht:=hE.tick;have WW:∀{s s':St} (x:Operand),s'.env=s.env->s'.AP x=s.AP x:=λ{s s'} x he=>by cases x<;>simp[St.AP,he]
 have Y7:∀id:Id,id.1=t1.ep+1->U id=none:=λid Zu=>by
  cases hr:U id with
  | none=>rfl
  | some x=>have:=hR.C5 id (by rw[hr];rfl);omega
 refine wp_region ?_;show wpOps P _ Q (List.range 2) a w;rw[show List.range 2=[0,1] from rfl,wpOps_cons];have hdd:LW a.tmps.size [⟨some d0,.move x0,QA,p0,QB,none⟩,⟨some d1,.binOp .eql t (.tmp d0) y yt,KI,p1,KJ,none⟩]=true:=hd;have Eu:({t1 with ep:=t1.ep+1}:St).AP x0=.tr []:=(WW (s:=S) (s':={t1 with ep:=t1.ep+1}) x0 hE.env).trans hx;refine VQ (M:=M) (C:=Xx) (v:=.tr []) (s1:={t1 with ep:=t1.ep+1}) (g:=true) hR.tick rfl (gJ (i:=0) hdd rfl) rfl (λ_ id h1 _=>Y7 id h1) (λ_=>by simp[Ib,Xj,Eu]) (λ_=>Wf hP _ _ _ _ _ _ F _ _ _ _ hR.tick (λid h1 _=>Y7 id h1)) (λa' w' U' F' D2 wT hL1 hU1 hdom1 WX wU=>?_);simp only[if_true] at D2 wT;rw[wpOps_cons];have WY:(({t1 with ep:=t1.ep+1}:St).put (some d0) (.tr [])).env=(({S with ep:=S.ep+1}:St).put (some d0) (.tr [])).env:=by
  simp[St.put,hE.env]
 have H7:=(WW (s:=({S with ep:=S.ep+1}:St).put (some d0) (.tr [])) (s':=({t1 with ep:=t1.ep+1}:St).put (some d0) (.tr [])) y WY).trans hy;have wV:(({t1 with ep:=t1.ep+1}:St).put (some d0) (.tr [])).AP (.tmp d0)=.tr []:=by simp[St.AP,St.put,Bi]
 obtain⟨b,hb⟩:=Y3q (k:=1) (o:=⟨some d1,.binOp .eql t (.tmp d0) y yt,KI,p1,KJ,none⟩) D2 rfl Qt wV H7;unfold wpOp;rw[show (#[(⟨some d0,.move x0,QA,p0,QB,none⟩:Oper),⟨some d1,.binOp .eql t (.tmp d0) y yt,KI,p1,KJ,none⟩])[1]?=some ⟨some d1,.binOp .eql t (.tmp d0) y yt,KI,p1,KJ,none⟩ from rfl];simp only;rw[Ypk D2 (o:=⟨some d1,.binOp .eql t (.tmp d0) y yt,KI,p1,KJ,none⟩) (g:=true) rfl];simp only[if_true];refine .inl (hb.Cn _ _ (λval w2 hp=>?_));obtain⟨CO,Yk,hl,U2,F2,JZ,X3,iB,hdom2⟩:=hp;have wW:=JZ.PB (dst:=some d1) (λd hd=>by rw[WX];exact gJ (i:=1) hdd rfl d hd) X3;refine hQ _ _ _ _ _ (h b) ((ht.trans (ht.1.put (some d0) (.tr []))).trans ((ht.1.put (some d0) (.tr [])).1.put (some d1) (.lit (.bool b)))) ⟨U2,F2,wW,hL1.trans hl,λid i h0 hi=>iB _ _ (hU1 _ _ hi),(vD _ _ _).trans WX,(vE _ _ _).trans wU⟩
end
theorem En.wX {w:World} {ok:Nat->Prop} {U U':AY} {v:Value} {id:Id} {i off:Nat} (hU:∀i,U id=some i->U' id=some i) (h:En w ok U v (.ptr id i off)):En w ok U' v (.ptr id i off):=by
 generalize hq:V.ptr id i off=q at h;cases h<;>cases hq;rename_i h;exact .ptr (hU _ h)
theorem En.sl0 {w:World} {ok:Nat->Prop} {U U':AY} {v:Value} {id:Id} {off len:Nat} (hU:∀i,U id=some i->U' id=some i) (h:En w ok U v (.sl id off len)):En w ok U' v (.sl id off len):=by
 cases h with
 | sl h hc=>exact .sl (hU _ h) hc
 | sle h=>
  obtain⟨i,hi⟩:=EW.1 h;exact .sle (by rw[hU _ hi];rfl)
theorem Pl.QC {U U':AY} (hU:∀id i,id.1=0->U id=some i->U' id=some i) {p:Nat} {m:Yt} {u:Value} {x:V} (h:Pl U p m u x):Pl U' p m u x:=by
 cases m
 .exact trivial
 .exactλw ok=>(h w ok).wX (λi=>hU _ i rfl)
 .exact trivial
 .unfold Pl at h ⊢
  simp only at h ⊢;split
  .obtain⟨us,h1,h2,h3⟩:=h
   exact⟨us,h1,h2,λj v e rows hv hc w ok=>(h3 j v e rows hv hc w ok).sl0 (λi=>hU _ i rfl)⟩
  .rename_i Yh
   split at h
   .rename_i cs;exact absurd rfl (Yh cs)
   .exactλe rows he w ok=>(h e rows he w ok).sl0 (λi=>hU _ i rfl)
theorem ND.QC {U U':AY} (hU:∀id i,id.1=0->U id=some i->U' id=some i) {p:Nat} {ms:List Yt} {us:List Value} {xs:List V} (h:ND U p ms us xs):ND U' p ms us xs:=by
 induction h with
 | nil=>exact .nil
 | cons h _ ih=>exact .cons (h.QC hU) ih
def QD (P:Program) (M:X2) (f:FuncId) (fn:Func) (xs:List V) (y:V×List V) (e:Ex) (s:St):Prop:=
 (match e with|.exit _=>False|_=>True)/\((Gz P s fn.results.toList).bind λvs=>(s.liftAll P fn.resultTypes.toList vs).bind λz=>(z.2.outs P 0 fn.params.toList (M.AU f) xs).map λos=>(UZ z.1,os))=some y
section
variable {P:Program} {M:X2}
theorem Xa7 (hP:X7 P) {f:FuncId} {fn:Func} {c:Code} {xs:List V} {r:V} {os:List V} {s1:St} (CL:P.funcs[f]?=some fn) (hc:fn.body=some c) (wY:St.enters ⟨λ_=>.undef,λ_=>none,0⟩ 0 (M.AU f) xs=some s1)
  (Vx:Cx P c s1 (QD P M f fn xs (r,os))):NF P (M.AU f) f xs r os:=by
 intro w us G T X ok hT Mh NG hG Yg hX;obtain⟨b,hb⟩:∃b,b=64000:=⟨_,rfl⟩;have hD1:∀id:Id,LZ b id->64000<=id.2:=λid Zu=>by rw[<-hb];exact Zu.2
 have hD0:∀id:Id,LZ b id->id.1=0:=λid Zu=>Zu.1;obtain⟨t1,WZ,e1⟩:=Qs.enters hD1 (PL b w X) wY
 let tmps:=us++Array.replicate (fn.ntmps - us.size) undef
 open Classical in
 let HC:List Nat:=(List.range w.heap.size).filter λg=>decide (g ∉ G/\¬X g)
 have Nz:∀g,g∈HC↔g < w.heap.size/\g ∉ G/\¬X g:=λg=>by
  simp only[HC,OX,UR,Bj]
 have wZ:(G++HC).Nodup:=EC.2 ⟨NG,List.nodup_range.sublist List.filter_sublist,λx hx y hy e=>by subst e;exact ((Nz x).1 hy).2.1 hx⟩;have XA:Jo P w.heap.size T w tmps (DC b w X) (CE b P w X) (λid=>[id.2 - b]) (G++HC) ok:=
  PM hT hX (λg hg=>by
   rcases BT.1 hg with h|h
   .exact hG g h
   .exact⟨((Nz g).1 h).1,((Nz g).1 h).2.2⟩) wZ
 obtain⟨U1,F1,c1,p1⟩:=Y51 (io:=T) (fl:=HC) xs XA Mh (λj u hu=>by
  have Z6:=(CX.1 hu).1;rw[OY];simp only[tmps];rw[eN (by simpa using Z6)];simpa using hu) rfl (λj h1 h2=>by
  simp only[DC,CE];constructor
  .rw[Ai (λh=>by have:=h.2.1;omega)]
  .rw[Ai (λh=>by have:=h.2.1;omega)]) WZ
 have w7:Jo P w.heap.size T w tmps t1 U1 F1 HC ok:=c1.rel;have D2:Rel P w.heap.size T w tmps t1 U1 F1 HC:=w7.Iy λg hg=>⟨λht=>by
  obtain⟨h1,h2,h3⟩:=Yg g hg;rcases c1.AJ g ht with h4|h4
  .obtain⟨id,bk,o,cc,sz,q1,q2,q3⟩:=h4
   simp only[DC] at q1;split at q1
   .rename_i hh
    obtain⟨cur,e,PA⟩:=hX _ hh.2.2;simp only[CE] at q3;rw[Ah hh] at q3;simp only[WB,PA] at q3;injection q3 with q3;injection q3 with q3;exact h3 (q3▸hh.2.2)
   .cases q1
  .exact h2 h4,(Yg g hg).1⟩
 have hDb:D0=LZ b:=by rw[hb];rfl
 have E0:Qs D0 s1 t1:=by rw[hDb];exact e1.1
 refine calls_of_wp CL hc (Tb (Vx t1 w.heap.size T w {tmps:=tmps,defers:=[]} U1 F1 HC _ E0 D2 ?_ (λex s2 t2 a' w' KK hx hA=>?_)))
 .refine Y2h ?_ c (hP.dst f fn c CL hc)
  simp only[tmps,tG,Array.size_replicate];omega
 have e2:EI (LZ b) t1 s2 t2:=by rw[<-hDb];exact hx
 obtain⟨xA,KK⟩:=KK;obtain⟨vs,SY,KK⟩:=A9.1 KK;obtain⟨⟨ys,s3⟩,XB,KK⟩:=A9.1 KK;obtain⟨os',gU,KK⟩:=AL.1 KK;simp only[A6] at KK;obtain⟨rfl,rfl⟩:=KK;have xB:ex=.normal\/ex=.ret:=by
  cases ex with
  | normal=>exact .inl rfl
  | ret=>exact .inr rfl
  | exit i=>exact xA.elim
 have XC:=e2.1.res SY;obtain⟨t3,Xcj,e3⟩:=Ext.liftAll e2.1.ext XB;have Xck:=Ext.outs e3.1 gU;have XD:∀g,X g->t2.heap (0,b+g)=some (KH w g):=λg hg=>by
  have hd:LZ b (0,b+g):=⟨rfl,by simp⟩;rw[e2.2 _ hd,e1.2 _ hd];simp only[DC];rw[Ah ⟨by trivial,by omega,by rw[UF];exact hg⟩,UF]
 obtain⟨U2,F2,JZ,Mi,iB,GA,DV⟩:=hA;obtain⟨rus,Di,XE,xC⟩:=Xb7 JZ fn.results.toList XC;obtain⟨fr,wW,KL,hl3⟩:=Y2u JZ vs (fl1:=HC) JZ (.refl _) Di xC Xcj;obtain⟨t4,fo,hd4,XF,wD,hl4⟩:=Xav (D:=LZ b) JZ xs wW hl3 (p1.QC iB) e3.1 gU Xck;have XG:∀g,X g->∃e,KH w g=⟨false,true,false,e,[]⟩:=λg hg=>by
  obtain⟨cur,e,PA⟩:=hX g hg;exact⟨e,by simp only[KH,PA]⟩
 have XH:∀g,X g->∃o c sz,U2 (0,b+g)=some (.Bl g o c sz):=λg hg=>by
  obtain⟨cur,e,PA⟩:=hX g hg;have h1:CE b P w X (0,b+g)=some (.Bl g cur.size 0 (P.cellsOf e)):=by
   simp only[CE];rw[Ah ⟨by trivial,by omega,by rw[UF];exact hg⟩,UF];simp only[WB,PA]
  exact⟨_,_,_,iB _ _ rfl (c1.ext _ _ h1)⟩
 have XI:∀g,X g->AJ t2 U2 g:=λg hg=>by
  obtain⟨e,he⟩:=XG g hg;obtain⟨o,c,sz,hr⟩:=XH g hg;exact⟨(0,b+g),_,o,c,sz,XD g hg,by rw[he],hr⟩
 have hkt:∀g,DA t2 t4 U2 F2 g->AJ t2 U2 g:=λg ⟨id,bk,h1,h2,h3,h4,_⟩=>JZ.Ei h1 h2 h4;have hXF:∀g,X g->∀x∈fo++(fr++HC),x≠g:=λg hg x hx e=>by
  subst e;obtain⟨e,he⟩:=XG x hg;obtain⟨o,c,sz,hr⟩:=XH x hg;have KB:t4.heap (0,b+x)=some (KH w x):=by
   have hd:LZ b (0,b+x):=⟨rfl,by simp⟩;rw[hd4 _ hd,e3.2.1 _ hd];exact XD x hg
  have Yv:(KH w x).own=true:=by rw[he]
  have hB:=XF.heap _ _ KB;rw[hr] at hB;exact XF.A7 _ _ KB Yv x (hB.top Yv) hx
 have Xaj:bodyPost P fn (λe w'=>∃v,e=.returned v/\PK P (M.AU f) w us xs G T X (UZ ys) os' v w') .normal a' w':=by
  refine⟨DV,_,Y0a XE,_,rfl,Mi,AH t2 U2 w',λg=>DA t2 t4 U2 F2 g,fr,fo,?_,?_,?_,?_,?_,?_⟩
  .exact Fp.of (KL.top λg hg=>hg.left hl4)
  .exact wD.top λg hg=>hg.right hl3
  .have h1:=XF.AT
   rw[<-List.append_assoc] at h1;exact (eR.nodup_iff).1 (EC.1 h1).1
  .intro g hg
   have hm:g∈fo++(fr++HC):=by
    rcases BT.1 hg with h|h
    .exact Ds _ (CC _ h)
    .exact CC _ h
   refine⟨XF.AR g hm,?_⟩;rcases L9 g w.heap.size with Z6|N3
   .left
    rcases Classical.em (g∈G) with h|h
    .exact h
    .exfalso
     rcases Classical.em (X g) with hx|hx
     .exact hXF g hx g hm rfl
     .have hf:g∈HC:=(Nz g).2 ⟨Z6,h,hx⟩
      have h1:=XF.AT;rw[<-List.append_assoc] at h1;refine (EC.1 h1).2.2 g ?_ g hf rfl;rcases BT.1 hg with h|h
      .exact Ds _ h
      .exact CC _ h
   .exact .inr N3
  .rintro g ⟨id,bk,h1,h2,h3,h4,h5⟩
   exact JZ.top id bk h1 h2 h5 g h4
  .exactλg hg=>⟨hg.2,λh=>hg.1 (hkt g h),λh=>hg.1 (XI g h)⟩
 rcases xB with rfl|rfl
 .exact Xaj
 .exact Xaj
theorem Xb0 (hP:X7 P) {f:FuncId} {fn:Func} {c:Code} {xs:List V} {r:V} {os:List V} {s1:St} (CL:P.funcs[f]?=some fn) (hc:fn.body=some c) (wY:St.enters ⟨λ_=>.undef,λ_=>none,0⟩ 0 (M.AU f) xs=some s1)
  (Vx:Cx P c s1 (QD P M f fn xs (r,os))):Zr P M (f,xs,r,os):=⟨⟨fn,CL,by rw[hc];rfl⟩,Xa7 hP CL hc wY Vx⟩
end
def Tc (l:List (Nat×V)):Nat->V:=λt=>(l.lookup t).getD .undef
def xD (l:List (Id×Bd)):Id->Option Bd:=λid=>l.lookup id
def NI (l:List (Nat×V)) (h:List (Id×Bd)) (ep:Nat):St:=⟨Tc l,xD h,ep⟩
def CZ (f:List (Id×Id)) (id:Id):Option Id:=if id.1=0 then some id else f.lookup id
def Da (f:List (Id×Id)):V->V->Prop
 | .undef,_=>True
 | .lit v,y=>y=.lit v
 | .tr rows,y=>y=.tr rows
 | .vw rows,y=>y=.vw rows
 | .rp sh row off,y=>y=.rp sh row off
 | .ptr id i off,.ptr Aw i' Fh=>CZ f id=some Aw/\i=i'/\off=Fh
 | .sl id off len,.sl Aw Fh LK=>CZ f id=some Aw/\off=Fh/\len=LK
 | .sl id off len,.lit (.slice none 0 0)=>CZ f id=none/\off=0/\len=0
 | _,_=>False
def I9 (f:List (Id×Id)):List V->List V->Prop
 | [],[]=>True
 | x::xs,y::ys=>Da f x y/\I9 f xs ys
 | _,_=>False
def VR (f:List (Id×Id)):V->V->Prop
 | .agg xs,.agg ys=>I9 f xs ys
 | .AW xs,.AW ys=>I9 f xs ys
 | .fn g xs,.fn g' ys=>g=g'/\I9 f xs ys
 | x,y=>Da f x y
def BR (f:List (Id×Id)) (S:St) (id:Id) (b:Bd):Prop:=
 match CZ f id with
 | none=>b.box=false/\b.own=true/\b.rows=[]
 | some Aw=>∃c,S.heap Aw=some c/\c.box=b.box/\c.own=b.own/\c.cl=b.cl/\(if b.box then (∃xs ys,b.rows=[xs]/\c.rows=[ys]/\I9 f xs ys) else (c.el=b.el/\c.rows=b.rows))
def Mj (h:List (Id×Bd)) (id:Id):Bool:=id.1 == 0||(h.lookup id).isSome
def IA (h:List (Id×Bd)):V->Bool
 | .ptr id _ _|.sl id _ _=>Mj h id
 | .undef=>false
 | _=>true
def IB (h:List (Id×Bd)):V->Bool
 | .agg xs|.AW xs|.fn _ xs=>xs.all (IA h)
 | x=>IA h x
def hasB (h:List (Id×Bd)) (b:Bd):Bool:=if b.box then b.rows.all (λr=>r.all (IA h)) else true
def iC (f:List (Id×Id)) (l:List (Nat×V)) (h:List (Id×Bd)) (ep:Nat):Bool:=
 decide ((h.filterMap λp=>CZ f p.1).Nodup)&&decide ((h.map (·.1)).Nodup)&&h.all (λp=>decide (p.1.1<=ep)&&decide (p.1.2 < 64000))&&l.all (λp=>IB h p.2)&&h.all λp=>hasB h p.2
structure KN (f:List (Id×Id)) (S:St) (l:List (Nat×V)) (h:List (Id×Bd)) (ep:Nat):Prop where
 env:∀p∈l,VR f p.2 (S.env p.1)
 heap:∀p∈h,BR f S p.1 p.2
 ok:iC f l h ep=true
theorem XJ {α β:Type} [BEq α] [LawfulBEq α] {l:List (α×β)} {a:α} {b:β} (h:l.lookup a=some b):(a,b)∈l:=by
 induction l with
 | nil=>simp at h
 | cons p l ih=>
  obtain⟨x,y⟩:=p;simp only[List.lookup] at h;split at h
  .rename_i he
   injection h with h;subst h;rw[eq_of_beq he];exact BJ
  .exact Co _ (ih h)
section
variable {P:Program} {B:Nat} {io:Nat->Prop} {w:World} {tmps:Array Value} {S t:St} {U:AY} {F:Id->List Nat} {fl:List Nat} {f:List (Id×Id)} {l:List (Nat×V)} {h:List (Id×Bd)} {ep:Nat}
open Classical in
noncomputable def DD (t:St) (l:List (Nat×V)) (h:List (Id×Bd)) (ep:Nat):St:=⟨Tc l,λid=>if D0 id then t.heap id else xD h id,ep⟩
noncomputable def BY (U:AY) (f:List (Id×Id)) (h:List (Id×Bd)):AY:=λid=>if id.1=0 then U id else if (h.lookup id).isSome then (match f.lookup id with|some Aw=>U Aw|none=>some .emp) else none
def NJ (F:Id->List Nat) (f:List (Id×Id)):Id->List Nat:=λid=>if id.1=0 then F id else match f.lookup id with|some Aw=>F Aw|none=>[]
theorem Mk {id Aw:Id} (hh:Mj h id=true) (hr:CZ f id=some Aw):BY U f h id=U Aw:=by
 unfold BY CZ at*;by_cases h0:id.1=0
 .rw[Ah h0] at hr ⊢;injection hr with hr;rw[hr]
 .rw[Ai h0] at hr ⊢
  simp only[Mj,Nj,beq_iff_eq,h0,false_or] at hh;rw[Ah hh,hr]
theorem iD {id Aw:Id} (hr:CZ f id=some Aw):NJ F f id=F Aw:=by
 unfold NJ CZ at*;by_cases h0:id.1=0
 .rw[Ah h0] at hr ⊢;injection hr with hr;rw[hr]
 .rw[Ai h0] at hr ⊢;rw[hr]
theorem xE {id:Id} (hh:Mj h id=true) (hr:CZ f id=none):BY U f h id=some .emp:=by
 unfold BY CZ at*;by_cases h0:id.1=0
 .rw[Ah h0] at hr;cases hr
 .rw[Ai h0] at hr ⊢
  simp only[Mj,Nj,beq_iff_eq,h0,false_or] at hh;rw[Ah hh,hr]
theorem Y0z {id:Id} (hr:CZ f id=none):NJ F f id=[]:=by
 unfold NJ CZ at*;by_cases h0:id.1=0
 .rw[Ah h0] at hr;cases hr
 .rw[Ai h0] at hr ⊢;rw[hr]
theorem Da.en {ok ok':Nat->Prop} (Yg:∀g,ok g->ok' g) {v:Value} {x y:V} (hh:IA h x=true) (hr:Da f x y) (hv:En w ok U v y):En w ok' (BY U f h) v x:=by
 cases x with
 | undef=>exact .undef
 | lit u=>simp only[Da] at hr;subst hr;cases hv with|lit h=>exact .lit h
 | tr rows=>simp only[Da] at hr;subst hr;cases hv with|tr h=>exact .tr (h.C2 Yg)
 | vw rows=>simp only[Da] at hr;subst hr;cases hv with|vw h=>exact .vw (h.C2 Yg)
 | rp sh row off=>simp only[Da] at hr;subst hr;cases hv with|rp h=>exact .rp (h.C2 Yg)
 | ptr id i off=>
  cases y<;>simp only[Da] at hr;obtain⟨h1,rfl,rfl⟩:=hr;simp only[IA] at hh;generalize hq:V.ptr _ i off=q at hv;cases hv<;>cases hq;rename_i h2;exact .ptr (by rw[Mk hh h1];exact h2)
 | sl id off len=>
  simp only[IA] at hh;cases y with
  | sl Aw Fh LK=>
   simp only[Da] at hr;obtain⟨h1,rfl,rfl⟩:=hr;cases hv with
   | sl h2 hc=>exact .sl (by rw[Mk hh h1];exact h2) hc
   | sle h2=>exact .sle (by rw[Mk hh h1];exact h2)
  | lit u=>
   unfold Da at hr;split at hr<;>rename_i h1 h2<;>first|cases h1|skip
   all_goals first|exact hr.elim|skip
   all_goals try (cases h2)
   obtain⟨h3,rfl,rfl⟩:=hr;cases hv;exact .sle (by rw[xE hh h3];rfl)
  | _=>simp[Da] at hr
 | agg _=>simp[Da] at hr
 | AW _=>simp[Da] at hr
 | fn _ _=>simp[Da] at hr
 | own _ _=>simp[Da] at hr
 | CM _=>simp[Da] at hr
theorem I9.get:∀{xs ys:List V},I9 f xs ys->xs.length=ys.length/\∀(k:Nat) (x:V),xs[k]?=some x->∃y,ys[k]?=some y/\Da f x y:=by
 intro xs
 induction xs with
 | nil=>intro ys hr;cases ys with
  | nil=>exact⟨rfl,λk x hk=>by simp at hk⟩
  | cons y ys=>exact hr.elim
 | cons x xs ih=>intro ys hr;cases ys with
  | nil=>exact hr.elim
  | cons y ys=>
   obtain⟨h1,h2⟩:=hr;obtain⟨h3,h4⟩:=ih h2;refine⟨by simp[h3],λk z hk=>?_⟩;cases k with
   | zero=>simp at hk;subst hk;exact⟨y,rfl,h1⟩
   | succ k=>simpa using h4 k z (by simpa using hk)
theorem Da.AF {x y:V} (hr:Da f x y) (hx:x≠.undef):Ev.AF x=true:=by
 cases x with
 | undef=>exact absurd rfl hx
 | agg _=>simp[Da] at hr
 | AW _=>simp[Da] at hr
 | own _ _=>simp[Da] at hr
 | CM _=>simp[Da] at hr
 | fn _ _=>simp[Da] at hr
 | _=>rfl
theorem I9.all {ok ok':Nat->Prop} (Yg:∀g,ok g->ok' g) {xs ys:List V} (hr:I9 f xs ys) (hh:xs.all (IA h)=true) {vs:List Value} (hv:∀(k:Nat) (v:Value) (y:V),vs[k]?=some v->ys[k]?=some y->En w ok U v y):
  ∀(k:Nat) (v:Value) (x:V),vs[k]?=some v->xs[k]?=some x->En w ok' (BY U f h) v x:=λk v x h1 h2=>by
 obtain⟨y,h3,h4⟩:=hr.get.2 k x h2;exact h4.en Yg (Cb.1 hh x (Ep h2)) (hv k v y h1 h3)
theorem Y06 {x:V} (hh:IA h x=true):x≠.undef:=by rintro rfl;simp[IA] at hh
theorem VR.en {ok ok':Nat->Prop} (Yg:∀g,ok g->ok' g) {v:Value} {x y:V} (hh:IB h x=true) (hr:VR f x y) (hv:En w ok U v y):En w ok' (BY U f h) v x:=by
 unfold VR at hr;split at hr
 .rename_i xs ys
  simp only[IB] at hh;cases hv with
  | @agg us _ hl hc he=>
   refine .agg (by rw[hl,hr.get.1]) (λx hx=>?_) (λk v x h1 h2=>hr.all Yg hh (vs:=us.toList) (λk v y h1 h2=>he k v y (by simpa using h1) h2) k v x (by simpa using h1) h2);obtain⟨k,hk,rfl⟩:=OU hx;obtain⟨y,_,h4⟩:=hr.get.2 k _ (CB hk);exact h4.AF (Y06 (Cb.1 hh _ (B6 hk)))
 .rename_i xs ys
  simp only[IB] at hh;cases hv with
  | @AW us _ hl he=>exact .AW (by rw[hl,hr.get.1]) (λk v x h1 h2=>hr.all Yg hh (vs:=us.toList) (λk v y h1 h2=>he k v y (by simpa using h1) h2) k v x (by simpa using h1) h2)
 .rename_i g xs g' ys
  obtain⟨rfl,hr⟩:=hr;simp only[IB] at hh;cases hv with
  | @fn _ us _ hl he=>exact .fn (by rw[hl,hr.get.1]) (λk v x h1 h2=>hr.all Yg hh (vs:=us.toList) (λk v y h1 h2=>he k v y (by simpa using h1) h2) k v x (by simpa using h1) h2)
 .have h2:IA h x=true:=by
   cases x<;>first|exact hh|(simp[Da] at hr)
  exact hr.en Yg h2 hv
theorem KN.ext (hw:KN f S l h ep) (hE:Qs D0 S t):Qs D0 (NI l h ep) (DD t l h ep):=by
 have hz:=hw.ok;simp only[iC,Bg,Bj,Cb] at hz;refine⟨⟨rfl,λid Zu=>?_,λid Zu=>?_⟩,rfl,λid b hd hb=>?_⟩
 .simp only[DD,NI];rw[Ai Zu]
 .simp only[NI]
  cases hb:xD h id with
  | none=>rfl
  | some b=>
   have:=(hz.1.1.2 _ (XJ hb)).2;have:=Zu.2;simp only at *;omega
 .simp only[DD] at hb
  rw[Ah hd] at hb;exact hE.ph id b hd hb
theorem KN.Bl (hw:KN f S l h ep) (hE:Qs D0 S t) {id:Id} {b:Bd} (hb:(DD t l h ep).heap id=some b):
  (D0 id/\t.heap id=some b)\/(¬D0 id/\(id,b)∈h/\Mj h id=true/\((CZ f id=none/\b.box=false/\b.own=true/\b.rows=[])\/
   ∃Aw c,CZ f id=some Aw/\t.heap Aw=some c/\¬D0 Aw/\c.box=b.box/\c.own=b.own/\c.cl=b.cl/\(if b.box then (∃xs ys,b.rows=[xs]/\c.rows=[ys]/\I9 f xs ys) else (c.el=b.el/\c.rows=b.rows)))):=by
 simp only[DD] at hb;split at hb
 .rename_i hd;exact .inl ⟨hd,hb⟩
 .rename_i hd
  have hm:=XJ hb;refine .inr ⟨hd,hm,?_,?_⟩
  .simp only[Mj,Nj];right;rw[show h.lookup id=some b from hb];rfl
  .have:=hw.heap _ hm
   unfold BR at this;simp only at this;split at this
   .rename_i hr;exact .inl ⟨hr,this⟩
   .rename_i Aw hr
    obtain⟨c,h1,h2⟩:=this;exact .inr ⟨Aw,c,hr,hE.ext.get h1,hE.ext.Dc h1,h2⟩
theorem D0.Ml {id:Id} (hd:D0 id):CZ f id=some id:=by unfold CZ;rw[Ah hd.zero]
theorem D0.has {id:Id} (hd:D0 id):Mj h id=true:=by simp[Mj,hd.zero]
theorem KN.AJ (hw:KN f S l h ep) (hE:Qs D0 S t) {g:Nat} (ht:Ev.AJ (DD t l h ep) (BY U f h) g):Ev.AJ t U g:=by
 obtain⟨id,b,o,c,sz,h1,h2,h3⟩:=ht;rcases hw.Bl hE h1 with⟨hd,hb⟩|⟨hd,hm,hi,⟨hr,_⟩|⟨Aw,k,hr,hk,_,_,ho,_⟩⟩
 .rw[Mk hd.has hd.Ml] at h3
  exact⟨id,b,o,c,sz,hb,h2,h3⟩
 .rw[xE hi hr] at h3;cases h3
 .rw[Mk hi hr] at h3
  exact⟨Aw,k,o,c,sz,hk,ho.trans h2,h3⟩
theorem Xaq:∀{h:List (Id×Bd)} {id Gc Aw:Id} {b b2:Bd},(h.filterMap λp=>CZ f p.1).Nodup->(id,b)∈h->(Gc,b2)∈h->CZ f id=some Aw->CZ f Gc=some Aw->id=Gc:=by
 intro h
 induction h with
 | nil=>intro id Gc Aw b b2 _ h1;simp at h1
 | cons p h ih=>
  intro id Gc Aw b b2 hn h1 h2 hr C6;have mem:∀{i:Id} {c:Bd},(i,c)∈h->CZ f i=some Aw->Aw∈h.filterMap λp=>CZ f p.1:=λhm hi=>List.mem_filterMap.2 ⟨_,hm,hi⟩;rw[List.filterMap_cons] at hn;rcases Cj.1 h1 with e1|e1
  .rcases Cj.1 h2 with e2|e2
   .rw[<-e1] at e2;injection e2 with e2;exact e2.symm
   .rw[<-e1] at hn
    simp only[hr] at hn;exact absurd (mem e2 C6) (ED.1 hn).1
  .rcases Cj.1 h2 with e2|e2
   .rw[<-e2] at hn
    simp only[C6] at hn;exact absurd (mem e1 hr) (ED.1 hn).1
   .refine ih ?_ e1 e2 hr C6
    split at hn
    .exact hn
    .exact (ED.1 hn).2
theorem KN.rel (hw:KN f S l h ep) (hE:Qs D0 S t) (hR:Rel P B io w tmps t U F fl):Rel P B io w tmps (DD t l h ep) (BY U f h) (NJ F f) fl:=by
 have hz:=hw.ok;simp only[iC,Bg,Bj,Cb] at hz;have Yg:∀g,AH t U w g->AH (DD t l h ep) (BY U f h) w g:=λg hg=>⟨λht=>hg.1 (hw.AJ hE ht),hg.2⟩;have key:∀{id:Id} {b:Bd},(DD t l h ep).heap id=some b->b.own=true->NJ F f id=[]\/∃Aw c,t.heap Aw=some c/\c.own=true/\NJ F f id=F Aw/\BY U f h id=U Aw/\CZ f id=some Aw/\(D0 id\/(id,b)∈h/\¬D0 Aw):=λ{id b} hb ho=>by
  rcases hw.Bl hE hb with⟨hd,hb⟩|⟨hd,hm,hi,⟨hr,_⟩|⟨Aw,k,hr,hk,CU,_,H9,_⟩⟩
  .exact .inr ⟨id,b,hb,ho,iD hd.Ml,Mk hd.has hd.Ml,hd.Ml,.inl hd⟩
  .exact .inl (Y0z hr)
  .exact .inr ⟨Aw,k,hk,H9.trans ho,iD hr,Mk hi hr,hr,.inr ⟨hm,CU⟩⟩
 refine⟨λt' v hv=>?_,λt' P4=>?_,λid b hb=>?_,λid b hb ho g hg=>?_,λid b hb ho hc g hg=>?_,λid Gc b b2 hb ho Ew H9 Yh g hg Iz=>?_,λid b hb ho=>?_,λid Zu=>?_,hR.Cr,hR.AR,λid b hb ho g hg=>?_,hR.AT⟩
 .show En w _ _ v (Tc l t')
  unfold Tc;cases hl:l.lookup t' with
  | none=>exact .undef
  | some x=>
   have hm:=XJ hl;have h1:=hw.env _ hm;simp only at h1;rw[<-hE.env] at h1;exact h1.en Yg (hz.1.2 _ hm) (hR.env t' v hv)
 .show Tc l t'=.undef
  unfold Tc;cases hl:l.lookup t' with
  | none=>rfl
  | some x=>
   have hm:=XJ hl;have h1:=hw.env _ hm;simp only at h1;rw[<-hE.env,hR.out t' P4] at h1;simp only[FY];cases x<;>simp[VR,Da] at h1 ⊢
 .rcases hw.Bl hE hb with⟨hd,hb⟩|⟨hd,hm,hi,⟨hr,h1,h2,h3⟩|⟨Aw,k,hr,hk,_,FJ,ho,Qd,Wn⟩⟩
  .rw[Mk hd.has hd.Ml,iD hd.Ml]
   have hB:=hR.heap id b hb;have hph:=hE.ph id b hd hb;unfold Xq at hB ⊢;split at hB
   .obtain⟨_,g,cur,e,row,hi,hg,hr,_⟩:=hB;rw[hph] at hr;cases hr
   .rcases hB with hB|⟨g,o,c,cur,hi,hg,hl,hm,hu,hz,fp,hF,q1,q2⟩
    .exact .inl hB
    .exact .inr ⟨g,o,c,cur,hi,hg,hl,hm,hu,hz,fp,hF,q1,λhc=>⟨(q2 hc).1,λk x hx=>by rw[hph] at hx;simp at hx⟩⟩
   .obtain⟨h0,hB⟩:=hB
    refine⟨h0,?_⟩;rcases hB with hB|⟨g,o,c,sz,hi,hu,hr⟩
    .exact .inl hB
    .exact .inr ⟨g,o,c,sz,hi,hu,hr.C2 Yg⟩
  .rw[xE hi hr,Y0z hr]
   exact .Ih h1 h2 rfl h3 rfl
  .rw[Mk hi hr,iD hr]
   have hB:=hR.heap Aw k hk;unfold Xq at hB ⊢;rw[FJ,ho] at hB;cases CA:b.box with
   | true=>
    rw[CA] at hB;simp only[CA,if_true] at Wn hB ⊢;obtain⟨q0,g,cur,e,row,Y2,hg,Ch,hs,he,hc,hF⟩:=hB;obtain⟨xs,ys,e1,e2,hv⟩:=Wn;rw[e2] at Ch;injection Ch with Ch _;subst Ch;have hZ:=hv.get.1;have K1:xs.all (IA h)=true:=by
     have h7:=hz.2 _ hm;unfold hasB at h7;simp only[CA,if_true,e1,DT,UU,L5] at h7;exact h7
    refine⟨q0,g,cur,e,xs,by rw[Y2,hZ],hg,e1,by rw[hs,hZ],λj v x h1 h2=>?_,λx hx=>?_,hF⟩
    .exact hv.all Yg K1 (vs:=cur.toList) (λk v y h1 h2=>he k v y (by simpa using h1) h2) j v x (by simpa using h1) h2
    .obtain⟨j,hj,rfl⟩:=OU hx
     obtain⟨y,_,h4⟩:=hv.get.2 j _ (CB hj);exact h4.AF (Y06 (Cb.1 K1 _ (B6 hj)))
   | false=>
    rw[CA] at hB;simp only[CA,Bn,if_false] at Wn hB ⊢;obtain⟨e1,e2⟩:=Wn;cases Ph:b.own with
    | true=>
     rw[Ph] at hB;simp only at hB ⊢;rcases hB with⟨q1,q2,q3⟩|⟨g,o,c,cur,Y2,hg,hl,D9,hu,Pd,fp,hF,q1,q2⟩
     .exact .inl ⟨q1,by rw[<-e2];exact q2,q3⟩
     .refine .inr ⟨g,o,c,cur,by rw[<-e1];exact Y2,by rw[<-e1];exact hg,by rw[<-e2];exact hl,D9,by rw[<-e1,<-e2];exact hu,by rw[<-e1];exact Pd,fp,hF,λhc=>?_,λhc=>?_⟩
      .rw[<-e1,<-e2];exact q1 (by rw[Qd];exact hc)
      .obtain⟨q3,q4⟩:=q2 (by rw[Qd];exact hc)
       refine⟨q3,λj x hx=>?_⟩;obtain⟨v,hv,Eh⟩:=q4 j x (by rw[e2];exact hx);exact⟨v,hv,Eh.C2 Yg⟩
    | false=>
     rw[Ph] at hB;simp only at hB ⊢;obtain⟨h0,hB⟩:=hB;refine⟨h0,?_⟩;rcases hB with⟨q1,q2⟩|⟨g,o,c,sz,Y2,hu,Ch⟩
     .exact .inl ⟨q1,by rw[<-e2];exact q2⟩
     .exact .inr ⟨g,o,c,sz,Y2,by rw[<-e2];exact hu,by rw[<-e2];exact Ch.C2 Yg⟩
 .rcases key hb ho with h0|⟨Aw,c,h1,h2,h3,_⟩
  .rw[h0] at hg;simp at hg
  .rw[h3] at hg;exact hR.CI Aw c h1 h2 g hg
 .rcases key hb ho with h0|⟨Aw,c,h1,h2,h3,h4,_⟩
  .rw[h0] at hg;simp at hg
  .rw[h3] at hg;exact hR.top Aw c h1 h2 (by rw[<-h4];exact hc) g hg
 .rcases key hb ho with h0|⟨i1,c,h1,h2,h3,h4,h5,h6⟩
  .rw[h0] at hg;simp at hg
  .rcases key Ew H9 with k0|⟨i2,c2,k1,k2,k3,k4,k5,k6⟩
   .rw[k0] at Iz;simp at Iz
   .rw[h3] at hg
    rw[k3] at Iz;refine hR.apart i1 i2 c c2 h1 h2 k1 k2 (λe=>?_) g hg Iz;subst e;rcases h6 with h6|⟨h6,h7⟩
    .rw[h6.Ml] at h5;injection h5 with h5;subst h5
     rcases k6 with k6|⟨k6,k7⟩
     .rw[k6.Ml] at k5;injection k5 with k5;exact Yh k5.symm
     .exact k7 h6
    .rcases k6 with k6|⟨k6,k7⟩
     .rw[k6.Ml] at k5;injection k5 with k5;subst k5;exact h7 k6
     .exact Yh (Xaq hz.1.1.1.1 h6 k6 h5 k5)
 .rcases key hb ho with h0|⟨Aw,c,h1,h2,h3,_⟩
  .rw[h0];exact List.nodup_nil
  .rw[h3];exact hR.once Aw c h1 h2
 .show id.1<=ep
  by_cases h0:id.1=0
  .omega
  .unfold BY at Zu
   rw[Ai h0] at Zu;split at Zu
   .rename_i hs
    obtain⟨b,hb⟩:=EW.1 hs;exact (hz.1.1.2 _ (XJ hb)).1
   .simp at Zu
 .rcases key hb ho with h0|⟨Aw,c,h1,h2,h3,_⟩
  .rw[h0] at hg;simp at hg
  .rw[h3] at hg;exact hR.A7 Aw c h1 h2 g hg
theorem Xbs {c:Code} {R:Ex->St->Prop} (f:List (Id×Id)) (hw:KN f S l h ep) (hc:Cx P c (NI l h ep) R):Cx P c S R:=by
 intro t B io w a U F fl Q hE hR hd hQ;refine hc (DD t l h ep) B io w a (BY U f h) (NJ F f) fl Q (hw.ext hE) (hw.rel hE hR) hd (λex S' t' a' w' hr hx hA=>hQ ex S' t' a' w' hr ⟨hx.1,λid Zu=>?_⟩ ?_)
 .rw[hx.2 id Zu];simp only[DD];rw[Ah Zu]
 .obtain⟨U',F',h1,h2,h3,h4,h5⟩:=hA
  exact⟨U',F',h1,h2,λid i h0 hi=>h3 id i h0 (by unfold BY;rw[Ah h0];exact hi),h4,h5⟩
end
end Go.Proofs.YthdljdelfgofdaaGreatDoor.Ev
namespace Go.Proofs.YthdljdelfgofdaaGreatDoor.Ev
open Go
variable [Anchor]
section
variable {P:Program}
def FK:List V->List V->Option Bool
 | [],[]=>some true
 | .lit (.int k a)::xs,.lit (.int k' b)::ys=>if k=k' then (FK xs ys).map λr=>decide (a=b)&&r else none
 | .lit (.bool a)::xs,.lit (.bool b)::ys=>(FK xs ys).map λr=>(a == b)&&r
 | _,_=>none
def IC (P:Program):Nat->List Field->List V->Bool
 | _,[],[]=>true
 | i,f::fs,.lit (.int _ _)::xs=>(f.name != "_")&&(f.offset == i)&&!(H3 P f.type)&&(match P.underlying f.type with|some (.int _)=>true|_=>false)&&IC P (i+1) fs xs
 | i,f::fs,.lit (.bool _)::xs=>(f.name != "_")&&(f.offset == i)&&!(H3 P f.type)&&(match P.underlying f.type with|some .bool=>true|_=>false)&&IC P (i+1) fs xs
 | _,_,_=>false
theorem iE {t:TypeId} {d:TypeDesc} (ht:P.underlying t=some d):eval? P (underlying t)=some d:=by
 unfold underlying;rw[Xp];show eval? P (match P.underlying t with|some d=>pure d|none=>stuck "no such type" : Sem TypeDesc)=some d;rw[ht];rfl
theorem Y6y {n:Nat} {t:TypeId} {k0 k:IntKind} {a b:Int} (ht:P.underlying t=some (.int k0)):eval? P (Go.Op.equalIn (n+1) t (.int k a) (.int k b))=some (decide (a=b)):=by
 unfold Go.Op.equalIn;rw[Xp,iE ht];simp only[Ag,if_true];show some (a == b)=some (decide (a=b));by_cases h:a=b<;>simp[h]
theorem Yzu {n:Nat} {t:TypeId} {a b:Bool} (ht:P.underlying t=some .bool):eval? P (Go.Op.equalIn (n+1) t (.bool a) (.bool b))=some (a == b):=by
 unfold Go.Op.equalIn;rw[Xp,iE ht];rfl
theorem Y2f {t:TypeId} (h:(P.underlying t).isSome=true) (ha:H3 P t=false):eval? P (isAgg t)=some false:=by
 obtain⟨d,hd⟩:=EW.1 h;unfold isAgg;rw[Xp,iE hd];unfold H3 at ha;rw[hd] at ha;cases d<;>first|rfl|cases ha
theorem Yql {t:TypeId} {cs:Array Value} {off:Nat} {v:Value} (h:(P.underlying t).isSome=true) (ha:H3 P t=false) (hv:cs[off]?=some v):eval? P (part t cs off)=some v:=by
 unfold part;rw[Xp,Y2f h ha];simp only[Ag,Bn,if_false,hv];rfl
theorem Yl6:∀{xs:List V} {l:List Value},EE xs=some l->xs=l.map V.lit:=by
 intro xs
 induction xs with
 | nil=>intro l h;simp only[EE,AE] at h;subst h;rfl
 | cons x xs ih=>
  intro l h;cases x<;>simp only[EE] at h<;>try cases h
  obtain⟨l',h1,rfl⟩:=AL.1 h;rw[ih h1];rfl
def XK (n:Nat) (X Y:Array Value) (f:Field) (s:Option Bool×Unit):Sem (ForInStep (Option Bool×Unit)):=
 if f.name ≠ "_" then do
  let a <-part f.type X f.offset
  let b <-part f.type Y f.offset
  let c <-Go.Op.equalIn (n+1) f.type a b
  if (!c)=true then pure (ForInStep.done (some false,())) else pure (ForInStep.yield (none,()))
 else pure (ForInStep.yield (none,()))
theorem Y5h {n:Nat} {X Y:Array Value} {f:Field} {s:Option Bool×Unit} {u v:Value} {c:Bool} (hn:(f.name != "_")=true) (hu:(P.underlying f.type).isSome=true) (ha:H3 P f.type=false) (hx:X[f.offset]?=some u) (hy:Y[f.offset]?=some v) (hc:eval? P (Go.Op.equalIn (n+1) f.type u v)=some c):
  eval? P (XK n X Y f s)=some (if c then .yield (none,()) else .done (some false,())):=by
 unfold XK;rw[Ah (by simpa using hn),Xp,Yql hu ha hx,Ag,Xp,Yql hu ha hy,Ag,Xp,hc,Ag];cases c<;>rfl
theorem QE {n:Nat} {X Y:List Value}:∀(l:List Field) (i:Nat) (b:Bool),IC P i l ((X.drop i).map V.lit)=true->FK ((X.drop i).map V.lit) ((Y.drop i).map V.lit)=some b->
  eval? P (forIn l (none,()) (XK n X.toArray Y.toArray))=some (if b then (none,()) else (some false,())):=by
 intro l
 induction l with
 | nil=>
  intro i b hf he;cases hX:X.drop i with
  | cons v l=>rw[hX] at hf;simp[IC] at hf
  | nil=>
   rw[hX] at he;cases hY:Y.drop i with
   | cons v l=>rw[hY] at he;simp[FK] at he
   | nil=>
    rw[hY] at he;simp only[GX,FK,AE] at he;subst he;rfl
 | cons f l ih=>
  intro i b hf he;have NK:∀{Z:List Value} {v:Value} {zs:List Value},Z.drop i=v::zs->Z.drop (i+1)=zs/\Z.toArray[i]?=some v:=λ{Z v zs} hz=>by
   constructor
   .rw[<-List.drop_drop,hz];rfl
   .have:=congrArg List.head? hz
    rw[List.head?_drop] at this;simpa using this
  have step:∀(u v:Value) (xs ys:List Value) (c b':Bool),X.drop i=u::xs->Y.drop i=v::ys->(f.name != "_")=true->f.offset=i->H3 P f.type=false->(P.underlying f.type).isSome=true->eval? P (Go.Op.equalIn (n+1) f.type u v)=some c->
    IC P (i+1) l (xs.map V.lit)=true->FK (xs.map V.lit) (ys.map V.lit)=some b'->b=(c&&b')->eval? P (forIn (f::l) (none,()) (XK n X.toArray Y.toArray))=some (if b then (none,()) else (some false,())):=by
   intro u v xs ys c b' hX hY hn ho ha hu hc BM Pz hb;obtain⟨dx,ax⟩:=NK hX;obtain⟨dy,ay⟩:=NK hY;rw[List.forIn_cons,Xp,Y5h hn hu ha (by rw[ho];exact ax) (by rw[ho];exact ay) hc];cases c with
   | true=>
    simp only[if_true,Ag];rw[ih (i+1) b' (by rw[dx];exact BM) (by rw[dx,dy];exact Pz),hb];rfl
   | false=>
    simp only[Bn,if_false,Ag];rw[hb];rfl
  cases hX:X.drop i with
  | nil=>rw[hX] at hf;simp[IC] at hf
  | cons u xs=>
   rw[hX] at hf he;cases hY:Y.drop i with
   | nil=>rw[hY] at he;cases u<;>simp[FK] at he
   | cons v ys=>
    rw[hY] at he;simp only[C7] at hf he;cases u with
    | int k a=>
     simp only[IC,Bg,Ni,beq_iff_eq] at hf;obtain⟨⟨⟨⟨h1,h2⟩,h3⟩,h4⟩,h5⟩:=hf;cases v with
     | int k' b2=>
      simp only[FK] at he;split at he
      .rename_i hk
       subst hk;obtain⟨b',h6,h7⟩:=AL.1 he;split at h4
       .rename_i k0 XL
        exact step _ _ _ _ _ _ hX hY h1 h2 h3 (by rw[XL];rfl) (Y6y XL) h5 h6 h7.symm
       .cases h4
      .cases he
     | _=>simp[FK] at he
    | bool a=>
     simp only[IC,Bg,Ni,beq_iff_eq] at hf;obtain⟨⟨⟨⟨h1,h2⟩,h3⟩,h4⟩,h5⟩:=hf;cases v with
     | bool b2=>
      simp only[FK] at he;obtain⟨b',h6,h7⟩:=AL.1 he;split at h4
      .rename_i XL
       exact step _ _ _ _ _ _ hX hY h1 h2 h3 (by rw[XL];rfl) (Yzu XL) h5 h6 h7.symm
      .cases h4
     | _=>simp[FK] at he
    | _=>simp[IC] at hf
theorem Ytq {n:Nat} {t:TypeId} {fs:Array Field} {X Y:List Value} {b:Bool} (ht:P.underlying t=some (.struct fs)) (hs:P.stoodInHeld t=false) (hx:IC P 0 fs.toList (X.map V.lit)=true) (he:FK (X.map V.lit) (Y.map V.lit)=some b):
  eval? P (Go.Op.equalIn (n+2) t (.agg X.toArray) (.agg Y.toArray))=some b:=by
 unfold Go.Op.equalIn;rw[Xp,iE ht];simp only[Ag];rw[Xp];show (some P).bind _=_;simp only[Ag,hs,Bn,if_false];have key:=QE (P:=P) (n:=n) (X:=X) (Y:=Y) fs.toList 0 b (by simpa using hx) (by simpa using he);rw[Array.forIn_toList] at key;rw[Xp];show (eval? P (forIn fs (none,()) (XK n X.toArray Y.toArray))).bind _=_;rw[key];cases b<;>rfl
def QF (P:Program) (t:TypeId) (xs:List V):Bool:=match P.underlying t with
 | some (.struct fs)=>!(P.stoodInHeld t)&&!(P.eqGuardType P.depth t)&&IC P 0 fs.toList xs
 | _=>false
theorem Yp9 {t:TypeId} {xs ys:List V} {X Y:List Value} {b:Bool} (hx:EE xs=some X) (hy:EE ys=some Y) (hf:QF P t xs=true) (he:FK xs ys=some b):eval? P (Go.Op.equal t (.agg X.toArray) (.agg Y.toArray))=some b:=by
 unfold QF at hf;split at hf
 .rename_i fs ht
  simp only[Bg,Ni] at hf;have e1:=Yl6 hx;have e2:=Yl6 hy;rw[e1] at hf he;rw[e2] at he;exact Ytq (n:=9998) ht hf.1.1 hf.2 he
 .cases hf
theorem Ygg {op:BinOp} {t:TypeId} {x y:Operand} {xs:List V} {X Y:Array Value} (hf:QF P t xs=true):eval? P (eqGuard op t x y (.agg X) (.agg Y))=some ():=by
 unfold QF at hf;split at hf
 .simp only[Bg,Ni] at hf
  unfold eqGuard;cases op<;>first
   | rfl
   | (
     simp only[Du,Bn,if_false];rw[Xp];show (some P).bind _=_;simp only[Ag];rw[Xp];show (some P).bind _=_;simp only[Ag,hf.1.2,FF,if_true];rfl)
 .cases hf
theorem Y6m {t:TypeId} {x y:Operand} {xs ys:List V} {b:Bool} (hx:(EE xs).isSome=true) (hy:(EE ys).isSome=true) (hf:QF P t xs=true) (he:FK xs ys=some b):EL P .eql t x y (.agg xs) (.agg ys)=some (.lit (.bool b)):=by
 obtain⟨X,h1⟩:=EW.1 hx;obtain⟨Y,h2⟩:=EW.1 hy;simp only[EL,Qi,h1,h2,D8,OV,L6,if_true,FY];rw[Xp,Ygg hf,Ag];have e:(binOp .eql t (.agg X.toArray) (.agg Y.toArray):Sem Value)=((λb=>Value.bool b) <$> Go.Op.equal t (.agg X.toArray) (.agg Y.toArray)):=rfl;rw[e,WQ,Yp9 h1 h2 hf he];rfl
theorem Y68 {t:TypeId} {x y:Operand} {xs ys:List V} {b:Bool} (hx:(EE xs).isSome=true) (hy:(EE ys).isSome=true) (hf:QF P t xs=true) (he:FK xs ys=some b):EL P .neq t x y (.agg xs) (.agg ys)=some (.lit (.bool (!b))):=by
 obtain⟨X,h1⟩:=EW.1 hx;obtain⟨Y,h2⟩:=EW.1 hy;simp only[EL,Qi,h1,h2,D8,OV,L6,if_true,FY];rw[Xp,Ygg hf,Ag];have e:(binOp .neq t (.agg X.toArray) (.agg Y.toArray):Sem Value)=((λb=>Value.bool (!b)) <$> Go.Op.equal t (.agg X.toArray) (.agg Y.toArray)):=rfl;rw[e,WQ,Yp9 h1 h2 hf he];rfl
end
end Go.Proofs.YthdljdelfgofdaaGreatDoor.Ev
