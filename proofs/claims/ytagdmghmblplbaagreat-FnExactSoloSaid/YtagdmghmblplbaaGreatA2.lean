/- A part of the proof of FnExactSolo: see the text YtagdmghmblplbaaGreatLawFnExactSolo for what is proved and its conditions. Conditions here: those in each line. -/
import Derived.Test.YtagdmghmblplbaaGreatA1
import Derived.ChangeOld
import Derived.KernelRfl
import Derived.OpenShut
import Derived.Orders
import Derived.ProofKit
import Derived.Tactics
import Derived.WalkKit
set_option linter.unusedSimpArgs false
set_option linter.unusedVariables false
set_option linter.unusedSectionVars false
namespace Go.Proofs.YtagdmghmblplbaaGreat.Ev
open Go Go.RowKit
variable [Anchor]
section
variable {P:Program} {B:Nat} {io:Nat->Prop} {w w':World} {a a':Act} {s s':St} {ρ ρ':Rho} {F F':Id->List Nat} {fl:List Nat} {k:Nat} {o:Oper} {v:V} {M:Yp} {C:Qo} {ops:Array Oper}
def Zlq (P:Program) (B:Nat) (io:Nat->Prop) (fl:List Nat) (w:World) (a:Act) (ρ:Rho) (s':St) (a':Act) (w':World):Prop:=
 ∃ρ' F',Rel P B io w' a'.tmps s' ρ' F' fl/\Wm B io w w'/\(∀id i,ρ id=some i->ρ' id=some i)/\a'.tmps.size=a.tmps.size/\a'.defers=a.defers
theorem Zlq.refl (h:Rel P B io w a.tmps s ρ F fl):Zlq P B io fl w a ρ s a w:=⟨ρ,F,h,Wm.refl _ _ _,λ_ _ h=>h,rfl,rfl⟩
theorem Zlq.trans {w1:World} {a1:Act} {ρ1:Rho} (hl:Wm B io w w1) (hρ:∀id i,ρ id=some i->ρ1 id=some i) (ht:a1.tmps.size=a.tmps.size) (hd:a1.defers=a.defers) (h:Zlq P B io fl w1 a1 ρ1 s' a' w'):Zlq P B io fl w a ρ s' a' w':=by
 obtain⟨ρ',F',h1,h2,h3,h4,h5⟩:=h;exact⟨ρ',F',h1,hl.trans h2,λid i h=>h3 id i (hρ id i h),h4.trans ht,h5.trans hd⟩
theorem Rel.putv (h:Rel P B io w a.tmps s ρ F fl) {dst:Option Tmp} {u:Value} (hd:∀d,dst=some d->d < a.tmps.size) (hv:En w (okS s ρ w) ρ u v):Rel P B io w (a.put dst u).tmps (s.put dst v) ρ F fl:=by
 cases dst with
 | none=>exact h
 | some d=>
  have Z5:=hd d rfl;exact {h with
   env:=λt x hx=>by
    simp only[Act.put] at hx;simp only[St.put,upd];by_cases e:t=d
    .subst e
     rw[Vbe,ZZj rfl,ZZj Z5] at hx;injection hx with hx;subst hx;rw[ZZj rfl];exact hv
    .rw[Vbe,ZZi (λhh=>e hh.symm)] at hx
     rw[ZZi e];exact h.env t x hx
   out:=λt ht=>by
    simp only[Act.put,Vd4] at ht;simp only[St.put,upd];rw[ZZi (λe=>absurd Z5 (by rw[<-e];exact Nat.not_lt.2 ht))];exact h.out t ht}
theorem Zpw (a:Act) (dst:Option Tmp) (u:Value):(a.put dst u).tmps.size=a.tmps.size:=by cases dst<;>simp[Act.put]
theorem Znf (a:Act) (dst:Option Tmp) (u:Value):(a.put dst u).defers=a.defers:=by cases dst<;>rfl
theorem Zho (s:St) (dst:Option Tmp) (v:V):(s.put dst v).ep=s.ep:=by cases dst<;>rfl
theorem Ztm (s:St) (dst:Option Tmp) (v:V):(s.put dst v).heap=s.heap:=by cases dst<;>rfl
theorem Yi5 (h:Rel P B io w a.tmps s ρ F fl) {g:Bool} (hw:wanted s ops o=some g):Region.wanted o (yielded ops a.tmps)=g:=by
 unfold wanted at hw;unfold Region.wanted;split at hw
 .rename_i hg;simp only[ZZd] at hw;rw[hg];exact hw
 .rename_i j b hg
  rw[hg];simp only;have hy:∀t,(ops[j]?).bind (·.dst)=some t->yielded ops a.tmps j=match a.tmps[t]? with|some (.bool b)=>some b|_=>none:=λt ht=>by
   unfold yielded;rw[ht];rfl
  cases ht:(ops[j]?).bind (·.dst) with
  | none=>rw[ht] at hw;simp at hw
  | some t=>
   rw[ht] at hw;simp only[Var] at hw;rw[hy t ht];have key:∀{x:V},s.env t=x->x≠.undef->∃u,a.tmps[t]?=some u/\En w (okS s ρ w) ρ u x:=λ{x} hx Yf=>by
    by_cases Z5:t < a.tmps.size
    .have h1:a.tmps[t]?=some a.tmps[t]:=Vaf Z5
     exact⟨_,h1,hx▸h.env t _ h1⟩
    .exact absurd (hx.symm.trans (h.out t (Vde Z5))) Yf
   split at hw
   .rename_i c heq
    simp only[ZZd] at heq hw;obtain⟨u,hu,Xh⟩:=key heq (by simp);rw[hu];cases Xh;rw[<-hw];cases c<;>cases b<;>rfl
   .rename_i heq
    simp only[ZZd] at heq hw;obtain⟨u,hu,Xh⟩:=key heq (by simp);rw[hu];cases Xh;rw[<-hw];cases b<;>rfl
   .cases hw
theorem Z73 {K:Act->World->Prop} {Q:Exit->Act->World->Prop} {i:Nat} (h:Rel P B io w a.tmps s ρ F fl) (ho:ops[i]?=some o) (hd:∀d,o.dst=some d->d < a.tmps.size) {g:Bool} (hw:wanted s ops o=some g)
  (Y3:g=true->∀id:Id,id.1=s.ep->id.2 / 1024=i->ρ id=none) {s1:St} (he:g=true->Zyp P M C s i o=some (v,s1)) (Zs0:g=true->Yc4 P B io w a.tmps s ρ fl i v s1 M C)
  (hK:∀a' w' ρ' F',Rel P B io w' a'.tmps (if g then s1.put o.dst v else s.put o.dst (.tup [])) ρ' F' fl->(if g then s1.put o.dst v else s.put o.dst (.tup [])).ep=s.ep->Wm B io w w'->(∀id i,ρ id=some i->ρ' id=some i)->(∀id,(ρ' id).isSome=true->(ρ id).isSome=true\/(id.1=s.ep/\id.2 / 1024=i))->a'.tmps.size=a.tmps.size->a'.defers=a.defers->K a' w'):
  wpOp P ops Q i K a w:=by
 unfold wpOp;rw[ho];simp only;rw[Yi5 h hw];cases g with
 | true=>
  simp only[if_true];refine .inl (Y1l h (he rfl) (Y3 rfl) (Zs0 rfl) _ _ (λval w' hp=>?_));obtain⟨Jo,Ym,hl,ρ',F',hR,Xh,hρ,Zm6⟩:=hp;exact hK _ _ ρ' F' (hR.putv hd Xh) (by rw[ZZj rfl,Zho];exact Ym) hl hρ Zm6 (Zpw _ _ _) (Znf _ _ _)
 | false=>
  simp only[ZZf,if_false];exact hK _ _ ρ F (h.putv hd (.tup (by rfl) (λk v x hv=>by simp[undef] at hv))) (by rw[ZZi (by simp),Zho]) (Wm.refl _ _ _) (λ_ _ h=>h) (λ_ h=>.inl h) (Zpw _ _ _) (Znf _ _ _)
def Zfg (P:Program) (M:Yp) (C:Qo):Prop:=
 ∀(B:Nat) (io:Nat->Prop) (w:World) (tmps:Array Value) (s:St) (ρ:Rho) (F:Id->List Nat) (fl:List Nat) (k:Nat) (v:V) (s':St),Rel P B io w tmps s ρ F fl->(∀id:Id,id.1=s.ep->id.2 / 1024=k->ρ id=none)->Yc4 P B io w tmps s ρ fl k v s' M C
def Zme (n:Nat) (l:List Oper):Bool:=l.all λo=>match o.dst with|some d=>decide (d < n)|none=>true
theorem Znz {n:Nat} {l:List Oper} (h:Zme n l=true) {i:Nat} {o:Oper} (ho:l[i]?=some o):∀d,o.dst=some d->d < n:=λd hd=>by
 have:=ZZk.1 h o (Vag ho);rw[hd] at this;simpa using this
theorem Yzq {C:Nat->Qo} {Q:Exit->Act->World->Prop} (hC:∀k,Zfg P M (C k)):∀(l:List Oper) {k:Nat} {s s':St} {a:Act} {w:World} {ρ:Rho} {F:Id->List Nat},Rel P B io w a.tmps s ρ F fl->(∀j,l[j]?=ops[k+j]?)->Zme a.tmps.size ops.toList=true->
  (∀id:Id,id.1=s.ep->k<=id.2 / 1024->ρ id=none)->Zg6 P M C ops s k l=some s'->(∀a' w',Zlq P B io fl w a ρ s' a' w'->Q .normal a' w')->wpOps P ops Q (List.range' k l.length) a w:=by
 intro l
 induction l with
 | nil=>
  intro k s s' a w ρ F h _ _ _ he hQ;simp only[Zg6,ZZd] at he;subst he;exact hQ _ _ (.refl h)
 | cons o l ih=>
  intro k s s' a w ρ F h hl hds Y3 he hQ;have h0:ops[k]?=some o:=by simpa using (hl 0).symm
  simp only[Zg6] at he;obtain⟨g,hg,he⟩:=ZZb.1 he;simp only[Vaa,Vdf];rw[wpOps_cons];have hd:=Znz hds (i:=k) (o:=o) (by simpa using h0);have Z5:∀(id:Id),id.1=s.ep->id.2 / 1024=k->ρ id=none:=λid h1 h2=>Y3 id h1 (by omega);have go:∀{s2:St} {a':Act} {w':World} {ρ':Rho} {F':Id->List Nat},Rel P B io w' a'.tmps s2 ρ' F' fl->s2.ep=s.ep->Wm B io w w'->(∀id i,ρ id=some i->ρ' id=some i)->(∀id,(ρ' id).isSome=true->(ρ id).isSome=true\/(id.1=s.ep/\id.2 / 1024=k))->
    a'.tmps.size=a.tmps.size->a'.defers=a.defers->Zg6 P M C ops s2 (k+1) l=some s'->wpOps P ops Q (List.range' (k+1) l.length) a' w':=by
   intro s2 a' w' ρ' F' hR Ym hLf hρ Zm6 hts hdf he2;refine ih hR (λj=>by have:=hl (j+1);simpa [Nat.add_assoc,Vdi 1 j] using this) (by rw[hts];exact hds) (λid h1 h2=>?_) he2 (λa2 w2 hA=>hQ _ _ (.trans hLf hρ hts hdf hA));cases hr:ρ' id with
   | none=>rfl
   | some i=>
    rcases Zm6 id (by rw[hr];rfl) with h3|⟨_,h3⟩
    .rw[Y3 id (by rw[<-Ym];exact h1) (by omega)] at h3;cases h3
    .omega
  cases g with
  | true=>
   simp only[if_true] at he;obtain⟨⟨v,s1⟩,h1,he⟩:=ZZb.1 he;refine Z73 (M:=M) (C:=C k) (v:=v) (s1:=s1) h h0 hd hg (λ_=>Z5) (λ_=>h1) (λ_=>hC k _ _ _ _ _ _ F _ _ _ _ h Z5) (λa' w' ρ' F' hR Ym hLf hρ Zm6 hts hdf=>?_);simp only[if_true] at hR Ym;exact go hR Ym hLf hρ Zm6 hts hdf he
  | false=>
   simp only[ZZf,if_false] at he;refine Z73 (M:=M) (C:=C k) (v:=.undef) (s1:=s) h h0 hd hg (λhf=>by cases hf) (λhf=>by cases hf) (λhf=>by cases hf) (λa' w' ρ' F' hR Ym hLf hρ Zm6 hts hdf=>?_);simp only[ZZf,if_false] at hR Ym;exact go hR Ym hLf hρ Zm6 hts hdf he
end
end Go.Proofs.YtagdmghmblplbaaGreat.Ev
namespace Go.Proofs.YtagdmghmblplbaaGreat.Ev
open Go
structure Ext (D:Id->Prop) (s t:St):Prop where
 ep:t.ep=s.ep
 out:∀id,¬D id->t.heap id=s.heap id
 abs:∀id,D id->s.heap id=none
def Kx (D:Id->Prop) (t s' t':St):Prop:=Ext D s' t'/\(∀id,D id->t'.heap id=t.heap id)/\t'.env=t.env/\t'.ep=t.ep
section
variable {D:Id->Prop} {s t s':St} {P:Program}
theorem Ext.notD (h:Ext D s t) {id:Id} {b:Blk} (hb:s.heap id=some b):¬D id:=λhd=>by rw[h.abs id hd] at hb;cases hb
theorem Ext.get (h:Ext D s t) {id:Id} {b:Blk} (hb:s.heap id=some b):t.heap id=some b:=by rw[h.out id (h.notD hb)];exact hb
theorem Ext.two (h:Ext D s t):Kx D t s t:=⟨h,λ_ _=>rfl,rfl,rfl⟩
theorem Kx.trans {t1 s1 s2 t2:St} (h:Kx D t s1 t1) (k:Kx D t1 s2 t2):Kx D t s2 t2:=⟨k.1,λid hd=>(k.2.1 id hd).trans (h.2.1 id hd),k.2.2.1.trans h.2.2.1,k.2.2.2.trans h.2.2.2⟩
theorem Ext.kill (h:Ext D s t) {id:Id} (hd:¬D id):Kx D t (s.kill id) (t.kill id):=by
 refine⟨⟨h.ep,λid' hd'=>?_,λid' hd'=>?_⟩,λid' hd'=>?_,rfl,rfl⟩
 .simp only[St.kill,upd];split
  .rfl
  .exact h.out id' hd'
 .simp only[St.kill,upd];split
  .rfl
  .exact h.abs id' hd'
 .simp only[St.kill,upd];rw[ZZi (show ¬id'=id fromλe=>hd (by rw[<-e];exact hd'))]
theorem Ext.setB (h:Ext D s t) {id:Id} {b:Blk} (hd:¬D id):Kx D t (s.setB id b) (t.setB id b):=by
 refine⟨⟨h.ep,λid' hd'=>?_,λid' hd'=>?_⟩,λid' hd'=>?_,rfl,rfl⟩
 .simp only[St.setB,upd];split
  .rfl
  .exact h.out id' hd'
 .simp only[St.setB,upd];rw[ZZi (show ¬id'=id fromλe=>hd (by rw[<-e];exact hd'))];exact h.abs id' hd'
 .simp only[St.setB,upd];rw[ZZi (show ¬id'=id fromλe=>hd (by rw[<-e];exact hd'))]
theorem Ext.rowsOf (h:Ext D s t) {x:V} {r:List (List V)} (hr:s.rowsOf x=some r):t.rowsOf x=some r:=by
 unfold St.rowsOf at hr ⊢;split at hr
 .obtain⟨b,hb,hr⟩:=ZZb.1 hr
  simp only[h.get hb,ZZa];exact hr
 .exact hr
 .exact hr
 .exact hr
 .cases hr
theorem Ext.whole (h:Ext D s t) {id:Id} {off len:Nat} {r:TypeId×List (List V)} (hr:s.whole id off len=some r):t.whole id off len=some r/\¬D id:=by
 unfold St.whole at hr ⊢;obtain⟨b,hb,hr⟩:=ZZb.1 hr;exact⟨by simp only[h.get hb,ZZa];exact hr,h.notD hb⟩
theorem Ext.sink:∀(xs:List V) {s t:St} {ys:List V} {c:Bool} {s':St},Ext D s t->s.sink xs=some (ys,c,s')->∃t',t.sink xs=some (ys,c,t')/\Kx D t s' t':=by
 intro xs
 induction xs with
 | nil=>
  intro s t ys c s' h hs;simp only[St.sink,ZZd,ZZe] at hs;obtain⟨rfl,rfl,rfl⟩:=hs;exact⟨t,rfl,h.two⟩
 | cons x xs ih=>
  intro s t ys c s' h hs;have step:∀{y:V} {f:Bool->Bool},((s.sink xs).map λq=>(y::q.1,f q.2.1,q.2.2))=some (ys,c,s')->∃t',((t.sink xs).map λq=>(y::q.1,f q.2.1,q.2.2))=some (ys,c,t')/\Kx D t s' t':=by
   intro y f hs;obtain⟨⟨q1,q2,q3⟩,hq,he⟩:=ZZc.1 hs;simp only[ZZe] at he;obtain⟨rfl,rfl,rfl⟩:=he;obtain⟨t',h1,h2⟩:=ih h hq;exact⟨t',by rw[h1];rfl,h2⟩
  unfold St.sink at hs ⊢;split at hs
  .exact step (f:=λb=>b) hs
  .rename_i Yf
   exact step (f:=λb=>b) hs
  .exact step (f:=λ_=>false) hs
  .exact step (f:=λ_=>false) hs
  .rename_i id off len
   split at hs
   .rename_i er hw
    obtain⟨hw',hd⟩:=h.whole hw;obtain⟨⟨q1,q2,q3⟩,hq,he⟩:=ZZc.1 hs;simp only[ZZe] at he;obtain⟨rfl,rfl,rfl⟩:=he;obtain⟨t',h1,h2⟩:=ih (h.kill hd).1 hq;refine⟨t',by rw[hw'];simp only[h1];rfl,(h.kill hd).trans h2⟩
   .rename_i hw
    split at hs
    .rename_i b hb
     split at hs
     .rename_i Yc
      obtain⟨rows,X3,hs⟩:=ZZb.1 hs;obtain⟨t',h1,h2⟩:=step (f:=λ_=>false) hs;have Yb:=h.get hb;have hw':t.whole id off len=none:=by
       unfold St.whole at hw ⊢;rw[Yb] ;rw[hb] at hw;exact hw
      exact⟨t',by rw[hw',Yb];simp only[Yc,if_true,h.rowsOf X3,ZZa];exact h1,h2⟩
     .cases hs
    .cases hs
  .cases hs
theorem Ext.sinkRows:∀(xs:List (List V)) {s t:St} {ys:List (List V)} {c:Bool} {s':St},Ext D s t->s.sinkRows xs=some (ys,c,s')->∃t',t.sinkRows xs=some (ys,c,t')/\Kx D t s' t':=by
 intro xs
 induction xs with
 | nil=>
  intro s t ys c s' h hs;simp only[St.sinkRows,ZZd,ZZe] at hs;obtain⟨rfl,rfl,rfl⟩:=hs;exact⟨t,rfl,h.two⟩
 | cons x xs ih=>
  intro s t ys c s' h hs;simp only[St.sinkRows] at hs ⊢;obtain⟨⟨y1,c1,s1⟩,h1,hs⟩:=ZZb.1 hs;obtain⟨⟨y2,c2,s2⟩,h2,hs⟩:=ZZc.1 hs;simp only[ZZe] at hs;obtain⟨rfl,rfl,rfl⟩:=hs;obtain⟨t1,g1,e1⟩:=Ext.sink x h h1;obtain⟨t2,g2,e2⟩:=ih e1.1 h2;exact⟨t2,by rw[g1];simp only[ZZa,g2];rfl,e1.trans e2⟩
theorem Ext.rdCell (h:Ext D s t) {x y:V} (hr:s.rdCell x=some y):t.rdCell x=some y:=by
 unfold St.rdCell at hr ⊢;split at hr
 .exact hr
 .exact hr
 .exact hr
 .exact hr
 .obtain⟨r,h1,rfl⟩:=ZZc.1 hr
  rw[h.rowsOf h1];rfl
 .exact hr
 .exact hr
theorem Ext.rdCells (h:Ext D s t):∀{xs ys:List V},s.rdCells xs=some ys->t.rdCells xs=some ys:=by
 intro xs
 induction xs with
 | nil=>intro ys hr;exact hr
 | cons x xs ih=>
  intro ys hr;simp only[St.rdCells] at hr ⊢;obtain⟨y,h1,hr⟩:=ZZb.1 hr;obtain⟨zs,h2,rfl⟩:=ZZc.1 hr;rw[h.rdCell h1];simp only[ZZa,ih h2];rfl
theorem Ext.rdPlace (h:Ext D s t) {x y:V} (hr:s.rdPlace x=some y):t.rdPlace x=some y:=by
 unfold St.rdPlace at hr ⊢;split at hr
 .obtain⟨b,hb,hr⟩:=ZZb.1 hr
  simp only[h.get hb,ZZa];split at hr
  .rename_i ho
   rw[ZZj ho];obtain⟨row,Yx,hr⟩:=ZZb.1 hr;obtain⟨cs,Kj,rfl⟩:=ZZc.1 hr;rw[Yx];simp only[ZZa,h.rdCells Kj];rfl
  .cases hr
 .exact h.rdCell hr
theorem Ext.rdPlaces (h:Ext D s t):∀{xs ys:List V},s.rdPlaces xs=some ys->t.rdPlaces xs=some ys:=by
 intro xs
 induction xs with
 | nil=>intro ys hr;exact hr
 | cons x xs ih=>
  intro ys hr;simp only[St.rdPlaces] at hr ⊢;obtain⟨y,h1,hr⟩:=ZZb.1 hr;obtain⟨zs,h2,rfl⟩:=ZZc.1 hr;rw[h.rdPlace h1];simp only[ZZa,ih h2];rfl
theorem Ext.rdArg (h:Ext D s t) {x y:V} (hr:s.rdArg x=some y):t.rdArg x=some y:=by
 unfold St.rdArg at hr ⊢;split at hr
 .obtain⟨ys,h1,rfl⟩:=ZZc.1 hr
  simp only[h.rdCells h1];rfl
 .obtain⟨ys,h1,rfl⟩:=ZZc.1 hr
  simp only[h.rdPlaces h1];rfl
 .exact h.rdPlace hr
theorem Ext.rdAll (h:Ext D s t):∀{xs:List V} {ms:List Yh} {ys:List V},s.rdAll ms xs=some ys->t.rdAll ms xs=some ys:=by
 intro xs
 induction xs with
 | nil=>intro ms ys hr;exact hr
 | cons x xs ih=>
  intro ms ys hr;simp only[St.rdAll] at hr ⊢;obtain⟨y,h1,hr⟩:=ZZb.1 hr;obtain⟨zs,h2,rfl⟩:=ZZc.1 hr;have:t.rdArgM (ms.headD .rd) x=some y:=by
   unfold St.rdArgM at h1 ⊢;split at h1
   .exact h.rdArg h1
   .exact h1
  rw[this];simp only[ZZa,ih h2];rfl
theorem Ext.giveCell (h:Ext D s t) {ty:Option TypeId} {x y:V} (hg:s.giveCell ty x=some (y,s')):∃t',t.giveCell ty x=some (y,t')/\Kx D t s' t':=by
 unfold St.giveCell at hg ⊢;split at hg
 .obtain⟨e,h1,he⟩:=ZZc.1 hg
  simp only[ZZe] at he;obtain⟨rfl,rfl⟩:=he;exact⟨t,by rw[h1];rfl,h.two⟩
 .simp only[ZZd,ZZe] at hg
  obtain⟨rfl,rfl⟩:=hg;exact⟨t,rfl,h.two⟩
 .simp only[ZZd,ZZe] at hg
  obtain⟨rfl,rfl⟩:=hg;exact⟨t,rfl,h.two⟩
 .simp only[ZZd,ZZe] at hg
  obtain⟨rfl,rfl⟩:=hg;exact⟨t,rfl,h.two⟩
 .obtain⟨er,h1,he⟩:=ZZc.1 hg
  simp only[ZZe] at he;obtain⟨rfl,rfl⟩:=he;obtain⟨h2,hd⟩:=h.whole h1;exact⟨_,by rw[h2];rfl,h.kill hd⟩
 .cases hg
theorem Ext.giveCells:∀{xs:List V} {s t:St} {ts:List (Option TypeId)} {ys:List V} {s':St},Ext D s t->s.giveCells ts xs=some (ys,s')->∃t',t.giveCells ts xs=some (ys,t')/\Kx D t s' t':=by
 intro xs
 induction xs with
 | nil=>
  intro s t ts ys s' h hs;simp only[St.giveCells,ZZd,ZZe] at hs;obtain⟨rfl,rfl⟩:=hs;exact⟨t,rfl,h.two⟩
 | cons x xs ih=>
  intro s t ts ys s' h hs;simp only[St.giveCells] at hs ⊢;obtain⟨⟨y1,s1⟩,h1,hs⟩:=ZZb.1 hs;obtain⟨⟨y2,s2⟩,h2,hs⟩:=ZZc.1 hs;simp only[ZZe] at hs;obtain⟨rfl,rfl⟩:=hs;obtain⟨t1,g1,e1⟩:=h.giveCell h1;obtain⟨t2,g2,e2⟩:=ih e1.1 h2;exact⟨t2,by rw[g1];simp only[ZZa,g2];rfl,e1.trans e2⟩
theorem Ext.giveArg (h:Ext D s t) {ts:List (Option TypeId)} {x y:V} (hg:s.giveArg ts x=some (y,s')):∃t',t.giveArg ts x=some (y,t')/\Kx D t s' t':=by
 unfold St.giveArg at hg ⊢;split at hg
 .obtain⟨⟨ys,s1⟩,h1,he⟩:=ZZc.1 hg
  simp only[ZZe] at he;obtain⟨rfl,rfl⟩:=he;obtain⟨t',g,e⟩:=Ext.giveCells h h1;exact⟨t',by rw[g];rfl,e⟩
 .exact h.giveCell hg
theorem Ext.giveBox (h:Ext D s t) {ts:List (Option TypeId)} {id:Id} {ys:List V} (hg:s.giveBox ts id=some (ys,s')):(∃t',t.giveBox ts id=some (ys,t')/\Kx D t s' t')/\¬D id:=by
 unfold St.giveBox at hg ⊢;obtain⟨b,hb,hg⟩:=ZZb.1 hg;refine⟨?_,h.notD hb⟩;simp only[h.get hb,ZZa];split at hg
 .rename_i hc
  rw[ZZj hc];split at hg
  .rename_i row hr
   obtain⟨t',g,e⟩:=Ext.giveCells (h.kill (h.notD hb)).1 hg;exact⟨t',g,(h.kill (h.notD hb)).trans e⟩
  .cases hg
 .cases hg
def Z61 (D:Id->Prop):V->Prop
 | .sl id _ _=>¬D id
 | _=>True
def idsM (D:Id->Prop) (m:Yh) (x:V):Prop:=match m with
 | .io=>match x with|.ptr id _ _=>¬D id|_=>True
 | .iov=>match thin x with|.agg cs=>∀c∈cs,Z61 D c|x=>Z61 D x
 | _=>True
def Ytw (D:Id->Prop):List Yh->List V->Prop
 | _,[]=>True
 | ms,x::r=>idsM D (ms.headD .rd) x/\Ytw D ms.tail r
theorem Ext.giveCell_ids (h:Ext D s t) {ty:Option TypeId} {x y:V} (hg:s.giveCell ty x=some (y,s')):Z61 D x:=by
 cases x<;>try exact trivial
 rename_i id off len;simp only[St.giveCell] at hg;obtain⟨er,h1,he⟩:=ZZc.1 hg;exact (h.whole h1).2
theorem Ext.giveCells_ids:∀{xs:List V} {s t:St} {ts:List (Option TypeId)} {ys:List V} {s':St},Ext D s t->s.giveCells ts xs=some (ys,s')->∀c∈xs,Z61 D c:=by
 intro xs
 induction xs with
 | nil=>intro s t ts ys s' h hs c hc;simp at hc
 | cons x xs ih=>
  intro s t ts ys s' h hs c hc;simp only[St.giveCells] at hs;obtain⟨⟨y1,s1⟩,h1,hs⟩:=ZZb.1 hs;obtain⟨⟨y2,s2⟩,h2,hs⟩:=ZZc.1 hs;rcases Vav.1 hc with rfl|hc
  .exact h.giveCell_ids h1
  .obtain⟨t1,g1,e1⟩:=h.giveCell h1
   exact ih e1.1 h2 c hc
theorem Ext.give (h:Ext D s t) {ts:List (Option TypeId)} {m:Yh} {x y:V} (hg:s.give ts m x=some (y,s')):(∃t',t.give ts m x=some (y,t')/\Kx D t s' t')/\idsM D m x:=by
 unfold St.give at hg ⊢;split at hg
 .simp only[ZZd,ZZe] at hg
  obtain⟨rfl,rfl⟩:=hg;exact⟨⟨t,rfl,h.two⟩,trivial⟩
 .split at hg
  .obtain⟨⟨ys,s1⟩,h1,he⟩:=ZZc.1 hg
   simp only[ZZe] at he;obtain⟨rfl,rfl⟩:=he;obtain⟨⟨t',g,e⟩,hd⟩:=h.giveBox h1;exact⟨⟨t',by simp only[g];rfl,e⟩,hd⟩
  .cases hg
 .exact⟨h.giveArg hg,trivial⟩
 .refine⟨h.giveArg hg,?_⟩
  unfold idsM;generalize thin x=z at hg;unfold St.giveArg at hg;split at hg
  .obtain⟨⟨ys,s1⟩,h1,he⟩:=ZZc.1 hg
   exact Ext.giveCells_ids h h1
  .rename_i Yf
   have:=h.giveCell_ids hg;cases z<;>first|exact this|exact absurd rfl (Yf _)
theorem Ext.gives:∀{xs:List V} {s t:St} {ts:List TypeId} {ms:List Yh} {ys:List V} {s':St},Ext D s t->s.gives P ts ms xs=some (ys,s')->(∃t',t.gives P ts ms xs=some (ys,t')/\Kx D t s' t')/\Ytw D ms xs:=by
 intro xs
 induction xs with
 | nil=>
  intro s t ts ms ys s' h hs;simp only[St.gives,ZZd,ZZe] at hs;obtain⟨rfl,rfl⟩:=hs;exact⟨⟨t,rfl,h.two⟩,trivial⟩
 | cons x xs ih=>
  intro s t ts ms ys s' h hs;simp only[St.gives] at hs ⊢;obtain⟨⟨y1,s1⟩,h1,hs⟩:=ZZb.1 hs;obtain⟨⟨y2,s2⟩,h2,hs⟩:=ZZc.1 hs;simp only[ZZe] at hs;obtain⟨rfl,rfl⟩:=hs;obtain⟨⟨t1,g1,e1⟩,i1⟩:=h.give h1;obtain⟨⟨t2,g2,e2⟩,i2⟩:=ih e1.1 h2;exact⟨⟨t2,by rw[g1];simp only[ZZa,g2];rfl,e1.trans e2⟩,i1,i2⟩
theorem Ext.takeCell (h:Ext D s t) {id:Id} (hd:¬D id) {x y:V} (hg:s.takeCell id x=some (y,s')):∃t',t.takeCell id x=some (y,t')/\Kx D t s' t':=by
 unfold St.takeCell at hg ⊢;split at hg
 .simp only[ZZd,ZZe] at hg
  obtain⟨rfl,rfl⟩:=hg;exact⟨_,rfl,h.setB hd⟩
 .simp only[ZZd,ZZe] at hg
  obtain⟨rfl,rfl⟩:=hg;exact⟨t,rfl,h.two⟩
 .simp only[ZZd,ZZe] at hg
  obtain⟨rfl,rfl⟩:=hg;exact⟨t,rfl,h.two⟩
 .cases hg
theorem Ext.takeCells {e:Nat}:∀{xs:List V} {s t:St} {k:Nat} {ys:List V} {s':St},Ext D s t->(∀j,k<=j->j < k+xs.length->¬D (e,j))->s.takeCells e k xs=some (ys,s')->∃t',t.takeCells e k xs=some (ys,t')/\Kx D t s' t':=by
 intro xs
 induction xs with
 | nil=>
  intro s t k ys s' h _ hs;simp only[St.takeCells,ZZd,ZZe] at hs;obtain⟨rfl,rfl⟩:=hs;exact⟨t,rfl,h.two⟩
 | cons x xs ih=>
  intro s t k ys s' h hd hs;simp only[St.takeCells] at hs ⊢;obtain⟨⟨y1,s1⟩,h1,hs⟩:=ZZb.1 hs;obtain⟨⟨y2,s2⟩,h2,hs⟩:=ZZc.1 hs;simp only[ZZe] at hs;obtain⟨rfl,rfl⟩:=hs;obtain⟨t1,g1,e1⟩:=h.takeCell (hd k (Vaw _) (by simp)) h1;obtain⟨t2,g2,e2⟩:=ih e1.1 (λj hj Z5=>hd j (by omega) (by simp only[Vaa];omega)) h2;exact⟨t2,by rw[g1];simp only[ZZa,g2];rfl,e1.trans e2⟩
theorem Ext.takeOne (h:Ext D s t) {e k:Nat} (hd:∀j,k<=j->j < k+64->¬D (e,j)) {x y:V} (hg:s.takeOne e k x=some (y,s')):∃t',t.takeOne e k x=some (y,t')/\Kx D t s' t':=by
 unfold St.takeOne at hg ⊢;split at hg
 .split at hg
  .rename_i hl
   rw[ZZj hl];obtain⟨⟨ys,s1⟩,h1,he⟩:=ZZc.1 hg;simp only[ZZe] at he;obtain⟨rfl,rfl⟩:=he;obtain⟨t',g,e⟩:=Ext.takeCells h (λj hj Z5=>hd j hj (by omega)) h1;exact⟨t',by rw[g];rfl,e⟩
  .cases hg
 .split at hg
  .rename_i hl
   rw[ZZj hl];obtain⟨⟨ys,s1⟩,h1,he⟩:=ZZc.1 hg;simp only[ZZe] at he;obtain⟨rfl,rfl⟩:=he;obtain⟨t',g,e⟩:=Ext.takeCells h (λj hj Z5=>hd j hj (by omega)) h1;exact⟨_,by rw[g];rfl,e.trans (e.1.setB (hd _ (by omega) (by omega)))⟩
  .cases hg
 .exact h.takeCell (hd k (Vaw _) (by omega)) hg
theorem Ext.takeAll {e:Nat}:∀{xs:List V} {s t:St} {k:Nat} {ys:List V} {s':St},Ext D s t->(∀j,64*k<=j->j < 64*(k+xs.length)->¬D (e,j))->s.takeAll e k xs=some (ys,s')->∃t',t.takeAll e k xs=some (ys,t')/\Kx D t s' t':=by
 intro xs
 induction xs with
 | nil=>
  intro s t k ys s' h _ hs;simp only[St.takeAll,ZZd,ZZe] at hs;obtain⟨rfl,rfl⟩:=hs;exact⟨t,rfl,h.two⟩
 | cons x xs ih=>
  intro s t k ys s' h hd hs;simp only[Vaa] at hd;simp only[St.takeAll] at hs ⊢;obtain⟨⟨y1,s1⟩,h1,hs⟩:=ZZb.1 hs;obtain⟨⟨y2,s2⟩,h2,hs⟩:=ZZc.1 hs;simp only[ZZe] at hs;obtain⟨rfl,rfl⟩:=hs;obtain⟨t1,g1,e1⟩:=h.takeOne (λj hj Z5=>hd j hj (by omega)) h1;obtain⟨t2,g2,e2⟩:=ih e1.1 (λj hj Z5=>hd j (by omega) (by omega)) h2;exact⟨t2,by rw[g1];simp only[ZZa,g2];rfl,e1.trans e2⟩
theorem Ext.takeRes (h:Ext D s t) {e k:Nat} (hd:∀j,64*k<=j->j < 64*(k+8)->¬D (e,j)) {x y:V} (hg:s.takeRes e k x=some (y,s')):∃t',t.takeRes e k x=some (y,t')/\Kx D t s' t':=by
 unfold St.takeRes at hg ⊢;split at hg
 .split at hg
  .rename_i hl
   rw[ZZj hl];obtain⟨⟨ys,s1⟩,h1,he⟩:=ZZc.1 hg;simp only[ZZe] at he;obtain⟨rfl,rfl⟩:=he;obtain⟨t',g,e⟩:=Ext.takeAll h (λj hj Z5=>hd j hj (by omega)) h1;exact⟨t',by rw[g];rfl,e⟩
  .cases hg
 .exact h.takeOne (λj hj Z5=>hd j hj (by omega)) hg
theorem Ext.backCells:∀{xs:List V} {s t:St} {os:List V} {s':St},Ext D s t->(∀c∈xs,Z61 D c)->s.backCells xs os=some s'->∃t',t.backCells xs os=some t'/\Kx D t s' t':=by
 intro xs
 induction xs with
 | nil=>
  intro s t os s' h _ hs;simp only[St.backCells,ZZd] at hs;subst hs;exact⟨t,rfl,h.two⟩
 | cons x xs ih=>
  intro s t os s' h hd hs;unfold St.backCells at hs ⊢;split at hs
  .rename_i heq;cases heq
  .rename_i id l os1 e rows ns Z16
   injection Z16 with h1 h2;subst h1;subst h2;have:=h.setB (b:=⟨false,true,true,e,rows⟩) (hd _ Vab);obtain⟨t',g,e⟩:=ih this.1 (λc hc=>hd c (Vad _ hc)) hs;exact⟨t',g,this.trans e⟩
  .rename_i Z16
   injection Z16 with h1 h2;subst h1;subst h2;rename_i Yf;obtain⟨t',g,e⟩:=ih h (λc hc=>hd c (Vad _ hc)) hs;exact⟨t',g,e⟩
  .cases hs
theorem Ext.back (h:Ext D s t) {m:Yh} {e k:Nat} (hd:∀j,64*k<=j->j < 64*(k+1)->¬D (e,j)) {x o:V} (hi:idsM D m x) (hb:s.back m e k x o=some s'):∃t',t.back m e k x o=some t'/\Kx D t s' t':=by
 unfold St.back at hb ⊢;split at hb
 .simp only[ZZd] at hb;subst hb;exact⟨t,rfl,h.two⟩
 .simp only[ZZd] at hb;subst hb;exact⟨t,rfl,h.two⟩
 .split at hb
  .split at hb
   .rename_i hl
    rw[ZZj hl];obtain⟨⟨ys,s1⟩,h1,rfl⟩:=ZZc.1 hb;obtain⟨t',g,e⟩:=Ext.takeCells h (λj hj Z5=>hd j hj (by omega)) h1;exact⟨_,by rw[g];rfl,e.trans (e.1.setB hi)⟩
   .cases hb
  .cases hb
 .unfold idsM at hi
  generalize thin x=z at hb hi;split at hb
  .exact Ext.backCells h hi hb
  .rename_i Yf
   refine Ext.backCells h (λc hc=>?_) hb;rw[List.mem_singleton.1 hc];cases z<;>first|exact hi|exact trivial
theorem Ext.backs {e:Nat}:∀{xs:List V} {s t:St} {ms:List Yh} {k:Nat} {os:List V} {s':St},Ext D s t->(∀j,64*k<=j->j < 64*(k+xs.length)->¬D (e,j))->Ytw D ms xs->s.backs e ms k xs os=some s'->∃t',t.backs e ms k xs os=some t'/\Kx D t s' t':=by
 intro xs
 induction xs with
 | nil=>
  intro s t ms k os s' h _ _ hs;simp only[St.backs,ZZd] at hs;subst hs;exact⟨t,by simp[St.backs],h.two⟩
 | cons x xs ih=>
  intro s t ms k os s' h hd hi hs;simp only[Vaa] at hd;cases os with
  | nil=>simp[St.backs] at hs
  | cons o os=>
   simp only[St.backs] at hs ⊢;obtain⟨s1,h1,hs⟩:=ZZb.1 hs;obtain⟨t1,g1,e1⟩:=h.back (λj hj Z5=>hd j hj (by omega)) hi.1 h1;obtain⟨t2,g2,e2⟩:=ih e1.1 (λj hj Z5=>hd j (by omega) (by omega)) hi.2 hs;exact⟨t2,by rw[g1];exact g2,e1.trans e2⟩
variable {M:Yp} {C:Qo} {k:Nat} {o:Oper} {v:V}
theorem Ext.call (h:Ext D s t) (hd:∀id:Id,D id->¬(id.1=s.ep/\id.2 / 1024=k)) {g:FuncId} {args:List V} (hc:Zos P M C s k g args=some (v,s')):∃t',Zos P M C t k g args=some (v,t')/\Kx D t s' t':=by
 unfold Zos at hc ⊢;split at hc
 case isFalse=>cases hc
 rename_i hl;rw[ZZj hl];obtain⟨⟨ys,s1⟩,h1,hc⟩:=ZZb.1 hc;obtain⟨xs,h2,hc⟩:=ZZb.1 hc;obtain⟨⟨r,os⟩,h3,hc⟩:=ZZb.1 hc;obtain⟨⟨t1,g1,e1⟩,i1⟩:=h.gives h1;have g2:=e1.1.rdAll h2;simp only at hc g2;rw[g1];simp only[ZZa,g2,h3];split at hc
 .cases hc
 .rename_i hp
  rw[ZZi hp];obtain⟨s2,h4,h5⟩:=ZZb.1 hc;have hnd:∀j,1024*k<=j->j < 1024*(k+1)->¬D (s.ep,j):=λj h1 h2 hD=>hd _ hD ⟨rfl,by simp only;omega⟩;obtain⟨t2,g4,e4⟩:=Ext.backs e1.1 (λj hj Z5=>hnd j (by omega) (by omega)) i1 h4;obtain⟨t3,g5,e5⟩:=e4.1.takeRes (λj hj Z5=>hnd j (by omega) (by omega)) h5;exact⟨t3,by rw[h.ep,g4];exact g5,(e1.trans e4).trans e5⟩
theorem Ext.moved (h:Ext D s t) {all:Bool} {x:V} {rows:List (List V)} {c:Bool} (hm:s.moved all x=some (rows,c,s')):∃t',t.moved all x=some (rows,c,t')/\Kx D t s' t':=by
 have look:∀{x:V},((s.rowsOf x).map λrows=>(rows,Zaq rows,s))=some (rows,c,s')->∃t',((t.rowsOf x).map λrows=>(rows,Zaq rows,t))=some (rows,c,t')/\Kx D t s' t':=by
  intro x hm;obtain⟨r,h1,he⟩:=ZZc.1 hm;simp only[ZZe] at he;obtain⟨rfl,rfl,rfl⟩:=he;exact⟨t,by rw[h.rowsOf h1];rfl,h.two⟩
 unfold St.moved at hm ⊢;split at hm
 .rename_i id off len
  split at hm
  .rename_i er hw
   split at hw
   .rename_i hc
    obtain⟨g,hd⟩:=h.whole hw;simp only[ZZd,ZZe] at hm;obtain⟨rfl,rfl,rfl⟩:=hm;refine⟨t.kill id,?_,h.kill hd⟩;rw[h.ep,ZZj hc,g]
   .cases hw
  .rename_i hw
   have hb:∃b,s.heap id=some b:=by
    obtain⟨r,h1,_⟩:=ZZc.1 hm;simp only[St.rowsOf] at h1;obtain⟨b,hb,_⟩:=ZZb.1 h1;exact⟨b,hb⟩
   obtain⟨b,hb⟩:=hb;have hw':(if id.1=t.ep\/all=true then t.whole id off len else none)=none:=by
    rw[h.ep];split
    .rename_i hc
     rw[ZZj hc] at hw;unfold St.whole at hw ⊢;rw[h.get hb];rw[hb] at hw;exact hw
    .rfl
   rw[hw'];exact look hm
 .exact look hm
theorem Ext.append (h:Ext D s t) {all:Bool} {id:Id} (hd:¬D id) {ty:TypeId} {b x:V} (ha:Zmp P all s id ty b x=some (v,s')):∃t',Zmp P all t id ty b x=some (v,t')/\Kx D t s' t':=by
 unfold Zmp at ha ⊢;obtain⟨e,h1,ha⟩:=ZZb.1 ha;obtain⟨⟨rows,c,s1⟩,h2,ha⟩:=ZZb.1 ha;obtain⟨t1,g2,e2⟩:=h.moved h2;rw[h1,ZZa,g2,ZZa];simp only at ha ⊢;split at ha
 case isFalse=>cases ha
 rename_i hc;rw[ZZj hc];split at ha
 .split at ha
  .rename_i hl
   rw[ZZj hl];simp only[ZZd,ZZe] at ha;obtain⟨rfl,rfl⟩:=ha;exact⟨_,rfl,e2.trans (e2.1.setB hd)⟩
  .cases ha
 .obtain⟨kb,h3,ha⟩:=ZZb.1 ha
  rw[e2.1.get h3,ZZa];split at ha
  .rename_i hl
   rw[ZZj hl];simp only[ZZd,ZZe] at ha;obtain⟨rfl,rfl⟩:=ha;have:=e2.1.kill (e2.1.notD h3);exact⟨_,rfl,(e2.trans this).trans (this.1.setB hd)⟩
  .cases ha
 .cases ha
theorem Ext.slice (h:Ext D s t) {ty:TypeId} {x:V} {lo hi:Option V} (hs:Zqd P s ty x lo hi=some v):Zqd P t ty x lo hi=some v:=by
 unfold Zqd at hs ⊢;obtain⟨e,h1,hs⟩:=ZZb.1 hs;obtain⟨rows,h2,hs⟩:=ZZb.1 hs;rw[h1,ZZa,h.rowsOf h2,ZZa];exact hs
theorem Ext.op {f:Operand->V} (h:Ext D s t) (hd:∀id:Id,D id->¬(id.1=s.ep/\id.2 / 1024=k)) (he:Xb P M C f s k o=some (v,s')):∃t',Xb P M C f t k o=some (v,t')/\Kx D t s' t':=by
 have Zw:¬D (s.ep,1024*k):=λhD=>hd _ hD ⟨rfl,by simp⟩;have pu:∀{x:Option V},(x.map λy=>(y,s))=some (v,s')->∃t',(x.map λy=>(y,t))=some (v,t')/\Kx D t s' t':=by
  intro x hx;obtain⟨y,rfl,he⟩:=ZZc.1 hx;simp only[ZZe] at he;obtain⟨rfl,rfl⟩:=he;exact⟨t,rfl,h.two⟩
 have sm:∀{x:V},some (x,s)=some (v,s')->∃t',some (x,t)=some (v,t')/\Kx D t s' t':=by
  intro x hx;simp only[ZZd,ZZe] at hx;obtain⟨rfl,rfl⟩:=hx;exact⟨t,rfl,h.two⟩
 unfold Xb at he ⊢;simp only[h.ep] at he ⊢;split at he
 .split at he
  .cases he
  .exact sm he
 .split at he
  .cases he
  .exact sm he
 .split at he
  .exact sm he
  .cases he
 .split at he
  .exact pu he
  .cases he
 .split at he
  .exact sm he
  .exact sm he
  .exact sm he
  .cases he
 .obtain⟨z,hz,he⟩:=ZZc.1 he
  simp only[ZZe] at he;obtain⟨rfl,rfl⟩:=he;exact⟨_,by rw[hz];rfl,h.setB Zw⟩
 .obtain⟨cs,Kj,he⟩:=ZZb.1 he
  rw[Kj,ZZa];split at he
  .rename_i hl
   rw[ZZj hl];simp only[ZZd,ZZe] at he;obtain⟨rfl,rfl⟩:=he;exact⟨_,rfl,h.setB Zw⟩
  .cases he
 .obtain⟨z,hz,he⟩:=ZZb.1 he
  rw[hz,ZZa];split at he
  .split at he
   .cases he
   .rename_i hl
    rw[ZZi hl];obtain⟨cs,Kj,he⟩:=ZZc.1 he;rw[Kj];exact sm (congrArg some he)
  .cases he
 .obtain⟨e,Wx,he⟩:=ZZb.1 he
  obtain⟨z,hz,he⟩:=ZZb.1 he;rw[Wx,ZZa,hz,ZZa];split at he
  .cases he
  .rename_i hl
   rw[ZZi hl];obtain⟨cs,Kj,he⟩:=ZZb.1 he;obtain⟨⟨rows,c,s1⟩,hs,he⟩:=ZZc.1 he;simp only[ZZe] at he;obtain⟨rfl,rfl⟩:=he;obtain⟨t1,g,e1⟩:=Ext.sinkRows _ h hs;exact⟨_,by rw[Kj,ZZa,g];rfl,e1.trans (e1.1.setB Zw)⟩
 .split at he
  .obtain⟨b,hb,he⟩:=ZZb.1 he
   obtain⟨row,Yx,he⟩:=ZZb.1 he;rw[h.get hb,ZZa,Yx,ZZa];split at he
   .rename_i hl
    rw[ZZj hl];exact pu he
   .cases he
  .split at he
   .rename_i hl
    rw[ZZj hl];exact pu he
   .cases he
  .cases he
 .split at he
  .obtain⟨b,hb,he⟩:=ZZb.1 he
   obtain⟨row,Yx,he⟩:=ZZb.1 he;obtain⟨cs,Kj,he⟩:=ZZb.1 he;rw[h.get hb,ZZa,Yx,ZZa,Kj,ZZa];split at he
   .rename_i hc
    rw[ZZj hc];split at he
    .rename_i Xi
     rw[ZZj Xi];simp only[ZZd,ZZe] at he;obtain⟨rfl,rfl⟩:=he;exact⟨_,rfl,h.setB (h.notD hb)⟩
    .rename_i Xi
     rw[ZZi Xi];obtain⟨⟨ys,c,s1⟩,hs,he⟩:=ZZb.1 he;obtain⟨t1,g,e1⟩:=Ext.sink _ h hs;simp only at he;split at he
     .rename_i b1 hb1
      simp only[ZZd,ZZe] at he;obtain⟨rfl,rfl⟩:=he;exact⟨_,by rw[g,ZZa];simp only[e1.1.get hb1],e1.trans (e1.1.setB (h.notD hb))⟩
     .cases he
   .cases he
  .cases he
 .obtain⟨off,Z8f,he⟩:=ZZb.1 he
  rw[Z8f,ZZa];split at he
  .exact sm he
  .exact sm he
  .cases he
 .obtain⟨e,Wx,he⟩:=ZZb.1 he
  rw[Wx,ZZa];split at he
  .cases he
  .rename_i hz
   rw[ZZi hz];obtain⟨n,hn,he⟩:=ZZb.1 he;rw[hn,ZZa];split at he
   .split at he
    .rename_i Z5
     rw[ZZj Z5];obtain⟨b,hb,he⟩:=ZZb.1 he;obtain⟨row,Yx,he⟩:=ZZb.1 he;rw[h.get hb,ZZa,Yx,ZZa];split at he
     .rename_i hl;rw[ZZj hl];exact sm he
     .cases he
    .cases he
   .obtain⟨row,Yx,he⟩:=ZZb.1 he
    rw[Yx,ZZa];split at he
    .rename_i hl;rw[ZZj hl];exact sm he
    .cases he
   .obtain⟨row,Yx,he⟩:=ZZb.1 he
    rw[Yx,ZZa];split at he
    .rename_i hl;rw[ZZj hl];exact sm he
    .cases he
   .cases he
 .split at he
  .obtain⟨y,hy,he⟩:=ZZc.1 he
   rw[h.slice hy];exact sm (congrArg some he)
  .obtain⟨y,hy,he⟩:=ZZc.1 he
   rw[h.slice hy];exact sm (congrArg some he)
  .obtain⟨y,hy,he⟩:=ZZc.1 he
   rw[h.slice hy];exact sm (congrArg some he)
  .exact pu he
 .obtain⟨e,Wx,he⟩:=ZZb.1 he
  obtain⟨z,hz,he⟩:=ZZb.1 he;obtain⟨n,hn,he⟩:=ZZb.1 he;obtain⟨m,hm,he⟩:=ZZb.1 he;rw[Wx,ZZa,hz,ZZa,hn,ZZa,hm,ZZa];split at he
  .rename_i hc
   rw[ZZj hc];simp only[ZZd,ZZe] at he;obtain⟨rfl,rfl⟩:=he;exact⟨_,rfl,h.setB Zw⟩
  .cases he
 .split at he
  .rename_i hf;rw[ZZj hf];exact sm he
  .cases he
 .split at he
  .exact pu he
  .split at he
   .split at he
    .obtain⟨rows,hr,he⟩:=ZZb.1 he
     rw[h.rowsOf hr,ZZa];obtain⟨bs,hb,he⟩:=ZZc.1 he;rw[hb];exact sm (congrArg some he)
    .cases he
   .cases he
   .cases he
 .split at he
  .split at he
   .split at he
    .rename_i hl
     rw[ZZj hl];exact h.append Zw he
    .cases he
   .cases he
  .split at he
   .split at he
    .split at he
     .rename_i hl;rw[ZZj hl];exact sm he
     .cases he
    .split at he
     .rename_i hl;rw[ZZj hl];exact sm he
     .cases he
    .split at he
     .rename_i hl;rw[ZZj hl];exact sm he
     .cases he
    .exact pu he
   .cases he
  .split at he
   .obtain⟨e,Wx,he⟩:=ZZb.1 he
    obtain⟨z,hz,he⟩:=ZZb.1 he;rw[Wx,ZZa,hz,ZZa];split at he
    .obtain⟨b,hb,he⟩:=ZZb.1 he
     rw[h.get hb,ZZa];split at he
     .rename_i hc
      rw[ZZj hc];simp only[ZZd,ZZe] at he;obtain⟨rfl,rfl⟩:=he;exact⟨_,rfl,h.setB (h.notD hb)⟩
     .cases he
    .cases he
   .cases he
  .exact pu he
  .split at he
   .exact h.call hd he
   .cases he
  .cases he
 .split at he
  .exact pu he
  .exact pu he
  .exact pu he
  .split at he
   .cases he
   .rename_i Wx
    rw[ZZi Wx];split at he
    .rw[h.rowsOf (show s.rowsOf _=some (_::_) by assumption)];exact sm he
    .rw[h.rowsOf (show s.rowsOf _=some (_::_) by assumption)];exact sm he
    .cases he
  .split at he
   .cases he
   .rename_i Wx
    rw[ZZi Wx];split at he
    .rw[h.rowsOf (show s.rowsOf _=some (_::_) by assumption)];exact sm he
    .rw[h.rowsOf (show s.rowsOf _=some (_::_) by assumption)];exact sm he
    .cases he
  .cases he
 .exact pu he
end
section
variable {s s' t:St} {P:Program} {M:Yp} {C:Qo} {k:Nat} {o:Oper} {v:V} {f f':Operand->V}
theorem Yhq (h:∀x∈o.op.operands.toList,f x=f' x) (hc:Zj9 o.op=true->execOp (λx=>(Xu (f x)).getD undef) o=execOp (λx=>(Xu (f' x)).getD undef) o):Xd P f o=Xd P f' o:=by
 unfold Xd;have h1:o.op.operands.toList.all (λx=>(Xu (f x)).isSome)=o.op.operands.toList.all (λx=>(Xu (f' x)).isSome):=by
  rw[Bool.eq_iff_iff,ZZk,ZZk];exact⟨λhh x hx=>by rw[<-h x hx];exact hh x hx,λhh x hx=>by rw[h x hx];exact hh x hx⟩
 rw[h1];cases hp:Zj9 o.op with
 | false=>simp
 | true=>rw[hc hp]
theorem Y0d:∀{xs:List V} {s:St} {ts:List TypeId} {ms:List Yh} {ys:List V} {s':St},(ms.any λm=>m != .rd)=false->s.gives P ts ms xs=some (ys,s')->s'=s:=by
 intro xs
 induction xs with
 | nil=>
  intro s ts ms ys s' _ hs;simp only[St.gives,ZZd,ZZe] at hs;exact hs.2.symm
 | cons x xs ih=>
  intro s ts ms ys s' hm hs;simp only[St.gives] at hs;obtain⟨⟨y1,s1⟩,h1,hs⟩:=ZZb.1 hs;obtain⟨⟨y2,s2⟩,h2,hs⟩:=ZZc.1 hs;simp only[ZZe] at hs;obtain⟨rfl,rfl⟩:=hs;have hrd:ms.headD .rd=.rd/\(ms.tail.any λm=>m != .rd)=false:=by
   cases ms with
   | nil=>exact⟨rfl,rfl⟩
   | cons m ms=>
    simp only[Vcm,Vca] at hm;exact⟨by simpa using hm.1,hm.2⟩
  rw[hrd.1] at h1;simp only[St.give,ZZd,ZZe] at h1;obtain⟨rfl,rfl⟩:=h1;exact ih hrd.2 h2
theorem Y0h {e:Nat}:∀{xs:List V} {s:St} {ms:List Yh} {k:Nat} {os:List V} {s':St},(ms.any λm=>m != .rd)=false->s.backs e ms k xs os=some s'->s'=s:=by
 intro xs
 induction xs with
 | nil=>
  intro s ms k os s' _ hs;simp only[St.backs,ZZd] at hs;exact hs.symm
 | cons x xs ih=>
  intro s ms k os s' hm hs;have hrd:ms.headD .rd=.rd/\(ms.tail.any λm=>m != .rd)=false:=by
   cases ms with
   | nil=>exact⟨rfl,rfl⟩
   | cons m ms=>
    simp only[Vcm,Vca] at hm;exact⟨by simpa using hm.1,hm.2⟩
  cases os with
  | nil=>simp[St.backs] at hs
  | cons o os=>
   simp only[St.backs] at hs;obtain⟨s1,h1,hs⟩:=ZZb.1 hs;rw[hrd.1] at h1;simp only[St.back,ZZd] at h1;subst h1;exact ih hrd.2 hs
theorem Zys {id id':Id} {b:Blk} (h:id'≠id):(s.setB id b).heap id'=s.heap id':=by simp[St.setB,upd,h]
theorem Z70 {id id':Id} {x y:V} (ht:s.takeCell id x=some (y,s')) (Yf:id'≠id):s'.heap id'=s.heap id':=by
 unfold St.takeCell at ht;split at ht
 .simp only[ZZd,ZZe] at ht;obtain⟨rfl,rfl⟩:=ht;exact Zys Yf
 .simp only[ZZd,ZZe] at ht;obtain⟨rfl,rfl⟩:=ht;rfl
 .simp only[ZZd,ZZe] at ht;obtain⟨rfl,rfl⟩:=ht;rfl
 .cases ht
theorem Z5k {e:Nat} {id':Id}:∀{xs:List V} {s:St} {k:Nat} {ys:List V} {s':St},s.takeCells e k xs=some (ys,s')->¬(id'.1=e/\k<=id'.2/\id'.2 < k+xs.length)->s'.heap id'=s.heap id':=by
 intro xs
 induction xs with
 | nil=>intro s k ys s' hs _;simp only[St.takeCells,ZZd,ZZe] at hs;rw[hs.2]
 | cons x xs ih=>
  intro s k ys s' hs hn;simp only[Vaa] at hn;simp only[St.takeCells] at hs;obtain⟨⟨y1,s1⟩,h1,hs⟩:=ZZb.1 hs;obtain⟨⟨y2,s2⟩,h2,hs⟩:=ZZc.1 hs;simp only[ZZe] at hs;obtain⟨rfl,rfl⟩:=hs;rw[ih h2 (λh=>hn ⟨h.1,by omega,by omega⟩)];exact Z70 h1 (λe=>hn (by subst e;exact⟨rfl,Vaw _,by simp⟩))
theorem Yaf {e k:Nat} {id':Id} {x y:V} (ht:s.takeOne e k x=some (y,s')) (hn:¬(id'.1=e/\k<=id'.2/\id'.2 < k+64)):s'.heap id'=s.heap id':=by
 unfold St.takeOne at ht;split at ht
 .split at ht
  .obtain⟨⟨ys,s1⟩,h1,he⟩:=ZZc.1 ht
   simp only[ZZe] at he;obtain⟨rfl,rfl⟩:=he;exact Z5k h1 (λh=>hn ⟨h.1,h.2.1,by omega⟩)
  .cases ht
 .split at ht
  .obtain⟨⟨ys,s1⟩,h1,he⟩:=ZZc.1 ht
   simp only[ZZe] at he;obtain⟨rfl,rfl⟩:=he;rw[Zys (λe=>hn (by subst e;exact⟨rfl,by simp,by simp⟩))];exact Z5k h1 (λh=>hn ⟨h.1,h.2.1,by omega⟩)
  .cases ht
 .exact Z70 ht (λe=>hn (by subst e;exact⟨rfl,Vaw _,by simp⟩))
theorem Ypw {e:Nat} {id':Id}:∀{xs:List V} {s:St} {k:Nat} {ys:List V} {s':St},s.takeAll e k xs=some (ys,s')->¬(id'.1=e/\64*k<=id'.2/\id'.2 < 64*(k+xs.length))->s'.heap id'=s.heap id':=by
 intro xs
 induction xs with
 | nil=>intro s k ys s' hs _;simp only[St.takeAll,ZZd,ZZe] at hs;rw[hs.2]
 | cons x xs ih=>
  intro s k ys s' hs hn;simp only[Vaa] at hn;simp only[St.takeAll] at hs;obtain⟨⟨y1,s1⟩,h1,hs⟩:=ZZb.1 hs;obtain⟨⟨y2,s2⟩,h2,hs⟩:=ZZc.1 hs;simp only[ZZe] at hs;obtain⟨rfl,rfl⟩:=hs;rw[ih h2 (λh=>hn ⟨h.1,by omega,by omega⟩)];exact Yaf h1 (λh=>hn ⟨h.1,h.2.1,by omega⟩)
theorem Yq6 {e k:Nat} {id':Id} {x y:V} (ht:s.takeRes e k x=some (y,s')) (hn:¬(id'.1=e/\64*k<=id'.2/\id'.2 < 64*(k+8))):s'.heap id'=s.heap id':=by
 unfold St.takeRes at ht;split at ht
 .split at ht
  .obtain⟨⟨ys,s1⟩,h1,he⟩:=ZZc.1 ht
   simp only[ZZe] at he;obtain⟨rfl,rfl⟩:=he;exact Ypw h1 (λh=>hn ⟨h.1,h.2.1,by omega⟩)
  .cases ht
 .exact Yaf ht (λh=>hn ⟨h.1,h.2.1,by omega⟩)
theorem Yxx (he:Xb P M C f s k o=some (v,s')) (hw:Zmu M f o=false) {id:Id} (hf:Wf s.ep k id=false):s'.heap id=s.heap id:=by
 have Zw:id≠(s.ep,1024*k):=λe=>by subst e;simp[Wf] at hf
 have pu:∀{x:Option V},(x.map λy=>(y,s))=some (v,s')->s'.heap id=s.heap id:=by
  intro x hx;obtain⟨y,_,he⟩:=ZZc.1 hx;simp only[ZZe] at he;rw[<-he.2]
 have sm:∀{x:V},some (x,s)=some (v,s')->s'.heap id=s.heap id:=by
  intro x hx;simp only[ZZd,ZZe] at hx;rw[<-hx.2]
 unfold Xb at he;unfold Zmu at hw;split at he
 .split at he
  .cases he
  .exact sm he
 .split at he
  .cases he
  .exact sm he
 .split at he
  .exact sm he
  .cases he
 .split at he
  .exact pu he
  .cases he
 .split at he
  .exact sm he
  .exact sm he
  .exact sm he
  .cases he
 .obtain⟨z,hz,he⟩:=ZZc.1 he
  simp only[ZZe] at he;obtain⟨rfl,rfl⟩:=he;exact Zys Zw
 .obtain⟨cs,Kj,he⟩:=ZZb.1 he
  split at he
  .simp only[ZZd,ZZe] at he
   obtain⟨rfl,rfl⟩:=he;exact Zys Zw
  .cases he
 .obtain⟨z,hz,he⟩:=ZZb.1 he
  split at he
  .split at he
   .cases he
   .obtain⟨cs,Kj,he⟩:=ZZc.1 he
    exact sm (congrArg some he)
  .cases he
 .rename_i ho;rw[ho] at hw;simp at hw
 .split at he
  .obtain⟨b,hb,he⟩:=ZZb.1 he
   obtain⟨row,Yx,he⟩:=ZZb.1 he;split at he
   .exact pu he
   .cases he
  .split at he
   .exact pu he
   .cases he
  .cases he
 .rename_i ho;rw[ho] at hw;simp at hw
 .obtain⟨off,Z8f,he⟩:=ZZb.1 he
  split at he
  .exact sm he
  .exact sm he
  .cases he
 .obtain⟨e,Wx,he⟩:=ZZb.1 he
  split at he
  .cases he
  .obtain⟨n,hn,he⟩:=ZZb.1 he
   split at he
   .split at he
    .obtain⟨b,hb,he⟩:=ZZb.1 he
     obtain⟨row,Yx,he⟩:=ZZb.1 he;split at he
     .exact sm he
     .cases he
    .cases he
   .obtain⟨row,Yx,he⟩:=ZZb.1 he
    split at he
    .exact sm he
    .cases he
   .obtain⟨row,Yx,he⟩:=ZZb.1 he
    split at he
    .exact sm he
    .cases he
   .cases he
 .split at he
  .exact pu he
  .exact pu he
  .exact pu he
  .exact pu he
 .obtain⟨e,Wx,he⟩:=ZZb.1 he
  obtain⟨z,hz,he⟩:=ZZb.1 he;obtain⟨n,hn,he⟩:=ZZb.1 he;obtain⟨m,hm,he⟩:=ZZb.1 he;split at he
  .simp only[ZZd,ZZe] at he
   obtain⟨rfl,rfl⟩:=he;exact Zys Zw
  .cases he
 .split at he
  .exact sm he
  .cases he
 .split at he
  .exact pu he
  .split at he
   .split at he
    .obtain⟨rows,hr,he⟩:=ZZb.1 he
     obtain⟨bs,hb,he⟩:=ZZc.1 he;exact sm (congrArg some he)
    .cases he
   .cases he
   .cases he
 .rename_i c ho
  rw[ho] at hw;simp only at hw;split at he
  .rename_i hc;rw[hc] at hw;simp at hw
  .split at he
   .split at he
    .split at he
     .exact sm he
     .cases he
    .split at he
     .exact sm he
     .cases he
    .split at he
     .exact sm he
     .cases he
    .exact pu he
   .cases he
  .rename_i hc;rw[hc] at hw;simp at hw
  .exact pu he
  .rename_i x hc
   rw[hc] at hw;simp only at hw;split at he
   .rename_i g caps hf'
    rw[hf'] at hw;simp only at hw;unfold Zos at he;split at he
    .obtain⟨⟨ys,s1⟩,h1,he⟩:=ZZb.1 he
     obtain⟨xs,h2,he⟩:=ZZb.1 he;obtain⟨⟨r,os⟩,h3,he⟩:=ZZb.1 he;have e1:=Y0d hw h1;subst e1;simp only at he;split at he
     .cases he
     .obtain⟨s2,h4,h5⟩:=ZZb.1 he
      have e2:=Y0h hw h4;subst e2;refine Yq6 h5 (λh=>?_);have:Wf s2.ep k id=true:=by
       simp only[Wf,ZZg,beq_iff_eq];exact⟨h.1,by omega⟩
      rw[this] at hf;cases hf
    .cases he
   .cases he
  .cases he
 .split at he
  .exact pu he
  .exact pu he
  .exact pu he
  .split at he
   .cases he
   .split at he
    .exact sm he
    .exact sm he
    .cases he
  .split at he
   .cases he
   .split at he
    .exact sm he
    .exact sm he
    .cases he
  .cases he
 .exact pu he
end
end Go.Proofs.YtagdmghmblplbaaGreat.Ev
namespace Go.Proofs.YtagdmghmblplbaaGreat.Ev
open Go
variable [Anchor]
section
variable {s s' t:St} {P:Program} {M:Yp} {C:Qo} {k:Nat} {o:Oper} {v:V} {f f':Operand->V}
theorem Yo9 (h:∀x∈o.op.operands.toList,f x=f' x):Xd P f o=Xd P f' o:=
 Yhq h λhp=>Ztq hp λx hx=>by rw[h x hx]
theorem Yqo (h:∀x∈o.op.operands.toList,f x=f' x):Xb P M C f s k o=Xb P M C f' s k o:=by
 have hs:=Yo9 (P:=P) h;unfold Xb;simp only[hs];obtain⟨dst,op,type,pos,after,guard⟩:=o;cases op<;>simp only[Op.operands] at h<;>simp only<;>try rfl
 case move x=>rw[h x (by simp)]
 case assign x=>rw[h x (by simp)]
 case pick c x y=>rw[h c (by simp),h x (by simp),h y (by simp)]
 case box t x=>rw[h x (by simp)]
 case build t ps=>
  have:(ps.toList.map λp=>(p.1,f p.2))=ps.toList.map λp=>(p.1,f' p.2):=Vcd λp hp=>by rw[h p.2 (by simpa using ⟨p.1,by simpa using hp⟩)]
  rw[this]
 case buildSlice t n ps=>
  have:(ps.toList.map λp=>(p.1,f p.2))=ps.toList.map λp=>(p.1,f' p.2):=Vcd λp hp=>by rw[h p.2 (by simpa using ⟨p.1,by simpa using hp⟩)]
  rw[this]
 case load t x=>rw[h x (by simp)]
 case store t x y=>rw[h x (by simp),h y (by simp)]
 case nilCheck x=>rw[h x (by simp)]
 case binOp op t x y yt=>rw[h x (by simp),h y (by simp)]
 case convert src dst x=>rw[h x (by simp)]
 case fieldAddr t x i=>rw[h x (by simp)]
 case indexAddr t x i=>rw[h x (by simp),h i (by simp)]
 case slice t x lo hi mx=>
  have h1:=h x (by simp);have h2:lo.map f=lo.map f':=by cases lo<;>simp;exact h _ (by simp)
  have h3:hi.map f=hi.map f':=by cases hi<;>simp;exact h _ (by simp)
  cases mx with
  | none=>simp only[h1,h2,h3]
  | some m=>rfl
 case makeSlice t l c=>rw[h l (by simp),h c (by simp)]
 case makeFunc fn first caps=>
  have:caps.toList.map f=caps.toList.map f':=Vcd λx hx=>h x (by simp at hx ⊢;exact .inr hx);cases fn<;>simp only[this]
 case extract x i=>rw[h x (by simp)]
 case call c=>
  obtain⟨callee,ars,ts⟩:=c;cases callee with
  | value g=>
   simp only[Call.operands] at h;have h1:f g=f' g:=h g (by simp);have:ars.toList.map f=ars.toList.map f':=Vcd λx hx=>h x (by simp at hx ⊢;exact .inr hx);simp only[h1,this]
  | invoke r m=>rfl
  | builtin b=>
   simp only[Call.operands] at h;have h1:∀x,x∈ars.toList->f x=f' x:=λx hx=>h x (by simpa using hx);cases b<;>simp only<;>try rfl
   case append=>
    split
    .rename_i heq _
     have hb:=h1 _ (by rw[heq];exact Vab);have hx:=h1 _ (by rw[heq];exact Vad _ Vab);rw[hb,hx]
    .rfl
   case len=>
    split
    .rename_i heq _
     have hb:=h1 _ (by rw[heq];exact Vab);rw[hb]
    .rfl
   case clear=>
    split
    .rename_i heq _
     have hb:=h1 _ (by rw[heq];exact Vab);rw[hb]
    .rfl
end
end Go.Proofs.YtagdmghmblplbaaGreat.Ev
namespace Go.Proofs.YtagdmghmblplbaaGreat.Ev
open Go Go.RowKit
variable [Anchor]
structure Eff where
 dst:Option Tmp
 v:V
 W:Id->Bool
 hp:Id->Option Blk
def Eff.app (E:Eff) (s:St):St:=St.put {s with heap:=λid=>if E.W id then E.hp id else s.heap id} E.dst E.v
theorem Eff.app_ep (E:Eff) (s:St):(E.app s).ep=s.ep:=by unfold Eff.app;rw[Zho]
theorem Eff.app_heap (E:Eff) (s:St):(E.app s).heap=λid=>if E.W id then E.hp id else s.heap id:=by unfold Eff.app;rw[Ztm]
theorem Eff.app_env (E:Eff) (s:St) (t:Nat):(E.app s).env t=if E.dst=some t then E.v else s.env t:=by
 unfold Eff.app St.put;split
 .rename_i d hd
  simp only[upd,hd,ZZd];by_cases h:t=d
  .subst h;simp
  .rw[ZZi h,ZZi (λe=>h e.symm)]
 .rename_i hd;rw[hd];simp
theorem St.ext' {a b:St} (h1:∀t,a.env t=b.env t) (h2:∀id,a.heap id=b.heap id) (h3:a.ep=b.ep):a=b:=by
 obtain⟨e1,p1,n1⟩:=a;obtain⟨e2,p2,n2⟩:=b;simp only at h1 h2 h3;rw[funext h1,funext h2,h3]
structure Ytt (E G:Eff):Prop where
 dst:∀t,E.dst=some t->G.dst≠some t
 W:∀id,E.W id=true->G.W id=false
theorem Eff.comm {E G:Eff} (h:Ytt E G) (s:St):E.app (G.app s)=G.app (E.app s):=by
 refine St.ext' (λt=>?_) (λid=>?_) (by simp[Eff.app_ep])
 .simp only[Eff.app_env]
  by_cases h1:E.dst=some t
  .rw[ZZj h1,ZZi (h.dst t h1),ZZj h1]
  .rw[ZZi h1,ZZi h1]
 .simp only[Eff.app_heap]
  cases h1:E.W id with
  | true=>simp[h.W id h1]
  | false=>simp
def sub (Es:Nat->Eff) (L:Nat->Bool) (s:St):Nat->St
 | 0=>s
 | k+1=>if L k then (Es k).app (sub Es L s k) else sub Es L s k
theorem Zai (Es:Nat->Eff) (L:Nat->Bool) (s:St) (k:Nat):sub Es L s (k+1)=if L k then (Es k).app (sub Es L s k) else sub Es L s k:=rfl
theorem Yeg (Es:Nat->Eff) (L:Nat->Bool) (s:St) (k:Nat):(sub Es L s k).ep=s.ep:=by
 induction k with
 | zero=>rfl
 | succ k ih=>rw[Zai];split<;>simp[Eff.app_ep,ih]
theorem Yh4 {Es:Nat->Eff} {L L':Nat->Bool} {s:St}:∀{k:Nat},(∀j,j < k->L j=L' j)->sub Es L s k=sub Es L' s k:=by
 intro k
 induction k with
 | zero=>intro _;rfl
 | succ k ih=>intro h;rw[Zai,Zai,h k (by omega),ih λj hj=>h j (by omega)]
def Zuj (A:Nat->Prop) (T:Id->Prop) (x y:St):Prop:=(∀t,A t->x.env t=y.env t)/\∀id,T id->x.heap id=y.heap id
theorem Zuj.app {A:Nat->Prop} {T:Id->Prop} {x y:St} (h:Zuj A T x y) (E:Eff):Zuj A T (E.app x) (E.app y):=
 ⟨λt ht=>by simp only[Eff.app_env,h.1 t ht],λid Zw=>by simp only[Eff.app_heap,h.2 id Zw]⟩
def Off (E:Eff) (A:Nat->Prop) (T:Id->Prop):Prop:=(∀t,A t->E.dst≠some t)/\∀id,T id->E.W id=false
theorem Zuj.off {A:Nat->Prop} {T:Id->Prop} {x y:St} (h:Zuj A T x y) {E:Eff} (ho:Off E A T):Zuj A T (E.app x) y:=
 ⟨λt ht=>by rw[Eff.app_env,ZZi (ho.1 t ht)];exact h.1 t ht,λid Zw=>by simp only[Eff.app_heap,ho.2 id Zw];exact h.2 id Zw⟩
theorem Zuj.off' {A:Nat->Prop} {T:Id->Prop} {x y:St} (h:Zuj A T x y) {E:Eff} (ho:Off E A T):Zuj A T x (E.app y):=
 ⟨λt ht=>by rw[Eff.app_env,ZZi (ho.1 t ht)];exact h.1 t ht,λid Zw=>by simp only[Eff.app_heap,ho.2 id Zw];exact h.2 id Zw⟩
theorem Yx5 {Es:Nat->Eff} {L:Nat->Bool} {s:St} {A:Nat->Prop} {T:Id->Prop} {i n:Nat} (hi:L i=false) (h1:∀j,j < i->L j=false->Off (Es j) A T) (h2:∀j,i < j->j < n->L j=true->Off (Es j) A T):
  ∀k,k<=n->Zuj A T (sub Es L s k) (sub Es (λ_=>true) s (min k i)):=by
 intro k
 induction k with
 | zero=>intro _;rw[Nat.zero_min];exact⟨λ_ _=>rfl,λ_ _=>rfl⟩
 | succ k ih=>
  intro hk;have ih:=ih (by omega);by_cases Z5:k < i
  .rw[Nat.min_eq_left (by omega)] at ih ⊢
   have e2:sub Es (λ_=>true) s (k+1)=(Es k).app (sub Es (λ_=>true) s k):=by rw[Zai];rfl
   rw[e2,Zai];cases hL:L k with
   | true=>simp only[if_true];exact ih.app _
   | false=>simp only[ZZf,if_false];exact ih.off' (h1 k Z5 hL)
  .rw[Nat.min_eq_right (by omega)] at ih ⊢
   rw[Zai];cases hL:L k with
   | true=>
    simp only[if_true];have Yf:k≠i:=λe=>by subst e;rw[hi] at hL;cases hL
    exact ih.off (h2 k (by omega) (by omega) hL)
   | false=>simp only[ZZf,if_false];exact ih
theorem Y2e {Es:Nat->Eff} {L:Nat->Bool} {s:St} {i n:Nat} (hin:i < n) (hi:L i=false) (hc:∀j,i < j->j < n->L j=true->Ytt (Es i) (Es j)):
  (Es i).app (sub Es L s n)=sub Es (λj=>L j||j == i) s n:=by
 have key:∀k,i < k->k<=n->(Es i).app (sub Es L s k)=sub Es (λj=>L j||j == i) s k:=by
  intro k
  induction k with
  | zero=>intro h;omega
  | succ k ih=>
   intro h1 h2;by_cases he:k=i
   .subst he
    have e1:sub Es L s (k+1)=sub Es L s k:=by rw[Zai,hi];rfl
    have e2:sub Es (λj=>L j||j == k) s (k+1)=(Es k).app (sub Es (λj=>L j||j == k) s k):=by rw[Zai];simp
    rw[e1,e2]
    congr 1
    refine Yh4 λj hj=>?_;have:(j == k)=false:=by simpa using (show j≠k by omega)
    simp[this]
   .have ih:=ih (by omega) (by omega)
    have hki:(k == i)=false:=by simpa using he
    rw[Zai,Zai];simp only[hki,Vdv];cases hL:L k with
    | true=>
     simp only[if_true];rw[Eff.comm (hc k (by omega) (by omega) hL),ih]
    | false=>simp only[ZZf,if_false];exact ih
 exact key n hin (Vaw _)
theorem Ydc {Es Es':Nat->Eff} {L:Nat->Bool} {s:St}:∀{k:Nat},(∀j,j < k->Es j=Es' j)->sub Es L s k=sub Es' L s k:=by
 intro k
 induction k with
 | zero=>intro _;rfl
 | succ k ih=>intro h;rw[Zai,Zai,h k (by omega),ih λj hj=>h j (by omega)]
section
variable {P:Program} {M:Yp} {C:Nat->Qo} {ops:Array Oper}
structure Zru (P:Program) (M:Yp) (C:Nat->Qo) (ops:Array Oper) (s0:St) (Es:Nat->Eff) (Rs:Nat->Rec) (i:Nat) (o:Oper):Prop where
 pre:(Rs i).pre=Zuk ((List.range i).map Rs) o
 ok:Zob ops s0.ep ((List.range i).map Rs) (Rs i).pre i o (Rs i).T (Rs i).w=true
 dst:(Es i).dst=o.dst
 run:∃g,wanted (sub Es (λ_=>true) s0 i) ops o=some g/\
  (g=true->∃y,Xb P M (C i) (sub Es (λ_=>true) s0 i).opV ((sub Es (λ_=>true) s0 i).only (Rs i).T) i o=some ((Es i).v,y)/\(∀id,(Es i).W id=(Wf s0.ep i id||((Rs i).w&&(Rs i).T.contains id)))/\(Es i).hp=y.heap/\(Rs i).w=Zmu M (sub Es (λ_=>true) s0 i).opV o)/\
  (g=false->(Es i).v=.tup []/\(∀id,(Es i).W id=false)/\(Rs i).T=[]/\(Rs i).w=false)
theorem Ykw {s0:St}:∀(l:List Oper) {k:Nat} {s s':St} {recs:List Rec} {Es0:Nat->Eff} {Rs0:Nat->Rec},recs=(List.range k).map Rs0->s=sub Es0 (λ_=>true) s0 k->Zc1 P M C ops s recs k l=some s'->
  ∃Es Rs,(∀j,j < k->Es j=Es0 j/\Rs j=Rs0 j)/\s'=sub Es (λ_=>true) s0 (k+l.length)/\∀(j:Nat) (o:Oper),l[j]?=some o->Zru P M C ops s0 Es Rs (k+j) o:=by
 intro l
 induction l with
 | nil=>
  intro k s s' recs Es0 Rs0 hr hs he;simp only[Zc1,ZZd] at he;subst he;exact⟨Es0,Rs0,λ_ _=>⟨rfl,rfl⟩,by rw[hs];rfl,λj o ho=>by simp at ho⟩
 | cons o l ih=>
  intro k s s' recs Es0 Rs0 hr hs he;simp only[Zc1] at he;obtain⟨g,hg,he⟩:=ZZb.1 he;have Ym:s.ep=s0.ep:=by rw[hs,Yeg]
  have more:∀(E:Eff) (R:Rec),Zc1 P M C ops (E.app s) (recs++[R]) (k+1) l=some s'->R.pre=Zuk recs o->Zob ops s.ep recs R.pre k o R.T R.w=true->E.dst=o.dst->
    (g=true->∃y,Xb P M (C k) s.opV (s.only R.T) k o=some (E.v,y)/\(∀id,E.W id=(Wf s0.ep k id||(R.w&&R.T.contains id)))/\E.hp=y.heap/\R.w=Zmu M s.opV o)->
    (g=false->E.v=.tup []/\(∀id,E.W id=false)/\R.T=[]/\R.w=false)->
    ∃Es Rs,(∀j,j < k->Es j=Es0 j/\Rs j=Rs0 j)/\s'=sub Es (λ_=>true) s0 (k+(o::l).length)/\∀(j:Nat) (o':Oper),(o::l)[j]?=some o'->Zru P M C ops s0 Es Rs (k+j) o':=by
   intro E R he Z5i Y2 hdst ht hf;have Yv4:∀j,j < k->upd Es0 k E j=Es0 j:=λj hj=>by simp[upd,show j≠k by omega]
   have Y1a:∀j,j < k->upd Rs0 k R j=Rs0 j:=λj hj=>by simp[upd,show j≠k by omega]
   obtain⟨Es,Rs,h1,h2,h3⟩:=ih (k:=k+1) (Es0:=upd Es0 k E) (Rs0:=upd Rs0 k R) (by
    rw[List.range_succ,Vcn,hr]
    congr 1
    .refine Vcd λj hj=>?_
     rw[Y1a j (Vc7.1 hj)]
    .simp[upd]) (by
    rw[Zai];simp only[if_true];rw[Ydc (Es':=Es0) Yv4,<-hs];simp[upd]) he
   have hE:∀j,j < k->Es j=Es0 j:=λj hj=>by rw[(h1 j (by omega)).1,Yv4 j hj]
   have hR:∀j,j < k->Rs j=Rs0 j:=λj hj=>by rw[(h1 j (by omega)).2,Y1a j hj]
   have hEk:Es k=E:=by rw[(h1 k (by omega)).1];simp[upd]
   have hRk:Rs k=R:=by rw[(h1 k (by omega)).2];simp[upd]
   have Zex:sub Es (λ_=>true) s0 k=s:=by rw[Ydc hE,<-hs]
   have Y1b:(List.range k).map Rs=recs:=by rw[hr];exact Vcd λj hj=>hR j (Vc7.1 hj)
   refine⟨Es,Rs,λj hj=>⟨hE j hj,hR j hj⟩,by rw[h2];congr 1;simp;omega,λj o' ho=>?_⟩;cases j with
   | zero=>
    have:o=o':=by simpa using ho
    subst this;refine⟨by rw[Va3,hRk,Y1b];exact Z5i,by rw[Va3,hRk,Y1b,<-Ym];exact Y2,by rw[Va3,hEk];exact hdst,⟨g,by rw[Va3,Zex];exact hg,λhgt=>?_,λhgf=>?_⟩⟩
    .rw[Va3,Zex,hEk,hRk];exact ht hgt
    .rw[Va3,hEk,hRk];exact hf hgf
   | succ j=>
    have:=h3 j o' (by simpa using ho);rw[show k+(j+1)=k+1+j by omega];exact this
  cases g with
  | true=>
   simp only[if_true] at he;split at he
   .rename_i Y2
    obtain⟨⟨v,y⟩,hy,he⟩:=ZZb.1 he;refine more ⟨o.dst,v,λid=>Wf s.ep k id||(Zmu M s.opV o&&(touch s o).contains id),y.heap⟩ ⟨Zuk recs o,touch s o,Zmu M s.opV o⟩ ?_ rfl Y2 rfl (λ_=>⟨y,hy,λid=>by rw[<-Ym],rfl,rfl⟩) (λhf=>by cases hf);exact he
   .cases he
  | false=>
   simp only[ZZf,if_false] at he;split at he
   .rename_i Y2
    refine more ⟨o.dst,.tup [],λ_=>false,λ_=>none⟩ ⟨Zuk recs o,[],false⟩ ?_ rfl Y2 rfl (λhf=>by cases hf) (λ_=>⟨rfl,λ_=>rfl,rfl,rfl⟩);have:Eff.app ⟨o.dst,.tup [],λ_=>false,λ_=>none⟩ s=s.put o.dst (.tup []):=by
     unfold Eff.app;simp
    rw[this];exact he
   .cases he
variable {s0:St} {Es:Nat->Eff} {Rs:Nat->Rec} {n:Nat}
structure Z3r (e:Nat) (Es:Nat->Eff) (Rs:Nat->Rec) (ops:Array Oper) (j k:Nat) (oj ok:Oper):Prop where
 tmp:oj.apart ops ok=true
 f1:∀id∈(Rs k).T,Wf e j id=false
 f2:∀id∈(Rs j).T,Wf e k id=false
 ww:((Rs j).w||(Rs k).w)=true->∀id∈(Rs k).T,id ∉ (Rs j).T
theorem Z3s (hF:∀(i:Nat) (o:Oper),ops[i]?=some o->Zru P M C ops s0 Es Rs i o) {j k:Nat} {oj ok:Oper} (hj:ops[j]?=some oj) (hk:ops[k]?=some ok) (Z5:j < k) (hn:j ∉ (Rs k).pre):Z3r s0.ep Es Rs ops j k oj ok:=by
 have h:=(hF k ok hk).ok;unfold Zob at h;simp only[ZZg] at h;have h2:=ZZk.1 h.2 (Rs j,j) (by
  rw[List.mem_zipIdx_iff_getElem?];simp[Vdq Z5])
 simp only[Vb2,ZZg,Vef,hn,false_or,hj] at h2;obtain⟨⟨⟨a,b⟩,c⟩,d⟩:=h2;refine⟨a,λid Zw=>?_,λid Zw=>?_,λhw id Zw hid2=>?_⟩
 .have:=ZZk.1 b id Zw;simpa using this
 .have:=ZZk.1 c id Zw;simpa using this
 .rcases d with d|d
  .rw[hw] at d;simp at d
  .have:=ZZk.1 d id Zw
   simp at this;exact this hid2
theorem Yge {i:Nat} {o:Oper} (hF:Zru P M C ops s0 Es Rs i o) {id:Id} (hW:(Es i).W id=true):Wf s0.ep i id=true\/((Rs i).w=true/\id∈(Rs i).T):=by
 obtain⟨g,_,ht,hf⟩:=hF.run;cases g with
 | true=>
  obtain⟨y,_,h2,_⟩:=ht rfl;rw[h2 id] at hW;simpa using hW
 | false=>
  rw[(hf rfl).2.1 id] at hW;cases hW
theorem Z3r.apart {j k:Nat} {oj ok:Oper} (h:Z3r s0.ep Es Rs ops j k oj ok) (hj:Zru P M C ops s0 Es Rs j oj) (hk:Zru P M C ops s0 Es Rs k ok) (Yf:j≠k):Ytt (Es j) (Es k):=by
 obtain⟨t1,t2,t3⟩:=Oper.apart_spec h.tmp;refine⟨λt ht=>by rw[hk.dst];rw[hj.dst] at ht;exact t2 t ht,λid Zw=>?_⟩;cases hW:(Es k).W id with
 | false=>rfl
 | true=>
  exfalso;rcases Yge hj Zw with h1|⟨h1,h1'⟩
  .rcases Yge hk hW with h2|⟨h2,h2'⟩
   .simp only[Wf,ZZg,beq_iff_eq] at h1 h2
    omega
   .rw[h.f1 id h2'] at h1;cases h1
  .rcases Yge hk hW with h2|⟨h2,h2'⟩
   .rw[h.f2 id h1'] at h2;cases h2
   .exact h.ww (by rw[h1];rfl) id h2' h1'
def Z4o (ops:Array Oper) (o:Oper):Nat->Prop:=λt=>t∈o.looksAt ops
def Yhg (Rs:Nat->Rec) (i:Nat):Id->Prop:=λid=>id∈(Rs i).T
theorem Z3r.off1 {j k:Nat} {oj ok:Oper} (h:Z3r s0.ep Es Rs ops j k oj ok) (hj:Zru P M C ops s0 Es Rs j oj):Off (Es j) (Z4o ops ok) (Yhg Rs k):=by
 obtain⟨t1,t2,t3⟩:=Oper.apart_spec h.tmp;refine⟨λt ht hd=>by rw[hj.dst] at hd;exact t1 t hd ht,λid Zw=>?_⟩;cases hW:(Es j).W id with
 | false=>rfl
 | true=>
  exfalso;rcases Yge hj hW with h1|⟨h1,h1'⟩
  .rw[h.f1 id Zw] at h1;cases h1
  .exact h.ww (by rw[h1];rfl) id Zw h1'
theorem Z3r.off2 {j k:Nat} {oj ok:Oper} (h:Z3r s0.ep Es Rs ops j k oj ok) (hk:Zru P M C ops s0 Es Rs k ok):Off (Es k) (Z4o ops oj) (Yhg Rs j):=by
 obtain⟨t1,t2,t3⟩:=Oper.apart_spec h.tmp;refine⟨λt ht hd=>by rw[hk.dst] at hd;exact t3 t hd ht,λid Zw=>?_⟩;cases hW:(Es k).W id with
 | false=>rfl
 | true=>
  exfalso;rcases Yge hk hW with h1|⟨h1,h1'⟩
  .rw[h.f2 id Zw] at h1;cases h1
  .exact h.ww (by rw[h1];simp) id h1' Zw
end
section
variable {P:Program} {M:Yp} {C:Nat->Qo} {ops:Array Oper} {s0:St} {Es:Nat->Eff} {Rs:Nat->Rec} {n:Nat}
theorem Ygf (hF:∀(i:Nat) (o:Oper),ops[i]?=some o->Zru P M C ops s0 Es Rs i o) {m:Nat} {o:Oper} (ho:ops[m]?=some o):∀e∈o.after,Region.binds .any e=true->e.on < m:=λe he hb=>by
 have h:=(hF m o ho).ok;unfold Zob at h;simp only[ZZg] at h;have:=ZZk.1 h.1.1 e (by simpa using he);rw[hb] at this;simpa using this
theorem Yvg (hF:∀(i:Nat) (o:Oper),ops[i]?=some o->Zru P M C ops s0 Es Rs i o) {L:Nat->Bool} (hL:∀(m:Nat) (o:Oper),L m=true->ops[m]?=some o->∀e∈o.after,Region.binds .any e=true->L e.on=true):
  ∀(m:Nat) (o:Oper),ops[m]?=some o->(∀e∈o.after,Region.binds .any e=true->L e.on=true)->∀j∈(Rs m).pre,L j=true:=by
 intro m
 induction m using Nat.strongRecOn with
 | _ m ih=>
  intro o ho hp j hj;rw[(hF m o ho).pre] at hj;unfold Zuk at hj;rw[List.mem_eraseDups] at hj;obtain⟨e,he,hj⟩:=Vcy.1 hj;rw[Vb3] at he;have hem:e∈o.after:=by simpa using he.1
  have Z5:=Ygf hF ho e hem he.2;have hLe:=hp e hem he.2;rcases Vav.1 hj with rfl|hj
  .exact hLe
  .have hm:m < ops.size:=(Vam.1 ho).1
   have h1:((List.range m).map Rs)[e.on]?=some (Rs e.on):=by simp[Vdq Z5]
   rw[h1] at hj;simp only[Var,Va0] at hj;have Q2:ops[e.on]?=some (ops[e.on]'(by omega)):=Vaf (by omega);exact ih e.on Z5 _ Q2 (hL e.on _ hLe Q2) j hj
theorem Yy3 (hF:∀(i:Nat) (o:Oper),ops[i]?=some o->Zru P M C ops s0 Es Rs i o) {L:Nat->Bool} {i:Nat} (hLi:L i=false) (h0:∀id:Id,id.1=s0.ep->s0.heap id=none)
  (hu:∀j,i < j->j < ops.size->L j=true->i ∉ (Rs j).pre) {oi:Oper} (hi:ops[i]?=some oi) {id:Id} (hf:Wf s0.ep i id=true):∀k,k<=ops.size->(sub Es L s0 k).heap id=none:=by
 have hf':id.1=s0.ep/\id.2 / 1024=i:=by simpa [Wf] using hf
 intro k
 induction k with
 | zero=>intro _;exact h0 id hf'.1
 | succ k ih=>
  intro hk;rw[Zai];cases hL:L k with
  | false=>simp only[ZZf,if_false];exact ih (by omega)
  | true=>
   simp only[if_true,Eff.app_heap];have hko:ops[k]?=some (ops[k]'(by omega)):=Vaf (by omega);have hki:k≠i:=λe=>by subst e;rw[hLi] at hL;cases hL
   have hW:(Es k).W id=false:=by
    cases hW:(Es k).W id with
    | false=>rfl
    | true=>
     exfalso;rcases Yge (hF k _ hko) hW with h1|⟨h1,h2⟩
     .have:id.1=s0.ep/\id.2 / 1024=k:=by simpa [Wf] using h1
      omega
     .rcases Vb5 i k with Z5|hge
      .have:=(Z3s hF hi hko Z5 (hu k Z5 (by omega) hL)).f1 id h2
       rw[hf] at this;cases this
      .have h:=(hF k _ hko).ok
       unfold Zob at h;simp only[ZZg] at h;have:=ZZk.1 h.1.2 id h2;simp only[Vb0,Bool.and_eq_false_iff,beq_eq_false_iff_ne,decide_eq_false_iff_not] at this;rcases this with h3|h3
       .exact h3 hf'.1
       .omega
   rw[hW];simp only[ZZf,if_false];exact ih (by omega)
theorem Ymv {x y:St} {o:Oper} (h:∀t,Z4o ops o t->x.env t=y.env t):wanted x ops o=wanted y ops o:=by
 unfold wanted;cases hg:o.guard with
 | none=>rfl
 | some jb=>
  obtain⟨j,b⟩:=jb;simp only;cases ht:(ops[j]?).bind (·.dst) with
  | none=>rfl
  | some t=>
   have:x.env t=y.env t:=h t (by
    unfold Z4o Oper.looksAt;rw[hg];simp[ht])
   simp only[Var,this]
theorem Yyq {x y:St} {o:Oper} (h:∀t,Z4o ops o t->x.env t=y.env t):∀z∈o.op.operands.toList,x.opV z=y.opV z:=by
 intro z hz;cases z with
 | tmp t=>
  exact h t (by
   unfold Z4o Oper.looksAt;refine Vae _ (Vco.2 ⟨.tmp t,hz,rfl⟩))
 | _=>rfl
theorem Yzd (hF:∀(i:Nat) (o:Oper),ops[i]?=some o->Zru P M C ops s0 Es Rs i o) {L:Nat->Bool} {i:Nat} {o:Oper} (hi:ops[i]?=some o) (hLi:L i=false) (h0:∀id:Id,id.1=s0.ep->s0.heap id=none)
  (hL:∀(m:Nat) (o:Oper),L m=true->ops[m]?=some o->∀e∈o.after,Region.binds .any e=true->L e.on=true) (hr:∀e∈o.after,Region.binds .any e=true->L e.on=true):
  ∃g,wanted (sub Es L s0 ops.size) ops o=some g/\
   (g=true->∃x1,Zyp P M (C i) (sub Es L s0 ops.size) i o=some ((Es i).v,x1)/\x1.put o.dst (Es i).v=sub Es (λj=>L j||j == i) s0 ops.size)/\
   (g=false->(sub Es L s0 ops.size).put o.dst (.tup [])=sub Es (λj=>L j||j == i) s0 ops.size):=by
 have hin:i < ops.size:=(Vam.1 hi).1;have hFi:=hF i o hi;have Z5i:=Yvg hF hL;have Yv4:∀j,j < i->L j=false->j ∉ (Rs i).pre:=λj hj hLj hm=>by
  rw[Z5i i o hi hr j hm] at hLj;cases hLj
 have Yv5:∀j,i < j->j < ops.size->L j=true->i ∉ (Rs j).pre:=λj hj hjn hLj hm=>by
  have hjo:ops[j]?=some (ops[j]'hjn):=Vaf hjn;have:=Z5i j _ hjo (hL j _ hLj hjo) i hm;rw[hLi] at this;cases this
 have hag:=Yx5 (Es:=Es) (s:=s0) (A:=Z4o ops o) (T:=Yhg Rs i) (i:=i) (n:=ops.size) hLi
  (λj hj hLj=>by
   have hjo:ops[j]?=some (ops[j]'(by omega)):=Vaf (by omega);exact (Z3s hF hjo hi hj (Yv4 j hj hLj)).off1 (hF j _ hjo))
  (λj hj hjn hLj=>by
   have hjo:ops[j]?=some (ops[j]'hjn):=Vaf hjn;exact (Z3s hF hi hjo hj (Yv5 j hj hjn hLj)).off2 (hF j _ hjo))
  ops.size (Vaw _)
 rw[Nat.min_eq_right (by omega)] at hag;have Zsy:=Y2e (Es:=Es) (s:=s0) hin hLi (λj hj hjn hLj=>by
   have hjo:ops[j]?=some (ops[j]'hjn):=Vaf hjn;exact (Z3s hF hi hjo hj (Yv5 j hj hjn hLj)).apart hFi (hF j _ hjo) (by omega))
 obtain⟨g,hg,ht,hf⟩:=hFi.run;refine⟨g,by rw[Ymv (λt h=>hag.1 t h)];exact hg,λhgt=>?_,λhgf=>?_⟩
 .obtain⟨y,hy,hW,hhp,hw⟩:=ht hgt
  have Ym:(sub Es L s0 ops.size).ep=s0.ep:=Yeg _ _ _ _;have Y0z:(sub Es (λ_=>true) s0 i).ep=s0.ep:=Yeg _ _ _ _;have hext:Ext (λid=>(Rs i).T.contains id=false/\Wf s0.ep i id=false) ((sub Es (λ_=>true) s0 i).only (Rs i).T) (sub Es L s0 ops.size):=by
   refine⟨by rw[Ym];exact Y0z.symm,λid Zw=>?_,λid Zw=>?_⟩
   .simp only[St.only]
    cases hc:(Rs i).T.contains id with
    | true=>simp only[if_true];exact hag.2 id (show id∈(Rs i).T by simpa using hc)
    | false=>
     simp only[ZZf,if_false];have hfr:Wf s0.ep i id=true:=by
      cases hfr:Wf s0.ep i id with
      | true=>rfl
      | false=>exact absurd ⟨hc,hfr⟩ Zw
     exact Yy3 hF hLi h0 Yv5 hi hfr ops.size (Vaw _)
   .simp only[St.only,Zw.1,ZZf,if_false]
  obtain⟨x1,h1,h2,h3,h4,h5⟩:=hext.op (P:=P) (M:=M) (C:=C i) (k:=i) (λid Zw hh=>by
   have:Wf s0.ep i id=true:=by simp only[Wf,ZZg,beq_iff_eq];exact⟨by rw[hh.1];exact Y0z,hh.2⟩
   rw[Zw.2] at this;cases this) hy
  refine⟨x1,?_,?_⟩
  .unfold Zyp
   rw[Yqo (Yyq (ops:=ops) (λt h=>hag.1 t h))];exact h1
  .rw[<-Zsy]
   refine St.ext' (λt=>?_) (λid=>?_) ?_
   .have e1:∀(z:St),(z.put o.dst (Es i).v).env t=if o.dst=some t then (Es i).v else z.env t:=λz=>by
     have:=Eff.app_env ⟨o.dst,(Es i).v,λ_=>false,λ_=>none⟩ z t;simpa [Eff.app] using this
    rw[e1,Eff.app_env,hFi.dst,h4]
   .rw[Ztm,Eff.app_heap]
    simp only[hW id];have hyr:(Rs i).w=false->Wf s0.ep i id=false->y.heap id=((sub Es (λ_=>true) s0 i).only (Rs i).T).heap id:=λhwf hff=>by
     refine Yxx hy (by rw[<-hw];exact hwf) ?_;have:((sub Es (λ_=>true) s0 i).only (Rs i).T).ep=s0.ep:=Y0z;rw[this];exact hff
    cases hff:Wf s0.ep i id with
    | true=>
     simp only[Bool.true_or,if_true];rw[hhp,h2.out id (λhd=>by rw[hd.2] at hff;cases hff)]
    | false=>
     cases hc:(Rs i).T.contains id with
     | false=>
      simp only[Vc8,Bool.or_self,ZZf,if_false];exact h3 id ⟨hc,hff⟩
     | true=>
      have hnd:¬((Rs i).T.contains id=false/\Wf s0.ep i id=false):=λhd=>by rw[hd.1] at hc;cases hc
      rw[h2.out id hnd];cases hwi:(Rs i).w with
      | true=>simp[hhp]
      | false=>
       simp only[Vbs,Bool.or_self,ZZf,if_false];rw[hyr hwi hff,<-hext.out id hnd]
   .rw[Zho,Eff.app_ep,h5]
 .obtain⟨hv,hWf,_,_⟩:=hf hgf
  rw[<-Zsy];refine St.ext' (λt=>?_) (λid=>?_) ?_
  .have e1:∀(z:St),(z.put o.dst (.tup [])).env t=if o.dst=some t then (.tup []) else z.env t:=λz=>by
    have:=Eff.app_env ⟨o.dst,.tup [],λ_=>false,λ_=>none⟩ z t;simpa [Eff.app] using this
   rw[e1,Eff.app_env,hFi.dst,hv]
  .rw[Ztm,Eff.app_heap]
   simp[hWf id]
  .rw[Zho,Eff.app_ep]
theorem Yat {listed:Array Bool} {i n:Nat} (hi:i < n) (hl:listed.getD i true=false):
  ((List.range n).filter λj=>!(listed.setIfInBounds i true).getD j true).length < ((List.range n).filter λj=>!listed.getD j true).length:=by
 have Ws:i < listed.size:=by
  rcases Vb5 i listed.size with h|h
  .exact h
  .simp[Vd8 h] at hl
 have Z17:∀j,(listed.setIfInBounds i true).getD j true=(listed.getD j true||j == i):=λj=>by
  by_cases h:i=j
  .subst h;simp[Ws]
  .have hji:(j == i)=false:=by simpa using (λe=>h e.symm)
   rw[getD_set_ne true h,hji,Vdv]
 have Zex:((List.range n).filter λj=>!(listed.setIfInBounds i true).getD j true)=((List.range n).filter λj=>!listed.getD j true).filter λj=>!(j == i):=by
  rw[List.filter_filter]
  congr 1
  funext j
  rw[Z17];cases listed.getD j true<;>cases (j == i)<;>rfl
 rw[Zex];have hle:=Vbu (λj=>!(j == i)) ((List.range n).filter λj=>!listed.getD j true);rcases Vb5 (((List.range n).filter λj=>!listed.getD j true).filter λj=>!(j == i)).length ((List.range n).filter λj=>!listed.getD j true).length with h|h
 .exact h
 .have he:=(List.filter_sublist (p:=λj=>!(j == i)) (l:=(List.range n).filter λj=>!listed.getD j true)).eq_of_length (by omega)
  have hm:i∈(List.range n).filter λj=>!listed.getD j true:=Vb3.2 ⟨Vc7.2 hi,by rw[hl];rfl⟩;rw[<-he,Vb3] at hm;simp at hm
variable {B:Nat} {io:Nat->Prop} {fl:List Nat}
theorem Ytr {Q:Exit->Act->World->Prop} (hC:∀k,Zfg P M (C k)) (hF:∀(i:Nat) (o:Oper),ops[i]?=some o->Zru P M C ops s0 Es Rs i o) (h0:∀id:Id,id.1=s0.ep->s0.heap id=none):
  ∀(fuel:Nat) (listed:Array Bool) {a:Act} {w:World} {ρ:Rho} {F:Id->List Nat},listed.size=ops.size->((List.range ops.size).filter λj=>!listed.getD j true).length<=fuel->
   (∀(m:Nat) (o:Oper),listed.getD m false=true->ops[m]?=some o->∀e∈o.after,Region.binds .any e=true->listed.getD e.on false=true)->
   Rel P B io w a.tmps (sub Es (λj=>listed.getD j false) s0 ops.size) ρ F fl->(∀id:Id,id.1=s0.ep->(ρ id).isSome=true->listed.getD (id.2 / 1024) false=true)->Zme a.tmps.size ops.toList=true->
   (∀a' w',Zlq P B io fl w a ρ (sub Es (λ_=>true) s0 ops.size) a' w'->Q .normal a' w')->wpAny P .any ops Q fuel listed a w:=by
 have same:∀(listed:Array Bool) (j:Nat),listed.size=ops.size->j < ops.size->listed.getD j false=listed.getD j true:=λlisted j hs hj=>by
  simp[show j < listed.size by omega]
 have done:∀(listed:Array Bool) {a:Act} {w:World} {ρ:Rho} {F:Id->List Nat},listed.size=ops.size->(∀(m:Nat) (o:Oper),listed.getD m false=true->ops[m]?=some o->∀e∈o.after,Region.binds .any e=true->listed.getD e.on false=true)->Region.ready .any ops listed=[]->
   Rel P B io w a.tmps (sub Es (λj=>listed.getD j false) s0 ops.size) ρ F fl->(∀a' w',Zlq P B io fl w a ρ (sub Es (λ_=>true) s0 ops.size) a' w'->Q .normal a' w')->Q .normal a w:=by
  intro listed a w ρ F hs X8 hr h hQ;have Qy:∀j,j < ops.size->listed.getD j false=true:=by
   intro j
   induction j using Nat.strongRecOn with
   | _ j ih=>
    intro hj;have hjo:ops[j]?=some (ops[j]'hj):=Vaf hj;cases hl:listed.getD j false with
    | true=>rfl
    | false=>
     exfalso;have:j∈Region.ready .any ops listed:=mem_ready.2 ⟨by rw[<-same listed j hs hj];exact hl,_,hjo,λe he hb=>ih e.on (Ygf hF hjo e he hb) (by have:=Ygf hF hjo e he hb;omega)⟩;rw[hr] at this;cases this
  have:sub Es (λj=>listed.getD j false) s0 ops.size=sub Es (λ_=>true) s0 ops.size:=Yh4 λj hj=>Qy j hj;rw[this] at h;exact hQ _ _ (.refl h)
 intro fuel
 induction fuel with
 | zero=>
  intro listed a w ρ F hs hf X8 h hρ hd hQ;have hr:Region.ready .any ops listed=[]:=by
   have Zsz:=Vas (Nat.le_zero.1 hf);unfold Region.ready;rw[Veb];intro i hi hh;simp only[ZZg] at hh;have hm:i∈(List.range ops.size).filter λj=>!listed.getD j true:=Vb3.2 ⟨hi,hh.1⟩;rw[Zsz] at hm;cases hm
  exact⟨hr,done listed hs X8 hr h hQ⟩
 | succ fuel ih=>
  intro listed a w ρ F hs hf X8 h hρ hd hQ;refine⟨λhr=>done listed hs X8 hr h hQ,λi hi=>?_⟩;obtain⟨Jc,o,ho,Z8s⟩:=mem_ready.1 hi;have hin:i < ops.size:=(Vam.1 ho).1;have hLi:listed.getD i false=false:=by rw[same listed i hs hin];exact Jc
  obtain⟨g,hg,ht,hff⟩:=Yzd hF (L:=λj=>listed.getD j false) ho hLi h0 X8 Z8s;have Z17:∀j,(listed.setIfInBounds i true).getD j false=(listed.getD j false||j == i):=λj=>by
   by_cases e:i=j
   .subst e;simp[show i < listed.size by omega]
   .have hji:(j == i)=false:=by simpa using (λh=>e h.symm)
    rw[getD_set_ne false e,hji,Vdv]
  have Y3:∀id:Id,id.1=(sub Es (λj=>listed.getD j false) s0 ops.size).ep->id.2 / 1024=i->ρ id=none:=λid h1 h2=>by
   cases hr:ρ id with
   | none=>rfl
   | some x=>
    have:=hρ id (by rw[h1,Yeg]) (by rw[hr];rfl);rw[h2,hLi] at this;cases this
  have hd':∀d,o.dst=some d->d < a.tmps.size:=Znz hd (by simpa using ho);have next:∀{s2:St} {a':Act} {w':World} {ρ':Rho} {F':Id->List Nat},Rel P B io w' a'.tmps s2 ρ' F' fl->s2=sub Es (λj=>listed.getD j false||j == i) s0 ops.size->Wm B io w w'->(∀id i,ρ id=some i->ρ' id=some i)->
    (∀id,(ρ' id).isSome=true->(ρ id).isSome=true\/(id.1=(sub Es (λj=>listed.getD j false) s0 ops.size).ep/\id.2 / 1024=i))->a'.tmps.size=a.tmps.size->a'.defers=a.defers->wpAny P .any ops Q fuel (listed.setIfInBounds i true) a' w':=by
   intro s2 a' w' ρ' F' hR hs2 hLf hρ' Zm6 hts hdf;subst hs2;refine ih (listed.setIfInBounds i true) (by simpa using hs) (by have:=Yat hin Jc;omega) (λm o' hm hmo e he hb=>?_) (by
    have:(λj=>(listed.setIfInBounds i true).getD j false)=λj=>listed.getD j false||j == i:=funext Z17;rw[this];exact hR) (λid h1 h2=>?_) (by rw[hts];exact hd) (λa2 w2 hA=>hQ _ _ (.trans hLf hρ' hts hdf hA))
   .rw[Z17] at hm ⊢
    simp only[Vb2,beq_iff_eq] at hm ⊢;rcases hm with hm|rfl
    .exact .inl (X8 m o' hm hmo e he hb)
    .rw[ho] at hmo;injection hmo with hmo;subst hmo
     exact .inl (Z8s e he hb)
   .rw[Z17]
    simp only[Vb2,beq_iff_eq];rcases Zm6 id h2 with h3|h3
    .exact .inl (hρ id h1 h3)
    .exact .inr h3.2
  cases g with
  | true=>
   obtain⟨x1,hx1,hx2⟩:=ht rfl;refine Z73 (M:=M) (C:=C i) (v:=(Es i).v) (s1:=x1) h ho hd' hg (λ_=>Y3) (λ_=>hx1) (λ_=>hC i _ _ _ _ _ _ F _ _ _ _ h Y3) (λa' w' ρ' F' hR Ym hLf hρ' Zm6 hts hdf=>?_);simp only[if_true] at hR;exact next hR hx2 hLf hρ' Zm6 hts hdf
  | false=>
   refine Z73 (M:=M) (C:=C i) (v:=.undef) (s1:=s0) h ho hd' hg (λhf=>by cases hf) (λhf=>by cases hf) (λhf=>by cases hf) (λa' w' ρ' F' hR Ym hLf hρ' Zm6 hts hdf=>?_);simp only[ZZf,if_false] at hR;exact next hR (hff rfl) hLf hρ' Zm6 hts hdf
theorem Ywr {Q:Exit->Act->World->Prop} (hC:∀k,Zfg P M (C k)) {s':St} {a:Act} {w:World} {ρ:Rho} {F:Id->List Nat} (h:Rel P B io w a.tmps s0 ρ F fl) (he:Zc1 P M C ops s0 [] 0 ops.toList=some s')
  (Y3:∀id:Id,id.1=s0.ep->ρ id=none) (hd:Zme a.tmps.size ops.toList=true) (hQ:∀a' w',Zlq P B io fl w a ρ s' a' w'->Q .normal a' w'):
  wpAny P .any ops Q ops.size (Array.replicate ops.size false) a w:=by
 obtain⟨Es,Rs,_,h2,h3⟩:=Ykw (s0:=s0) ops.toList (k:=0) (Es0:=λ_=>⟨none,.undef,λ_=>false,λ_=>none⟩) (Rs0:=λ_=>⟨[],[],false⟩) rfl rfl he;rw[Vbk,Array.length_toList] at h2;subst h2;have hF:∀(i:Nat) (o:Oper),ops[i]?=some o->Zru P M C ops s0 Es Rs i o:=λi o ho=>by
  have:=h3 i o (by simpa using ho)
  rwa [Vbk] at this
 have Yo1:∀j,(Array.replicate ops.size false).getD j false=false:=λj=>by
  by_cases h:j < ops.size<;>simp[h]
 have hh0:∀id:Id,id.1=s0.ep->s0.heap id=none:=λid h1=>by
  cases hb:s0.heap id with
  | none=>rfl
  | some b=>
   exfalso;have hB:=h.heap id b hb;rw[Y3 id h1] at hB;unfold Xg at hB;split at hB
   .obtain⟨_,_,_,_,_,hi,_⟩:=hB;cases hi
   .rcases hB with⟨hi,_⟩|⟨_,_,_,_,hi,_⟩<;>cases hi
   .obtain⟨_,hB⟩:=hB
    rcases hB with⟨hi,_⟩|⟨_,_,_,_,hi,_⟩<;>cases hi
 refine Ytr (F:=F) hC hF hh0 ops.size _ (by simp) (by
  have:=Vbu (λj=>!(Array.replicate ops.size false).getD j true) (List.range ops.size);simpa using this) (λm o hm=>by rw[Yo1] at hm;cases hm) ?_ (λid h1 h2=>by rw[Y3 id h1] at h2;cases h2) hd hQ
 have:sub Es (λj=>(Array.replicate ops.size false).getD j false) s0 ops.size=s0:=by
  have key:∀k,sub Es (λj=>(Array.replicate ops.size false).getD j false) s0 k=s0:=by
   intro k
   induction k with
   | zero=>rfl
   | succ k ih=>rw[Zai,Yo1,ZZi (by simp)];exact ih
  exact key _
 rw[this];exact h
end
def Kb (n:Nat):Code->Bool
 | .region _ ops _=>Zme n ops.toList
 | .seq a b=>Kb n a&&Kb n b
 | .cond _ a b=>Kb n a&&Kb n b
 | .block _ c=>Kb n c
 | .loop c=>Kb n c
 | _=>true
def Ex.to:Ex->Exit
 | .normal=>.normal
 | .ret=>.ret
 | .exit n=>.exit n
open Classical in
section
variable {P:Program} {B:Nat} {io:Nat->Prop} {w w':World} {a a':Act} {s s':St} {ρ ρ':Rho} {F F':Id->List Nat} {fl:List Nat} {M:Yp} {C:Qo}
theorem Rel.tick (h:Rel P B io w a.tmps s ρ F fl):Rel P B io w a.tmps {s with ep:=s.ep+1} ρ F fl:=
 {h with dom:=λid Zw=>by have:=h.dom id Zw;simp only;omega}
theorem Rel.drawn (h:Rel P B io w a.tmps s ρ F fl) (n:Nat):Rel P B io {w with drawn:=n} a.tmps s ρ F fl:=by
 have hg:K4 P B io {w with drawn:=n} a.tmps s ρ F fl (okS s ρ w):=
  {h with
   env:=λt v hv=>(h.env t v hv).world λ_ _=>rfl
   heap:=λid b hb=>(h.heap id b hb).world (λ_ _=>rfl) (λ_ _=>rfl)
   base0:=h.base0.step (Vaw _) (λ_ _ _=>rfl)}
 exact hg.toRel λg hg=>hg
end
structure W5 (D:Id->Prop) (s t:St):Prop where
 ext:Ext D s t
 env:t.env=s.env
 ph:∀id b,D id->t.heap id=some b->b.rows=[]
def Zlz (D:Id->Prop) (t s' t':St):Prop:=W5 D s' t'/\∀id,D id->t'.heap id=t.heap id
section
variable {D:Id->Prop} {s t s':St} {P:Program} {M:Yp} {C:Qo} {k:Nat} {o:Oper} {v:V} {ops:Array Oper}
theorem W5.three (h:W5 D s t):Zlz D t s t:=⟨h,λ_ _=>rfl⟩
theorem Zlz.trans {t1 s1 s2 t2:St} (h:Zlz D t s1 t1) (k:Zlz D t1 s2 t2):Zlz D t s2 t2:=⟨k.1,λid hd=>(k.2 id hd).trans (h.2 id hd)⟩
theorem W5.of2 {s1 t1:St} (h:W5 D s t) (e:Kx D t s1 t1) (Jo:s1.env=s.env):Zlz D t s1 t1:=
 ⟨⟨e.1,by rw[e.2.2.1,h.env,Jo],λid b hd hb=>h.ph id b hd (by rw[<-e.2.1 id hd];exact hb)⟩,e.2.1⟩
theorem W5.put (h:W5 D s t) (d:Option Tmp) (v:V):Zlz D t (s.put d v) (t.put d v):=by
 cases d with
 | none=>exact h.three
 | some d=>exact⟨⟨⟨h.ext.ep,h.ext.out,h.ext.abs⟩,by simp only[St.put,h.env],h.ph⟩,λ_ _=>rfl⟩
theorem W5.opV (h:W5 D s t):t.opV=s.opV:=by
 funext x;cases x<;>simp only[St.opV,h.env]
theorem W5.wanted (h:W5 D s t):Ev.wanted t ops o=Ev.wanted s ops o:=by
 unfold Ev.wanted;rw[h.env]
theorem Yie {f:Operand->V} (he:Xb P M C f s k o=some (v,s')):s'.env=s.env/\s'.ep=s.ep:=by
 have h:Ext (λ_=>False) s ⟨s.env,s.heap,s.ep⟩:=⟨rfl,λ_ _=>rfl,λ_ h=>h.elim⟩;obtain⟨t',h1,h2⟩:=h.op (λ_ h=>h.elim) he;have h3:(some (v,t'):Option (V×St))=some (v,s'):=by rw[<-h1,<-he]
 simp only[ZZd,ZZe,true_and] at h3;subst h3;exact⟨h2.2.2.1,h2.2.2.2⟩
theorem W5.op (h:W5 D s t) (hd:∀id:Id,D id->¬(id.1=s.ep/\id.2 / 1024=k)) (he:Zyp P M C s k o=some (v,s')):∃t',Zyp P M C t k o=some (v,t')/\Zlz D t s' t':=by
 unfold Zyp at he ⊢;rw[h.opV];obtain⟨t',h1,h2⟩:=h.ext.op hd he;exact⟨t',h1,h.of2 h2 (Yie he).1⟩
theorem W5.evops {C:Nat->Qo} (hD:∀id:Id,D id->id.1=0):∀(l:List Oper) {k:Nat} {s t s':St},W5 D s t->s.ep≠0->Zg6 P M C ops s k l=some s'->∃t',Zg6 P M C ops t k l=some t'/\Zlz D t s' t'/\s'.ep=s.ep:=by
 intro l
 induction l with
 | nil=>
  intro k s t s' h _ he;simp only[Zg6,ZZd] at he;subst he;exact⟨t,rfl,h.three,rfl⟩
 | cons o l ih=>
  intro k s t s' h Ym he;simp only[Zg6] at he ⊢;obtain⟨g,hg,he⟩:=ZZb.1 he;rw[h.wanted,hg,ZZa];cases g with
  | true=>
   simp only[if_true] at he ⊢;obtain⟨⟨v,s1⟩,h1,he⟩:=ZZb.1 he;obtain⟨t1,g1,e1⟩:=h.op (λid hd hh=>Ym (by rw[<-hh.1];exact hD id hd)) h1;have hp:=e1.1.put o.dst v;have hs1:s1.ep=s.ep:=(Yie h1).2;obtain⟨t2,g2,e2,e3⟩:=ih hp.1 (by rw[Zho,hs1];exact Ym) he;exact⟨t2,by rw[g1];exact g2,(e1.trans hp).trans e2,by rw[e3,Zho,hs1]⟩
  | false=>
   simp only[ZZf,if_false] at he ⊢;have hp:=h.put o.dst (.tup []);obtain⟨t2,g2,e2,e3⟩:=ih hp.1 (by rw[Zho];exact Ym) he;exact⟨t2,g2,hp.trans e2,by rw[e3,Zho]⟩
theorem W5.deep (h:W5 D s t) (id:Id):t.deep id=s.deep id:=by
 unfold St.deep;by_cases hd:D id
 .rw[h.ext.abs id hd]
  cases hb:t.heap id with
  | none=>rfl
  | some b=>simp only[h.ph id b hd hb];simp
 .rw[h.ext.out id hd]
theorem W5.storeT (h:W5 D s t) (d:List Id) (x:V):t.storeT d x=s.storeT d x:=by
 cases x with
 | ptr i j n=>
  simp only[St.storeT];by_cases hd:D i
  .rw[h.ext.abs i hd]
   cases hb:t.heap i with
   | none=>rfl
   | some b=>
    have:=h.ph i b hd hb;simp only[this];cases b.box<;>rfl
  .rw[h.ext.out i hd]
 | _=>rfl
theorem W5.touch (h:W5 D s t):Ev.touch t o=Ev.touch s o:=by
 have hdp:t.deep=s.deep:=funext h.deep;have hst:t.storeT=s.storeT:=funext λd=>funext λx=>h.storeT d x;unfold Ev.touch;rw[h.opV,hdp,hst]
theorem W5.only (h:W5 D s t) (T:List Id):Ext D (s.only T) (t.only T):=by
 refine⟨h.ext.ep,λid hd=>?_,λid hd=>?_⟩
 .simp only[St.only];split
  .exact h.ext.out id hd
  .rfl
 .simp only[St.only];split
  .exact h.ext.abs id hd
  .rfl
theorem W5.merge {y z:St} {T:List Id} {w:Bool} (h:W5 D s t) (hD:∀id:Id,D id->Wf s.ep k id=false) (hy:Ext D y z) (hz:∀id,D id->z.heap id=(t.only T).heap id):Zlz D t (s.merge k T w y) (t.merge k T w z):=by
 have key:∀id,D id->(t.merge k T w z).heap id=t.heap id:=λid hd=>by
  simp only[St.merge,h.ext.ep,hD id hd,Vdw];split
  .rename_i hc
   rw[hz id hd];simp only[ZZg] at hc;have hm:id∈T:=by simpa using hc.2
   simp[St.only,hm]
  .rfl
 refine⟨⟨⟨h.ext.ep,λid hd=>?_,λid hd=>?_⟩,h.env,λid b hd hb=>h.ph id b hd (by rw[<-key id hd];exact hb)⟩,key⟩
 .simp only[St.merge,h.ext.ep];split
  .exact hy.out id hd
  .exact h.ext.out id hd
 .simp only[St.merge];split
  .exact hy.abs id hd
  .exact h.ext.abs id hd
theorem W5.draw {C:Nat->Qo} (hD:∀id:Id,D id->id.1=0):∀(l:List Oper) {k:Nat} {s t s':St} {recs:List Rec},W5 D s t->s.ep≠0->Zc1 P M C ops s recs k l=some s'->∃t',Zc1 P M C ops t recs k l=some t'/\Zlz D t s' t':=by
 intro l
 induction l with
 | nil=>
  intro k s t s' recs h _ he;simp only[Zc1,ZZd] at he;subst he;exact⟨t,rfl,h.three⟩
 | cons o l ih=>
  intro k s t s' recs h Ym he;have hno:∀id:Id,D id->¬(id.1=s.ep/\id.2 / 1024=k):=λid hd hh=>Ym (by rw[<-hh.1];exact hD id hd);have hnf:∀id:Id,D id->Wf s.ep k id=false:=λid hd=>by
   cases hf:Wf s.ep k id with
   | false=>rfl
   | true=>exact absurd (by simpa [Wf] using hf) (hno id hd)
  simp only[Zc1] at he ⊢;obtain⟨g,hg,he⟩:=ZZb.1 he;rw[h.wanted,hg,ZZa,h.touch,h.opV,h.ext.ep];cases g with
  | true=>
   simp only[if_true] at he ⊢;split at he
   .rename_i Y2
    rw[ZZj Y2];obtain⟨⟨v,y⟩,h1,he⟩:=ZZb.1 he;obtain⟨z,g1,e1⟩:=(h.only (Ev.touch s o)).op (by exact hno) h1;have hm:=h.merge (T:=Ev.touch s o) (w:=Zmu M s.opV o) hnf e1.1 e1.2.1;have hp:=hm.1.put o.dst v;obtain⟨t2,g2,e2⟩:=ih hp.1 (by rw[Zho];exact Ym) he;exact⟨t2,by rw[g1];exact g2,(hm.trans hp).trans e2⟩
   .cases he
  | false=>
   simp only[ZZf,if_false] at he ⊢;split at he
   .rename_i Y2
    rw[ZZj Y2];have hp:=h.put o.dst (.tup []);obtain⟨t2,g2,e2⟩:=ih hp.1 (by rw[Zho];exact Ym) he;exact⟨t2,g2,hp.trans e2⟩
   .cases he
theorem W5.tick (h:W5 D s t):Zlz D t {s with ep:=s.ep+1} {t with ep:=t.ep+1}:=
 ⟨⟨⟨by simp only[h.ext.ep],h.ext.out,h.ext.abs⟩,h.env,h.ph⟩,λ_ _=>rfl⟩
theorem W5.res (h:W5 D s t):∀{l:List ResultVar} {vs:List V},Zqr P s l=some vs->Zqr P t l=some vs:=by
 intro l
 induction l with
 | nil=>intro vs hr;exact hr
 | cons r l ih=>
  intro vs hr;cases r with
  | tmp x=>
   simp only[Zqr,h.env] at hr ⊢;split at hr
   .cases hr
   .obtain⟨ys,h1,rfl⟩:=ZZc.1 hr
    rw[ih h1];rfl
  | cell a ty=>
   simp only[Zqr,h.env] at hr ⊢;split at hr
   .obtain⟨b,hb,hr⟩:=ZZb.1 hr
    obtain⟨row,Yx,hr⟩:=ZZb.1 hr;rw[h.ext.get hb,ZZa,Yx,ZZa];split at hr
    .rename_i hl
     rw[ZZj hl];obtain⟨x,hx,hr⟩:=ZZb.1 hr;obtain⟨ys,h1,rfl⟩:=ZZc.1 hr;rw[hx,ZZa,ih h1];rfl
    .cases hr
   .cases hr
theorem Ext.liftOne (h:Ext D s t) {ts:List (Option TypeId)} {x y:V} (hl:s.liftOne ts x=some (y,s')):∃t',t.liftOne ts x=some (y,t')/\Kx D t s' t':=by
 unfold St.liftOne at hl ⊢;split at hl
 .obtain⟨⟨ys,s1⟩,h1,he⟩:=ZZc.1 hl
  simp only[ZZe] at he;obtain⟨rfl,rfl⟩:=he;obtain⟨t',g,e⟩:=Ext.giveCells h h1;exact⟨t',by rw[g];rfl,e⟩
 .obtain⟨⟨ys,s1⟩,h1,he⟩:=ZZc.1 hl
  simp only[ZZe] at he;obtain⟨rfl,rfl⟩:=he;obtain⟨⟨t',g,e⟩,_⟩:=h.giveBox h1;exact⟨t',by rw[g];rfl,e⟩
 .exact h.giveCell hl
theorem Ext.liftAll:∀{xs:List V} {s t:St} {ts:List TypeId} {ys:List V} {s':St},Ext D s t->s.liftAll P ts xs=some (ys,s')->∃t',t.liftAll P ts xs=some (ys,t')/\Kx D t s' t':=by
 intro xs
 induction xs with
 | nil=>
  intro s t ts ys s' h hs;simp only[St.liftAll,ZZd,ZZe] at hs;obtain⟨rfl,rfl⟩:=hs;exact⟨t,rfl,h.two⟩
 | cons x xs ih=>
  intro s t ts ys s' h hs;simp only[St.liftAll] at hs ⊢;obtain⟨⟨y1,s1⟩,h1,hs⟩:=ZZb.1 hs;obtain⟨⟨y2,s2⟩,h2,hs⟩:=ZZc.1 hs;simp only[ZZe] at hs;obtain⟨rfl,rfl⟩:=hs;obtain⟨t1,g1,e1⟩:=h.liftOne h1;obtain⟨t2,g2,e2⟩:=ih e1.1 h2;exact⟨t2,by rw[g1];simp only[ZZa,g2];rfl,e1.trans e2⟩
theorem Ext.outCells {p:Nat}:∀{xs:List V} {s t:St} {k:Nat} {ys:List V} {s':St},Ext D s t->s.outCells p k xs=some (ys,s')->∃t',t.outCells p k xs=some (ys,t')/\Kx D t s' t':=by
 intro xs
 induction xs with
 | nil=>
  intro s t k ys s' h hs;simp only[St.outCells,ZZd,ZZe] at hs;obtain⟨rfl,rfl⟩:=hs;exact⟨t,rfl,h.two⟩
 | cons x xs ih=>
  intro s t k ys s' h hs;unfold St.outCells at hs ⊢;split at hs
  .rename_i heq;cases heq
  .rename_i heq
   injection heq with h1 h2;subst h1;subst h2;obtain⟨er,hw,hs⟩:=ZZb.1 hs;obtain⟨hw',hd⟩:=h.whole hw;rw[hw',ZZa];split at hs
   .rename_i he
    rw[ZZj he];obtain⟨⟨ys',s1⟩,h1,he⟩:=ZZc.1 hs;simp only[ZZe] at he;obtain⟨rfl,rfl⟩:=he;obtain⟨t',g,e⟩:=ih (h.kill hd).1 h1;exact⟨t',by rw[g];rfl,(h.kill hd).trans e⟩
   .cases hs
  .rename_i Yf heq
   injection heq with h1 h2;subst h1;subst h2;obtain⟨⟨ys',s1⟩,h1,he⟩:=ZZc.1 hs;simp only[ZZe] at he;obtain⟨rfl,rfl⟩:=he;obtain⟨t',g,e⟩:=ih h h1;exact⟨t',by rw[g];rfl,e⟩
theorem Ext.outOne (h:Ext D s t) {p:Nat} {ts:List (Option TypeId)} {m:Yh} {x y:V} (ho:s.out p ts m x=some (y,s')):∃t',t.out p ts m x=some (y,t')/\Kx D t s' t':=by
 unfold St.out at ho ⊢;split at ho
 .simp only[ZZd,ZZe] at ho;obtain⟨rfl,rfl⟩:=ho;exact⟨t,rfl,h.two⟩
 .simp only[ZZd,ZZe] at ho;obtain⟨rfl,rfl⟩:=ho;exact⟨t,rfl,h.two⟩
 .split at ho
  .obtain⟨⟨ys,s1⟩,h1,ho⟩:=ZZb.1 ho
   obtain⟨⟨t',g,e⟩,_⟩:=h.giveBox h1;simp only at ho;split at ho
   .rename_i hl
    simp only[ZZd,ZZe] at ho;obtain⟨rfl,rfl⟩:=ho;exact⟨t',by rw[g,ZZa];simp only[hl,if_true],e⟩
   .cases ho
  .cases ho
 .split at ho
  .obtain⟨⟨ys,s1⟩,h1,he⟩:=ZZc.1 ho
   simp only[ZZe] at he;obtain⟨rfl,rfl⟩:=he;obtain⟨t',g,e⟩:=Ext.outCells h h1;exact⟨t',by rw[g];rfl,e⟩
  .obtain⟨⟨ys,s1⟩,h1,ho⟩:=ZZb.1 ho
   obtain⟨z,hz,he⟩:=ZZc.1 ho;simp only[ZZe] at he;obtain⟨rfl,rfl⟩:=he;obtain⟨t',g,e⟩:=Ext.outCells h h1;exact⟨t',by rw[g,ZZa];simp only[hz];rfl,e⟩
theorem Ext.outs:∀{xs:List V} {s t:St} {p:Nat} {ts:List TypeId} {ms:List Yh} {ys:List V},Ext D s t->s.outs P p ts ms xs=some ys->t.outs P p ts ms xs=some ys:=by
 intro xs
 induction xs with
 | nil=>intro s t p ts ms ys h hs;exact hs
 | cons x xs ih=>
  intro s t p ts ms ys h hs;simp only[St.outs] at hs ⊢;obtain⟨⟨y1,s1⟩,h1,hs⟩:=ZZb.1 hs;obtain⟨zs,h2,rfl⟩:=ZZc.1 hs;obtain⟨t1,g1,e1⟩:=h.outOne h1;rw[g1];simp only[ZZa,ih e1.1 h2];rfl
theorem W5.enter (h:W5 D s t) (hD:∀id:Id,D id->64000<=id.2) {p:Nat} {m:Yh} {x:V} (he:s.enter p m x=some s'):∃t',t.enter p m x=some t'/\Zlz D t s' t':=by
 have hnd:p < 1000->∀j,64*p<=j->j < 64*p+64->¬D (0,j):=λhp j _ h2 hd=>by have:=hD _ hd;simp only at this;omega
 have one:∀{x y:V} {s1:St},p < 1000->s.takeOne 0 (64*p) x=some (y,s1)->∃t1,t.takeOne 0 (64*p) x=some (y,t1)/\Zlz D t (s1.put (some p) y) (t1.put (some p) y):=by
  intro x y s1 hp h1;obtain⟨t1,g,e⟩:=h.ext.takeOne (hnd hp) h1;have Jo:s1.env=s.env:=by
   have h0:Ext (λ_=>False) s ⟨s.env,s.heap,s.ep⟩:=⟨rfl,λ_ _=>rfl,λ_ h=>h.elim⟩;obtain⟨t',k1,k2⟩:=h0.takeOne (λ_ _ _ h=>h.elim) h1;have h3:(some (y,t'):Option (V×St))=some (y,s1):=by rw[<-k1,<-h1]
   simp only[ZZd,ZZe,true_and] at h3;subst h3;exact k2.2.2.1
  have e3:=h.of2 e Jo;exact⟨t1,g,e3.trans (e3.1.put _ _)⟩
 unfold St.enter at he ⊢;split at he
 case isFalse=>cases he
 rename_i hp;rw[ZZj hp];split at he
 .simp only[ZZd] at he
  subst he;exact⟨_,rfl,h.put _ _⟩
 .split at he
  .obtain⟨⟨y,s1⟩,h1,rfl⟩:=ZZc.1 he
   obtain⟨t1,g,e⟩:=one hp h1;exact⟨_,by rw[g];rfl,e⟩
  .cases he
 .split at he
  .cases he
  .rename_i Yf
   obtain⟨⟨y,s1⟩,h1,rfl⟩:=ZZc.1 he;obtain⟨t1,g,e⟩:=one hp h1;refine⟨_,?_,e⟩;rw[g];rfl
 .split at he
  .cases he
  .rename_i Yf
   obtain⟨⟨y,s1⟩,h1,rfl⟩:=ZZc.1 he;obtain⟨t1,g,e⟩:=one hp h1;refine⟨_,?_,e⟩;rw[g];rfl
theorem W5.enters (hD:∀id:Id,D id->64000<=id.2):∀{xs:List V} {s t s':St} {p:Nat} {ms:List Yh},W5 D s t->s.enters p ms xs=some s'->∃t',t.enters p ms xs=some t'/\Zlz D t s' t':=by
 intro xs
 induction xs with
 | nil=>
  intro s t s' p ms h hs;simp only[St.enters,ZZd] at hs;subst hs;exact⟨t,rfl,h.three⟩
 | cons x xs ih=>
  intro s t s' p ms h hs;simp only[St.enters] at hs ⊢;obtain⟨s1,h1,hs⟩:=ZZb.1 hs;obtain⟨t1,g1,e1⟩:=h.enter hD h1;obtain⟨t2,g2,e2⟩:=ih e1.1 hs;exact⟨t2,by rw[g1];exact g2,e1.trans e2⟩
end
theorem En.slAny {w w':World} {ok ok':Nat->Prop} {ρ:Rho} {v:Value} {id:Id} {off len:Nat} (h:En w ok ρ v (.sl id off len)):En w' ok' ρ v (.sl id off len):=by
 cases h with
 | sl h hc=>exact .sl h hc
 | sle h=>exact .sle h
theorem En.ptrAny {w w':World} {ok ok':Nat->Prop} {ρ:Rho} {v:Value} {id:Id} {i off:Nat} (h:En w ok ρ v (.ptr id i off)):En w' ok' ρ v (.ptr id i off):=by
 generalize hq:V.ptr id i off=q at h;cases h<;>cases hq;rename_i h;exact .ptr h
def Pl (ρ:Rho) (p:Nat) (m:Yh) (u:Value) (x:V):Prop:=
 match m with
 | .io=>∀w ok,En w ok ρ u (.ptr (0,64*p+63) 0 0)
 | .iov=>match x with
  | .agg cs=>∃us:Array Value,u=.agg us/\us.size=cs.length/\∀(j:Nat) (v:Value) (e:TypeId) (rows:List (List V)),us[j]?=some v->cs[j]?=some (.own e rows)->∀w ok,En w ok ρ v (.sl (0,64*p+j) 0 rows.length)
  | x=>∀(e:TypeId) (rows:List (List V)),x=.own e rows->∀w ok,En w ok ρ u (.sl (0,64*p) 0 rows.length)
 | _=>True
inductive PlL (ρ:Rho):Nat->List Yh->List Value->List V->Prop
 | nil {p:Nat} {ms:List Yh}:PlL ρ p ms [] []
 | cons {p:Nat} {ms:List Yh} {u:Value} {us:List Value} {x:V} {xs:List V} (h:Pl ρ p (ms.headD .rd) u x) (hs:PlL ρ (p+1) ms.tail us xs):PlL ρ p ms (u::us) (x::xs)
theorem Pl.ext {ρ ρ':Rho} (hρ:∀id i,ρ id=some i->ρ' id=some i) {p:Nat} {m:Yh} {u:Value} {x:V} (h:Pl ρ p m u x):Pl ρ' p m u x:=by
 cases m
 .exact trivial
 .exactλw ok=>(h w ok).ext (λ_ h=>h) hρ
 .exact trivial
 .unfold Pl at h ⊢
  simp only at h ⊢;split
  .obtain⟨us,h1,h2,h3⟩:=h
   exact⟨us,h1,h2,λj v e rows hv hc w ok=>(h3 j v e rows hv hc w ok).ext (λ_ h=>h) hρ⟩
  .rename_i Yf
   split at h
   .rename_i cs;exact absurd rfl (Yf cs)
   .exactλe rows he w ok=>(h e rows he w ok).ext (λ_ h=>h) hρ
theorem Ykb {e:Nat}:∀{xs:List V} {s:St} {k:Nat} {ys:List V} {s':St},s.takeCells e k xs=some (ys,s')->∀(j:Nat) (e':TypeId) (rows:List (List V)),xs[j]?=some (.own e' rows)->ys[j]?=some (.sl (e,k+j) 0 rows.length):=by
 intro xs
 induction xs with
 | nil=>intro s k ys s' _ j e' rows h;simp at h
 | cons x xs ih=>
  intro s k ys s' hs j e' rows h;simp only[St.takeCells] at hs;obtain⟨⟨y1,s1⟩,h1,hs⟩:=ZZb.1 hs;obtain⟨⟨y2,s2⟩,h2,hs⟩:=ZZc.1 hs;simp only[ZZe] at hs;obtain⟨rfl,rfl⟩:=hs;cases j with
  | zero=>
   have:x=.own e' rows:=by simpa using h
   subst this;simp only[St.takeCell,ZZd,ZZe] at h1;simp[h1.1]
  | succ j=>
   have:=ih h2 j e' rows (by simpa using h);rw[Vd5,this]
   congr 2
   simp only[V.sl.injEq,ZZe,true_and,and_true];omega
section
variable {P:Program} {B:Nat} {io:Nat->Prop} {w w':World} {tmps:Array Value} {s s':St} {ρ ρ':Rho} {F F':Id->List Nat} {fl fl':List Nat} {ok ok':Nat->Prop}
structure Came (P:Program) (B:Nat) (io:Nat->Prop) (w:World) (tmps:Array Value) (s:St) (ρ:Rho) (fl:List Nat) (ok:Nat->Prop) (lo hi:Nat) (s':St) (ρ':Rho) (F':Id->List Nat):Prop where
 rel:K4 P B io w tmps s' ρ' F' fl ok
 ext:∀id i,ρ id=some i->ρ' id=some i
 dom:∀id,(ρ' id).isSome=true->(ρ id).isSome=true\/(id.1=0/\lo<=id.2/\id.2 < hi)
 ep:s'.ep=s.ep
 heap:∀id:Id,¬(id.1=0/\lo<=id.2/\id.2 < hi)->s'.heap id=s.heap id
 tops:∀g,Ev.tops s' ρ' g->Ev.tops s ρ g\/io g
theorem Yl3 {d:Option Tmp} {v:V} {g:Nat} (h:tops (s.put d v) ρ g):tops s ρ g:=by
 obtain⟨id,b,o,c,sz,h1,h2,h3⟩:=h;rw[Ztm] at h1;exact⟨id,b,o,c,sz,h1,h2,h3⟩
theorem Yz6 {fp:List Nat} (h:K4 P B io w tmps s ρ F (fp++fl) ok) {p:Nat} {m:Yh} {u:Value} {x:V} (ha:ArgR P w ok io m u x fp) (hp:tmps[p]?=some u) (Ym:s.ep=0) (Y3:∀j,64*p<=j->j < 64*p+64->ρ (0,j)=none/\s.heap (0,j)=none) (he:s.enter p m x=some s'):
  ∃ρ' F',Came P B io w tmps s ρ fl ok (64*p) (64*p+64) s' ρ' F'/\Pl ρ' p m u x:=by
 have fin:∀{y:V} {s1:St} {z:V} ,Zcd P w ok io u z fp->s.takeOne 0 (64*p) z=some (y,s1)->∃ρ' F',Came P B io w tmps s ρ fl ok (64*p) (64*p+64) (s1.put (some p) y) ρ' F'/\En w ok ρ' u y:=by
  intro y s1 z hg ht;obtain⟨ρ',F',t,en⟩:=Z4j h hg (λg hg=>.inl hg) (e:=0) (by omega) Y3 ht;exact⟨ρ',F',⟨t.rel.put hp en,t.ext,t.dom,by rw[Zho];exact t.ep,λid Zw=>by rw[Ztm];exact t.heap id Zw,λg hg=>t.tops g (Yl3 hg)⟩,en⟩
 unfold St.enter at he;split at he
 case isFalse=>cases he
 split at he
 .simp only[ZZd] at he
  subst he;obtain⟨h1,rfl⟩:=ha;exact⟨ρ,F,⟨h.put hp (h1 ρ),λ_ _ h=>h,λ_ h=>.inl h,Zho _ _ _,λid _=>by rw[Ztm],λg hg=>.inl (Yl3 hg)⟩,trivial⟩
 .split at he
  .rename_i cs
   obtain⟨⟨y,s1⟩,h1,rfl⟩:=ZZc.1 he;obtain⟨cs',Kj,hg⟩:=ha;injection Kj with Kj;subst Kj;obtain⟨ρ',F',h2,h3⟩:=fin hg h1;refine⟨ρ',F',h2,λw' ok'=>?_⟩;simp only[St.takeOne] at h1;split at h1
   .obtain⟨_,_,he⟩:=ZZc.1 h1
    simp only[ZZe] at he;rw[<-he.1] at h3;exact h3.ptrAny
   .cases h1
  .cases he
 .split at he
  .cases he
  .obtain⟨⟨y,s1⟩,h1,rfl⟩:=ZZc.1 he
   obtain⟨ρ',F',h2,h3⟩:=fin ha.2 h1;exact⟨ρ',F',h2,trivial⟩
 .split at he
  .cases he
  .obtain⟨⟨y,s1⟩,h1,rfl⟩:=ZZc.1 he
   obtain⟨ρ',F',h2,h3⟩:=fin ha.2 h1;refine⟨ρ',F',h2,?_⟩;unfold Pl;simp only;split
   .rename_i cs
    obtain⟨us,rfl,hgl⟩:=ha.2;refine⟨us,rfl,by have:=hgl.length;simpa using this,λj v e rows hv hc w' ok'=>?_⟩;simp only[St.takeOne] at h1;split at h1
    .obtain⟨⟨ys,s2⟩,h4,he⟩:=ZZc.1 h1
     simp only[ZZe] at he;rw[<-he.1] at h3;cases h3 with
     | agg hl hcc hr=>exact (hr j v _ hv (Ykb h4 j e rows hc)).slAny
    .cases h1
   .rename_i Yf
    rintro e rows rfl w' ok';simp only[St.takeOne,St.takeCell,ZZd,ZZe] at h1;rw[<-h1.1] at h3;exact h3.slAny
theorem Yxp:∀(xs:List V) {us:List Value} {p:Nat} {ms:List Yh} {s s':St} {ρ:Rho} {F:Id->List Nat} {G:List Nat},K4 P B io w tmps s ρ F (G++fl) ok->Zt6 P w ok io ms us xs G->(∀(j:Nat) (u:Value),us[j]?=some u->tmps[p+j]?=some u)->s.ep=0->
  (∀j,64*p<=j->j < 64000->ρ (0,j)=none/\s.heap (0,j)=none)->s.enters p ms xs=some s'->∃ρ' F',Came P B io w tmps s ρ fl ok (64*p) 64000 s' ρ' F'/\PlL ρ' p ms us xs:=by
 intro xs
 induction xs with
 | nil=>
  intro us p ms s s' ρ F G h ha ht Ym Y3 he;cases ha;simp only[St.enters,ZZd] at he;subst he;exact⟨ρ,F,⟨h,λ_ _ h=>h,λ_ h=>.inl h,rfl,λ_ _=>rfl,λ_ h=>.inl h⟩,.nil⟩
 | cons x xs ih=>
  intro us p ms s s' ρ F G h ha ht Ym Y3 he;cases ha with
  | @cons _ u us _ _ f1 f2 h1 hs=>
   simp only[St.enters] at he;obtain⟨s1,e1,he⟩:=ZZb.1 he;have hp:p < 1000:=by
    unfold St.enter at e1;split at e1
    .assumption
    .cases e1
   obtain⟨ρ1,F1,c1,p1⟩:=Yz6 (fl:=f2++fl) (by rw[<-List.append_assoc];exact h) h1 (by simpa using ht 0 u rfl) Ym (λj h1 h2=>Y3 j h1 (by omega)) e1;obtain⟨ρ2,F2,c2,p2⟩:=ih c1.rel hs (λj v hv=>by have:=ht (j+1) v (by simpa using hv);rw[show p+1+j=p+(j+1) by omega];exact this) (by rw[c1.ep];exact Ym) (λj h1 h2=>by
    obtain⟨a1,a2⟩:=Y3 j (by omega) h2;refine⟨?_,by rw[c1.heap _ (λhh=>by have:=hh.2.2;simp only at this;omega)];exact a2⟩;cases hr:ρ1 (0,j) with
    | none=>rfl
    | some i=>
     rcases c1.dom (0,j) (by rw[hr];rfl) with hh|hh
     .rw[a1] at hh;cases hh
     .have:=hh.2.2;simp only at this;omega) he
   refine⟨ρ2,F2,⟨c2.rel,λid i hi=>c2.ext id i (c1.ext id i hi),λid hi=>?_,c2.ep.trans c1.ep,λid Zw=>?_,λg hg=>?_⟩,.cons (p1.ext c2.ext) p2⟩
   .rcases c2.dom id hi with h3|h3
    .rcases c1.dom id h3 with h4|h4
     .exact .inl h4
     .exact .inr ⟨h4.1,h4.2.1,by omega⟩
    .exact .inr ⟨h3.1,by omega,h3.2.2⟩
   .rw[c2.heap id (λhh=>Zw ⟨hh.1,by omega,hh.2.2⟩)]
    exact c1.heap id (λhh=>Zw ⟨hh.1,hh.2.1,by omega⟩)
   .rcases c2.tops g hg with h3|h3
    .exact c1.tops g h3
    .exact .inr h3
end
inductive Ze1 (P:Program) (w:World) (ok top:Nat->Prop):List Value->List V->List Nat->Prop
 | nil:Ze1 P w ok top [] [] []
 | cons {v:Value} {x:V} {vs:List Value} {xs:List V} {f1 f2:List Nat} (h:Zcd P w ok top v x f1) (hs:Ze1 P w ok top vs xs f2):Ze1 P w ok top (v::vs) (x::xs) (f1++f2)
theorem Ze1.top {P:Program} {w:World} {ok top top':Nat->Prop} {v:List Value} {x:List V} {fp:List Nat} (h:Ze1 P w ok top v x fp) (ht:∀g,top g->top' g):Ze1 P w ok top' v x fp:=by
 induction h with
 | nil=>exact .nil
 | cons h _ ih=>exact .cons (h.top ht) ih
inductive Ztf (P:Program) (w:World) (top:Nat->Prop):List Value->List V->List V->List Nat->Prop
 | nil:Ztf P w top [] [] [] []
 | own {u:Value} {e:TypeId} {rows rows':List (List V)} {us:List Value} {xs ns:List V} {f1 f2:List Nat} (h:OwT P w e u rows' f1) (ht:∀g,f1.head?=some g->top g) (hs:Ztf P w top us xs ns f2):Ztf P w top (u::us) (.own e rows::xs) (.own e rows'::ns) (f1++f2)
 | skip {u:Value} {x:V} {us:List Value} {xs ns:List V} {f:List Nat} (hx:∀e rows,x≠.own e rows) (hs:Ztf P w top us xs ns f):Ztf P w top (u::us) (x::xs) (.undef::ns) f
theorem Ztf.top {P:Program} {w:World} {top top':Nat->Prop} {us:List Value} {xs ns:List V} {fp:List Nat} (h:Ztf P w top us xs ns fp) (ht:∀g,top g->top' g):Ztf P w top' us xs ns fp:=by
 induction h with
 | nil=>exact .nil
 | own h k _ ih=>exact .own h (λg hg=>ht g (k g hg)) ih
 | skip h _ ih=>exact .skip h ih
def Z41 (P:Program) (w:World) (ok top:Nat->Prop) (m:Yh) (u:Value) (x o:V) (fp:List Nat):Prop:=
 match m with
 | .rd|.mv=>fp=[]
 | .io=>∃cs cs',x=.agg cs/\o=.agg cs'/\cs'.length=cs.length/\Zcd P w ok top u (.obx cs') fp
 | .iov=>(∃(us:Array Value) (cs ns:List V),x=.agg cs/\u=.agg us/\o=.agg ns/\Ztf P w top us.toList cs ns fp)\/((∀cs,x≠.agg cs)/\Ztf P w top [u] [x] [o] fp)
theorem Z41.top {P:Program} {w:World} {ok top top':Nat->Prop} {m:Yh} {u:Value} {x o:V} {fp:List Nat} (h:Z41 P w ok top m u x o fp) (ht:∀g,top g->top' g):Z41 P w ok top' m u x o fp:=by
 cases m
 .exact h
 .obtain⟨cs,cs',h1,h2,h3,h4⟩:=h;exact⟨cs,cs',h1,h2,h3,h4.top ht⟩
 .exact h
 .rcases h with⟨us,cs,ns,h1,h2,h3,h4⟩|⟨h1,h2⟩
  .exact .inl ⟨us,cs,ns,h1,h2,h3,h4.top ht⟩
  .exact .inr ⟨h1,h2.top ht⟩
inductive Zhc (P:Program) (w:World) (ok top:Nat->Prop):List Yh->List Value->List V->List V->List Nat->Prop
 | nil {ms:List Yh}:Zhc P w ok top ms [] [] [] []
 | cons {ms:List Yh} {u:Value} {us:List Value} {x o:V} {xs os:List V} {f1 f2:List Nat} (h:Z41 P w ok top (ms.headD .rd) u x o f1) (hs:Zhc P w ok top ms.tail us xs os f2):Zhc P w ok top ms (u::us) (x::xs) (o::os) (f1++f2)
theorem Zhc.top {P:Program} {w:World} {ok top top':Nat->Prop} {ms:List Yh} {us:List Value} {xs os:List V} {fp:List Nat} (h:Zhc P w ok top ms us xs os fp) (ht:∀g,top g->top' g):Zhc P w ok top' ms us xs os fp:=by
 induction h with
 | nil=>exact .nil
 | cons h _ ih=>exact .cons (h.top ht) ih
section
variable {P:Program} {B:Nat} {io:Nat->Prop} {w w':World} {tmps:Array Value} {s s':St} {ρ ρ':Rho} {F F':Id->List Nat} {fl fl':List Nat} {ok ok':Nat->Prop}
theorem Yt3 (h0:Rel P B io w tmps s ρ F fl) {s1 s2:St} {fl1:List Nat} (h:Rel P B io w tmps s1 ρ F fl1) (Ku:Wl s s1) {ts:List (Option TypeId)} {u:Value} {x y:V} (hu:En w (okS s ρ w) ρ u x) (hl:s1.liftOne ts x=some (y,s2)):
  ∃fp,Rel P B io w tmps s2 ρ F (fp++fl1)/\Zcd P w (okS s ρ w) (Zas s1 s2 ρ F) u y fp/\Wl s1 s2:=by
 have Y2:∀g,okS s ρ w g->okS s1 ρ w g:=λg hg=>Zyr Ku hg;unfold St.liftOne at hl;split at hl
 .rename_i cs
  exact Z3l h hu Y2 (show s1.giveArg ts (.agg cs)=some (y,s2) from hl)
 .rename_i id
  obtain⟨⟨cs,s4⟩,h3,he⟩:=ZZc.1 hl;simp only[ZZe] at he;obtain⟨rfl,rfl⟩:=he;obtain⟨fp,a,b,c,_⟩:=Z4f h hu Y2 (λb row hb=>h0.boxCellsEn b row (Ku.sub id b hb)) h3;exact⟨fp,a,b,c⟩
 .obtain⟨fp,a,b,c⟩:=Z1n h hu Y2 hl
  refine⟨fp,a,?_,c⟩;cases b with
  | lit h=>exact .lit h
  | tr h=>exact .tr h
  | own h k=>exact .own h k
theorem Yu2 (h0:Rel P B io w tmps s ρ F fl):∀(xs:List V) {us:List Value} {ts:List TypeId} {s1 s2:St} {fl1:List Nat} {ys:List V},Rel P B io w tmps s1 ρ F fl1->Wl s s1->us.length=xs.length->
  (∀(j:Nat) (u:Value) (x:V),us[j]?=some u->xs[j]?=some x->En w (okS s ρ w) ρ u x)->s1.liftAll P ts xs=some (ys,s2)->∃fp,Rel P B io w tmps s2 ρ F (fp++fl1)/\Ze1 P w (okS s ρ w) (Zas s1 s2 ρ F) us ys fp/\Wl s1 s2:=by
 intro xs
 induction xs with
 | nil=>
  intro us ts s1 s2 fl1 ys h Ku hl Xh hg;have:us=[]:=Vas (by simpa using hl);subst this;simp only[St.liftAll,ZZd,ZZe] at hg;obtain⟨rfl,rfl⟩:=hg;exact⟨[],h,.nil,.refl _⟩
 | cons x xs ih=>
  intro us ts s1 s2 fl1 ys h Ku hl Xh hg
  match us,hl with
  | u::us,hl=>
   simp only[St.liftAll] at hg;obtain⟨⟨y,s3⟩,h1,hg⟩:=ZZb.1 hg;obtain⟨⟨zs,s4⟩,h2,hg⟩:=ZZc.1 hg;simp only[ZZe] at hg;obtain⟨rfl,rfl⟩:=hg;simp only at h2;obtain⟨f1,r1,a1,l1⟩:=Yt3 h0 h Ku (Xh 0 u x rfl rfl) h1;obtain⟨f2,r2,a2,l2⟩:=ih r1 (Ku.trans l1) (by simpa using hl) (λj v z hv hz=>Xh (j+1) v z (by simpa using hv) (by simpa using hz)) h2;refine⟨f1++f2,r2.perm ?_,.cons (a1.top λg hg=>hg.left l2) (a2.top λg hg=>hg.right l1),l1.trans l2⟩;rw[List.append_assoc];exact (Vbo _ _ _)
theorem Z9q {p:Nat}:∀(xs:List V) {us:List Value} {k:Nat} {s1 s2:St} {fl1:List Nat} {ys:List V},Rel P B io w tmps s1 ρ F fl1->us.length=xs.length->
  (∀(j:Nat) (v:Value) (e:TypeId) (rows:List (List V)),us[j]?=some v->xs[j]?=some (.own e rows)->∀w ok,En w ok ρ v (.sl (0,64*p+(k+j)) 0 rows.length))->s1.outCells p k xs=some (ys,s2)->
  ∃fp,Rel P B io w tmps s2 ρ F (fp++fl1)/\Ztf P w (Zas s1 s2 ρ F) us xs ys fp/\Wl s1 s2:=by
 intro xs
 induction xs with
 | nil=>
  intro us k s1 s2 fl1 ys h hl Xh hg;have:us=[]:=Vas (by simpa using hl);subst this;simp only[St.outCells,ZZd,ZZe] at hg;obtain⟨rfl,rfl⟩:=hg;exact⟨[],h,.nil,.refl _⟩
 | cons x xs ih=>
  intro us k s1 s2 fl1 ys h hl Xh hg
  match us,hl with
  | u::us,hl=>
   have Z5g:∀(j:Nat) (v:Value) (e:TypeId) (rows:List (List V)),us[j]?=some v->xs[j]?=some (.own e rows)->∀w ok,En w ok ρ v (.sl (0,64*p+(k+1+j)) 0 rows.length):=λj v e rows hv hx w' ok'=>by
    have:=Xh (j+1) v e rows (by simpa using hv) (by simpa using hx) w' ok';rw[show k+1+j=k+(j+1) by omega];exact this
   unfold St.outCells at hg;split at hg
   .rename_i heq;cases heq
   .rename_i heq
    injection heq with e1 e2;subst e1;subst e2;obtain⟨⟨e',rows'⟩,hw,hg⟩:=ZZb.1 hg;simp only at hg;split at hg
    .rename_i hee
     obtain⟨⟨zs,s3⟩,h2,he⟩:=ZZc.1 hg;simp only[ZZe] at he;obtain⟨rfl,rfl⟩:=he;subst hee;have hu:=Xh 0 u _ _ rfl rfl w (okS s1 ρ w);obtain⟨f1,r1,o1,hh⟩:=h.whole2 (by simpa using hu) hw;obtain⟨f2,r2,a2,l2⟩:=ih r1 (by simpa using hl) Z5g h2;refine⟨f1++f2,r2.perm ?_,.own o1 (λg hg=>?_) (a2.top λg hg=>hg.right (.kill s1 _)),(Wl.kill s1 _).trans l2⟩
     .rw[List.append_assoc]
      exact (Vbo _ _ _)
     .unfold St.whole at hw
      obtain⟨b,hb,hw⟩:=ZZb.1 hw;split at hw
      .rename_i hc
       exact⟨_,b,hb,hc.2.1,l2.none Q7,(hh g hg).1,(hh g hg).2⟩
      .cases hw
    .cases hg
   .rename_i Yf heq
    injection heq with e1 e2;subst e1;subst e2;obtain⟨⟨zs,s3⟩,h2,he⟩:=ZZc.1 hg;simp only[ZZe] at he;obtain⟨rfl,rfl⟩:=he;obtain⟨f2,r2,a2,l2⟩:=ih h (by simpa using hl) Z5g h2;exact⟨f2,r2,.skip (λe rows hx=>Yf e rows hx) a2,l2⟩
theorem Y3a {D:Id->Prop} (h0:Rel P B io w tmps s ρ F fl):∀(xs:List V) {us:List Value} {p:Nat} {ts:List TypeId} {ms:List Yh} {sa s1:St} {fl1:List Nat} {ys:List V},Rel P B io w tmps s1 ρ F fl1->Wl s s1->PlL ρ p ms us xs->
  Ext D sa s1->sa.outs P p ts ms xs=some ys->s1.outs P p ts ms xs=some ys->∃s2 fp,(∀id,D id->s2.heap id=s1.heap id)/\Rel P B io w tmps s2 ρ F (fp++fl1)/\Zhc P w (okS s ρ w) (Zas s1 s2 ρ F) ms us xs ys fp/\Wl s1 s2:=by
 intro xs
 induction xs with
 | nil=>
  intro us p ts ms sa s1 fl1 ys h Ku hpl hx hga hg;cases hpl;simp only[St.outs,ZZd] at hg;subst hg;exact⟨s1,[],λ_ _=>rfl,h,.nil,.refl _⟩
 | cons x xs ih=>
  intro us p ts ms sa s1 fl1 ys h Ku hpl hx hga hg;cases hpl with
  | @cons _ _ u us _ _ hp hps=>
   simp only[St.outs] at hg hga;obtain⟨⟨y,s3⟩,h1,hg⟩:=ZZb.1 hg;obtain⟨zs,h2,rfl⟩:=ZZc.1 hg;obtain⟨⟨ya,sa3⟩,Y4,hga⟩:=ZZb.1 hga;obtain⟨zsa,Ka,hzs⟩:=ZZc.1 hga;simp only at h2 Ka;injection hzs with hya hzs;have hya:=hya.symm;have hzs:=hzs.symm;subst hya;subst hzs;obtain⟨s3',k1,k2⟩:=hx.outOne Y4;rw[h1] at k1;simp only[ZZd,ZZe,true_and] at k1;subst k1;have Y2:∀g,okS s ρ w g->okS s1 ρ w g:=λg hg=>Zyr Ku hg;have one:∃fp,Rel P B io w tmps s3 ρ F (fp++fl1)/\Z41 P w (okS s ρ w) (Zas s1 s3 ρ F) (ms.headD .rd) u x y fp/\Wl s1 s3:=by
    unfold St.out at h1;split at h1
    .rename_i hm
     simp only[ZZd,ZZe] at h1;obtain⟨rfl,rfl⟩:=h1;rw[hm];exact⟨[],h,rfl,.refl _⟩
    .rename_i hm
     simp only[ZZd,ZZe] at h1;obtain⟨rfl,rfl⟩:=h1;rw[hm];exact⟨[],h,rfl,.refl _⟩
    .rename_i hm
     rw[hm] at hp ⊢;split at h1
     .rename_i cs
      obtain⟨⟨cs',s4⟩,h3,h1⟩:=ZZb.1 h1;simp only at h1;split at h1
      .rename_i Yl
       simp only[ZZd,ZZe] at h1;obtain⟨rfl,rfl⟩:=h1;obtain⟨fp,a,b,c,_⟩:=Z4f h (hp w (okS s ρ w)) Y2 (λb row hb=>h0.boxCellsEn b row (Ku.sub _ b hb)) h3;exact⟨fp,a,⟨cs,cs',rfl,rfl,Yl,b⟩,c⟩
      .cases h1
     .cases h1
    .rename_i hm
     rw[hm] at hp ⊢;unfold Pl at hp;simp only at hp;split at h1
     .rename_i cs
      obtain⟨⟨ns,s4⟩,h3,he⟩:=ZZc.1 h1;simp only[ZZe] at he;obtain⟨rfl,rfl⟩:=he;obtain⟨vs,rfl,Ws,Xh⟩:=hp;obtain⟨fp,a,b,c⟩:=Z9q (p:=p) cs (us:=vs.toList) (k:=0) h (by simpa using Ws) (λj v e rows hv hc w' ok'=>by
       have:=Xh j v e rows (by simpa using hv) hc w' ok';rw[Vbk];exact this) h3
      exact⟨fp,a,.inl ⟨vs,cs,ns,rfl,rfl,rfl,b⟩,c⟩
     .rename_i Yf
      obtain⟨⟨ns,s4⟩,h3,h1⟩:=ZZb.1 h1;obtain⟨z,hz,he⟩:=ZZc.1 h1;simp only[ZZe] at he;obtain⟨rfl,rfl⟩:=he;split at hp
      .rename_i cs;exact absurd rfl (Yf cs)
      .obtain⟨fp,a,b,c⟩:=Z9q (p:=p) [x] (us:=[u]) (k:=0) h rfl (λj v e rows hv hc w' ok'=>by
        cases j with
        | zero=>
         have e1:u=v:=by simpa using hv
         have e2:x=.own e rows:=by simpa using hc
         subst e1;have:=hp e rows e2 w' ok';simpa using this
        | succ j=>simp at hc) h3
       have hns:ns=[z]:=by
        cases b with
        | own _ _ hs=>cases hs;simp at hz;rw[hz]
        | skip _ hs=>cases hs;simp at hz;rw[hz]
       subst hns;exact⟨fp,a,.inr ⟨Yf,b⟩,c⟩
   obtain⟨f1,r1,a1,l1⟩:=one;obtain⟨s5,f2,d2,r2,a2,l2⟩:=ih r1 (Ku.trans l1) hps k2.1 Ka h2;refine⟨s5,f1++f2,λid hd=>(d2 id hd).trans (k2.2.1 id hd),r2.perm ?_,.cons (a1.top λg hg=>hg.left l2) (a2.top λg hg=>hg.right l1),l1.trans l2⟩;rw[List.append_assoc];exact (Vbo _ _ _)
theorem Yqg {t:TypeId} {g n:Nat} {us:List Value} {cs:List V} {v:V} (hl:us.length=Zx P t) (X8:us.length=cs.length) (hce:∀x∈cs,cellish x=true)
  (hc:∀j u,us[j]?=some u->w.cell? ⟨g,n+j,none⟩=some u) (he:Zkc P t cs=some v) (Xh:∀(j:Nat) (u:Value) (x:V),us[j]?=some u->cs[j]?=some x->En w (okS s ρ w) ρ u x):
  ∃u,(loadVar t ⟨g,n,none⟩).run P w=.ok u w/\En w (okS s ρ w) ρ u v:=by
 unfold Zkc at he;split at he
 .rename_i Zxi
  obtain⟨d,hu⟩:=Val.1 Zxi;split at he
  .rename_i Zh3
   simp only[ZZd] at he;subst he;obtain⟨ti,hti⟩:∃ti,P.info? t=some ti:=by
    unfold Program.underlying at hu;split at hu
    .rename_i h;exact⟨_,h⟩
    .rename_i h;exact⟨_,h⟩
    .cases hu
   have Ws:ti.size=us.length:=by rw[hl];simp[Zx,Program.cellsOf,hti]
   have Yt:=run_loadCells_list (P:=P) (w:=w) ⟨g,n,none⟩ us (λj u hj=>by rw[Zah];exact hc j u hj);rw[<-Ws] at Yt;refine⟨.agg us.toArray,?_,(.agg (by simpa using X8) hce (λj u x hj hx=>Xh j u x (by simpa using hj) hx))⟩;cases d<;>simp[Zeo,hu] at Zh3<;>simp[loadVar,isAgg,underlying,hu,Go.sizeOf,typeInfo,hti,Yt]
  .rename_i Zh3
   split at he
   .rename_i y
    simp only[ZZd] at he;subst he
    match us,X8 with
    | [u],_=>
     refine⟨u,?_,Xh 0 u y rfl rfl⟩;have h0:=hc 0 u rfl;simp only[Va3] at h0;cases d<;>simp[Zeo,hu] at Zh3<;>simp[loadVar,isAgg,underlying,hu,load,Sem.run,h0]
   .cases he
 .cases he
def Z3p (tmps:Array Value):ResultVar->Sem Value
 | .tmp t=>pure (tmps.getD t undef)
 | .cell a t=>do loadVar t (<-asAddr (tmps.getD a undef))
theorem Y2b (h:Rel P B io w tmps s ρ F fl):∀(l:List ResultVar) {vs:List V},Zqr P s l=some vs->∃us:List Value,us.length=vs.length/\
  (l.mapM (Z3p tmps)).run P w=.ok us w/\∀(j:Nat) (u:Value) (x:V),us[j]?=some u->vs[j]?=some x->En w (okS s ρ w) ρ u x:=by
 intro l
 induction l with
 | nil=>
  intro vs hr;simp only[Zqr,ZZd] at hr;subst hr;exact⟨[],rfl,by simp,λj u x hu=>by simp at hu⟩
 | cons r l ih=>
  intro vs hr;have tm:∀t,s.env t≠.undef->t < tmps.size:=λt Yf=>by
   rcases Vb5 t tmps.size with h'|h'
   .exact h'
   .exact absurd (h.out t h') Yf
  have fin:∀{u:Value} {x:V} {ys:List V},(Z3p tmps r).run P w=.ok u w->En w (okS s ρ w) ρ u x->Zqr P s l=some ys->x::ys=vs->
    ∃us:List Value,us.length=vs.length/\((r::l).mapM (Z3p tmps)).run P w=.ok us w/\∀(j:Nat) (u:Value) (x:V),us[j]?=some u->vs[j]?=some x->En w (okS s ρ w) ρ u x:=by
   rintro u x ys Yt Xh Z8 rfl;obtain⟨us,h1,h2,h3⟩:=ih Z8;refine⟨u::us,by simp[h1],?_,λj v z hv hz=>?_⟩
   .rw[List.mapM_cons]
    simp only[Sem.run_bind,Yt,h2,Result.andThen_ok,Sem.run_pure]
   .cases j with
    | zero=>
     have e1:u=v:=by simpa using hv
     have e2:x=z:=by simpa using hz
     subst e1;subst e2;exact Xh
    | succ j=>exact h3 j v z (by simpa using hv) (by simpa using hz)
  cases r with
  | tmp t=>
   simp only[Zqr] at hr;split at hr
   .cases hr
   .rename_i Yf
    obtain⟨ys,h1,h2⟩:=ZZc.1 hr;have Z5:=tm t Yf;have hv:tmps[t]?=some tmps[t]:=Vaf Z5;exact fin (u:=tmps.getD t undef) (by simp[Z3p]) (by rw[Vbg,hv];exact h.env t _ hv) h1 h2
  | cell ad t=>
   simp only[Zqr] at hr;split at hr
   .rename_i i j n hx
    obtain⟨b,hb,hr⟩:=ZZb.1 hr;obtain⟨row,Yx,hr⟩:=ZZb.1 hr;split at hr
    .rename_i Yl
     obtain⟨x,hxe,hr⟩:=ZZb.1 hr;obtain⟨ys,h1,h2⟩:=ZZc.1 hr;have Z5:=tm ad (by rw[hx];simp);have hv:tmps[ad]?=some tmps[ad]:=Vaf Z5;have Xh:=h.env ad _ hv;rw[hx] at Xh;generalize hq:tmps[ad]=q at Xh hv;generalize hpp:V.ptr i j n=pp at Xh;cases Xh<;>cases hpp;rename_i g o' c sz hρ;have cell:∀(m:Nat) (y:V),row[m]?=some y->∃u,w.cell? ⟨g,o'+j*sz+m,none⟩=some u/\En w (okS s ρ w) ρ u y/\cellish y=true:=λm y hy=>by
      obtain⟨u,k1,k2,k3⟩:=h.cell hb hρ Yx hy;cases Xi:b.box with
      | true=>exact⟨u,k1,k2 Xi,h.boxCells hb Xi Yx y (Vag hy)⟩
      | false=>exact⟨u,k1,(k3 Xi).en,(k3 Xi).cellish⟩
     have each:∀m,∃u:Value,∀y,row[m]?=some y->w.cell? ⟨g,o'+j*sz+m,none⟩=some u/\En w (okS s ρ w) ρ u y:=λm=>by
      cases hm:row[m]? with
      | none=>exact⟨undef,λy hy=>by cases hy⟩
      | some z=>
       obtain⟨u,k1,k2,_⟩:=cell m z hm;exact⟨u,λy hy=>by injection hy with hy;subst hy;exact⟨k1,k2⟩⟩
     obtain⟨uf,huf⟩:=Vc9 each;obtain⟨u,Yt,hue⟩:=Yqg (P:=P) (s:=s) (ρ:=ρ) (w:=w) (t:=t) (g:=g) (n:=o'+j*sz+n) (us:=(List.range (Zx P t)).map λm=>uf (n+m)) (cs:=(row.drop n).take (Zx P t)) (by simp) (by simp;omega) (λx hx=>by
      obtain⟨m,hm⟩:=Va1 hx;rw[Vai] at hm;split at hm
      .rw[Vau] at hm
       obtain⟨_,_,_,k4⟩:=cell _ x hm;exact k4
      .cases hm) (λm u hm=>by
      simp only[Va8,ZZc] at hm;obtain⟨m',hm',rfl⟩:=hm;obtain⟨Yv6,rfl⟩:=ZZh.1 hm';simp only[Vdy,Vds] at Yv6 ⊢;rw[Nat.add_assoc];exact (huf (n+m) _ (Vac (by omega))).1) hxe (λm u y hm hy=>by
      simp only[Va8,ZZc] at hm;obtain⟨m',hm',rfl⟩:=hm;obtain⟨Yv6,rfl⟩:=ZZh.1 hm';simp only[Vdy,Vds] at Yv6 ⊢;rw[Vai,ZZj Yv6,Vau] at hy;exact (huf (n+m) y hy).2)
     refine fin (u:=u) ?_ hue h1 h2;simp only[Z3p,Sem.run_bind];rw[Vbg,hv];simp[asAddr,Yt]
    .cases hr
   .cases hr
end
def Zp8 (P:Program) (w:World) (ok top:Nat->Prop) (v:Value):V->List Nat->Prop
 | .tup rs,fp=>∃us:Array Value,v=.tuple us/\Ze1 P w ok top us.toList rs fp
 | x,fp=>Zcd P w ok top v x fp
structure Done (P:Program) (ms:List Yh) (w:World) (us:Array Value) (xs:List V) (G:List Nat) (T X:Nat->Prop) (r:V) (os:List V) (v:Value) (w':World):Prop where
 left:Wm w.heap.size T w w'
 ex:∃(ok' top':Nat->Prop) (fr fo:List Nat),Zp8 P w' ok' top' v r fr/\Zhc P w' ok' top' ms us.toList xs os fo/\(fr++fo).Nodup/\(∀g∈fr++fo,g < w'.heap.size/\(g∈G\/w.heap.size<=g))/\(∀g,top' g->T g\/w.heap.size<=g)/\(∀g,ok' g->g < w'.heap.size/\¬top' g/\¬X g)
def Z3m (P:Program) (ms:List Yh) (f:FuncId) (xs:List V) (r:V) (os:List V):Prop:=
 ∀(w:World) (us:Array Value) (G:List Nat) (T X ok:Nat->Prop),Anch w T->Zt6 P w ok T ms us.toList xs G->G.Nodup->(∀g∈G,g < w.heap.size/\¬X g)->(∀g,ok g->g < w.heap.size/\¬T g/\¬X g)->
  (∀g,X g->∃cur e,w.heap[g]?=some (.cells cur e (0,0)))->Calls P f us w (λe w'=>∃v,e=.returned v/\Done P ms w us xs G T X r os v w')
def Z3e (b:Nat) (id:Id):Prop:=id.1=0/\b<=id.2
def Ztr (w:World) (g:Nat):Blk:=match w.heap[g]? with|some (.cells _ e _)=>⟨false,true,false,e,[]⟩|_=>⟨false,true,false,0,[]⟩
def Z60 (P:Program) (w:World) (g:Nat):Zq7:=match w.heap[g]? with|some (.cells cur e _)=>.blk g cur.size 0 (P.cellsOf e)|_=>.emp
open Classical in
noncomputable def phSt (b:Nat) (w:World) (X:Nat->Prop):St:=⟨λ_=>.undef,λid=>if id.1=0/\b<=id.2/\X (id.2 - b) then some (Ztr w (id.2 - b)) else none,0⟩
open Classical in
noncomputable def phRho (b:Nat) (P:Program) (w:World) (X:Nat->Prop):Rho:=λid=>if id.1=0/\b<=id.2/\X (id.2 - b) then some (Z60 P w (id.2 - b)) else none
theorem ph_ext (b:Nat) (w:World) (X:Nat->Prop):W5 (Z3e b) ⟨λ_=>.undef,λ_=>none,0⟩ (phSt b w X):=by
 refine⟨⟨rfl,λid Zw=>?_,λ_ _=>rfl⟩,rfl,λid bk hd hb=>?_⟩
 .simp only[phSt]
  rw[ZZi (λh=>Zw ⟨h.1,h.2.1⟩)]
 .simp only[phSt] at hb
  split at hb
  .injection hb with hb
   subst hb;unfold Ztr;split<;>rfl
  .cases hb
section
variable {P:Program} {M:Yp} {C:Qo}
theorem ph_rel {b:Nat} {w:World} {X T ok:Nat->Prop} {tmps:Array Value} {fl:List Nat} (hT:Anch w T) (hX:∀g,X g->∃cur e,w.heap[g]?=some (.cells cur e (0,0))) (Q9:∀g∈fl,g < w.heap.size/\¬X g) (hno:fl.Nodup):
  K4 P w.heap.size T w tmps (phSt b w X) (phRho b P w X) (λid=>[id.2 - b]) fl ok:=by
 have key:∀id k,(phSt b w X).heap id=some k->id.1=0/\b<=id.2/\X (id.2 - b)/\k=Ztr w (id.2 - b):=λid k hb=>by
  simp only[phSt] at hb;split at hb
  .rename_i h;injection hb with hb;exact⟨h.1,h.2.1,h.2.2,hb.symm⟩
  .cases hb
 have lt:∀g,X g->g < w.heap.size:=λg hg=>by
  obtain⟨cur,e,h⟩:=hX g hg;exact (Vam.1 h).1
 refine⟨λt v hv=>.undef,λt ht=>rfl,λid k hb=>?_,λid k hb ho g hg=>?_,λid k hb ho hc g hg=>?_,λid id' k k' hb ho Yb Q2 Yf g hg Z7=>?_,λid k hb ho=>by simp,λid Zw=>?_,⟨Vaw _,hT.1,hT.2.1,λg hg=>hg.elim (hT.2.2 g) (λhh=>Vb4 hT.1 hh)⟩,λg hg=>(Q9 g hg).1,λid k hb ho g hg Z7=>?_,hno⟩
 .obtain⟨h1,h2,h3,rfl⟩:=key id _ hb
  obtain⟨cur,e,h⟩:=hX _ h3;have hρ:phRho b P w X id=some (.blk (id.2 - b) cur.size 0 (P.cellsOf e)):=by
   simp only[phRho];rw[ZZj ⟨h1,h2,h3⟩];simp only[Z60,h]
  have hbk:Ztr w (id.2 - b)=⟨false,true,false,e,[]⟩:=by simp only[Ztr,h]
  rw[hρ,hbk];exact .mkRow rfl rfl rfl h (Vaw _) (Vbj _) (by simp) (by simp) rfl (λhf=>by cases hf) (λ_=>⟨rfl,λk x hx=>by simp at hx⟩)
 .obtain⟨h1,h2,h3,rfl⟩:=key id _ hb
  rw[List.mem_singleton.1 hg];exact lt _ h3
 .obtain⟨h1,h2,h3,rfl⟩:=key id _ hb
  obtain⟨cur,e,h⟩:=hX _ h3;obtain⟨g1,o1,c1,z1,hi,hc⟩:=hc;simp only[phRho] at hi;rw[ZZj ⟨h1,h2,h3⟩] at hi;simp only[Z60,h] at hi;injection hi with hi;injection hi with _ _ hi _;omega
 .obtain⟨h1,h2,h3,_⟩:=key id _ hb
  obtain⟨h1',h2',h3',_⟩:=key id' _ Yb;have e1:=List.mem_singleton.1 hg;have e2:=List.mem_singleton.1 Z7;apply Yf;obtain⟨i1,i2⟩:=id;obtain⟨j1,j2⟩:=id';simp only at*;rw[h1,h1',show i2=j2 by omega]
 .simp only[phRho] at Zw
  split at Zw
  .rename_i h;simp only[phSt];omega
  .simp at Zw
 .obtain⟨h1,h2,h3,rfl⟩:=key id _ hb
  rw[List.mem_singleton.1 hg] at Z7;exact (Q9 _ Z7).2 h3
structure Yk (P:Program):Prop where
 mixed:P.follows .mixedOrders=true
 dst:∀(f:FuncId) (fn:Func) (c:Code),P.funcs[f]?=some fn->fn.body=some c->Kb fn.ntmps c=true
 name:∀(f:FuncId) (fn:Func),P.funcs[f]?=some fn->(fn.name == "runtime.NumGoroutine")=false
def Ylh:List Value->Value
 | [u]=>u
 | l=>.tuple l.toArray
theorem Z1l {fn:Func} {tmps:Array Value} {w:World} {us:List Value} (h:(fn.results.toList.mapM (Z3p tmps)).run P w=.ok us w):
  (results fn tmps).run P w=.ok (Ylh us) w:=by
 have e:results fn tmps=(fn.results.mapM (Z3p tmps)) >>=λvs=>pure (if h:vs.size=1 then vs[0] else .tuple vs):=by
  unfold results
  congr 1
 rw[e,Array.mapM_eq_mapM_toList];simp only[Sem.run_bind,Sem.run_map,h,Result.andThen_ok,Sem.run_pure]
 match us with
 | []=>rfl
 | [u]=>rfl
 | u::v::l=>rfl
theorem Yw6 {n m:Nat} (h:n<=m) {l:List Oper} (hl:Zme n l=true):Zme m l=true:=by
 unfold Zme at hl ⊢;rw[ZZk] at hl ⊢;intro o ho;have:=hl o ho;cases hd:o.dst with
 | none=>rfl
 | some d=>
  rw[hd] at this;simp only[ZZl] at this ⊢;exact Va9 this h
theorem Z45 {n m:Nat} (h:n<=m):∀(c:Code),Kb n c=true->Kb m c=true:=by
 intro c
 induction c with
 | region id ops d=>exact Yw6 h
 | seq a b iha ihb=>intro hc;simp only[Kb,ZZg] at hc ⊢;exact⟨iha hc.1,ihb hc.2⟩
 | cond x a b iha ihb=>intro hc;simp only[Kb,ZZg] at hc ⊢;exact⟨iha hc.1,ihb hc.2⟩
 | block i c ih=>intro hc;simp only[Kb] at hc ⊢;exact ih hc
 | loop c ih=>intro hc;simp only[Kb] at hc ⊢;exact ih hc
 | _=>intro _;rfl
theorem Ze1.okm {w:World} {ok ok' top:Nat->Prop} {v:List Value} {x:List V} {fp:List Nat} (h:Ze1 P w ok top v x fp) (ht:∀g,ok g->ok' g):Ze1 P w ok' top v x fp:=by
 induction h with
 | nil=>exact .nil
 | cons h _ ih=>exact .cons (h.okm ht) ih
theorem Ze1.length {w:World} {ok top:Nat->Prop} {us:List Value} {xs:List V} {fp:List Nat} (h:Ze1 P w ok top us xs fp):us.length=xs.length:=by
 induction h with
 | nil=>rfl
 | cons _ _ ih=>simp[ih]
theorem Zcd.notTup {w:World} {ok top:Nat->Prop} {u:Value} {x:V} {fp:List Nat} (h:Zcd P w ok top u x fp):∀rs,x≠.tup rs:=by
 rintro rs rfl;cases h
theorem Zp8.of {w:World} {ok top:Nat->Prop} {us:List Value} {ys:List V} {fp:List Nat} (h:Ze1 P w ok top us ys fp):Zp8 P w ok top (Ylh us) (Z7i ys) fp:=by
 cases h with
 | nil=>exact⟨#[],rfl,.nil⟩
 | @cons u x us xs f1 f2 h hs=>
  cases hs with
  | nil=>
   rw[Vb1];have:=h.notTup;cases x<;>first|exact h|exact absurd rfl (this _)
  | @cons v y us' xs' f3 f4 h2 hs2=>exact⟨(u::v::us').toArray,rfl,.cons h (.cons h2 hs2)⟩
end
def BkC (P:Program) (ρ:Rho) (u:Value) (x y:V):Prop:=∀id len,x=.sl id 0 len->∃g o c e rows,y=.own e rows/\ρ id=some (.blk g o c (P.cellsOf e))/\u=.slice (some ⟨g,o,none⟩) len c/\0 < len
def Bk (P:Program) (ρ:Rho) (m:Yh) (u:Value) (x y:V):Prop:=
 match m with
 | .io=>∀id,x=.ptr id 0 0->∃cs g,y=.agg cs/\ρ id=some (.blk g 0 1 cs.length)/\u=.pointer (some ⟨g,0,none⟩)
 | .iov=>(∃(us:Array Value) (xs ys:List V),thin x=.agg xs/\y=.agg ys/\u=.agg us/\us.size=xs.length/\ys.length=xs.length/\∀(j:Nat) (v:Value) (a b:V),us[j]?=some v->xs[j]?=some a->ys[j]?=some b->BkC P ρ v a b)\/((∀cs,thin x≠.agg cs)/\(∀cs,y≠.agg cs)/\BkC P ρ u (thin x) y)
 | _=>True
inductive BkL (P:Program) (ρ:Rho):List Yh->List Value->List V->List V->Prop
 | nil {ms:List Yh}:BkL P ρ ms [] [] []
 | cons {ms:List Yh} {u:Value} {us:List Value} {x y:V} {xs ys:List V} (h:Bk P ρ (ms.headD .rd) u x y) (hs:BkL P ρ ms.tail us xs ys):BkL P ρ ms (u::us) (x::xs) (y::ys)
def bkC:V->List Id
 | .sl id 0 _=>[id]
 | _=>[]
def bkT:V->List Id
 | .agg cs=>cs.flatMap bkC
 | x=>bkC x
def bkM (m:Yh) (x:V):List Id:=match m with
 | .io=>match x with|.ptr id 0 0=>[id]|_=>[]
 | .iov=>bkT (thin x)
 | _=>[]
def Zkg:List Yh->List V->List Id
 | _,[]=>[]
 | ms,x::r=>bkM (ms.headD .rd) x++Zkg ms.tail r
section
variable {P:Program} {B:Nat} {io:Nat->Prop} {w w':World} {tmps:Array Value} {s s' s1:St} {ρ ρ':Rho} {F F':Id->List Nat} {fl fl':List Nat} {ok ok' top:Nat->Prop}
theorem Ymc {t:Option TypeId} {x y:V} (h:s.giveCell t x=some (y,s')):(bkC x).Nodup/\∀id∈bkC x,s'.heap id=none/\∃b,s.heap id=some b:=by
 unfold bkC;split
 .rename_i id len
  refine⟨by simp,λid' Zw=>?_⟩;rw[List.mem_singleton.1 Zw];simp only[St.giveCell] at h;obtain⟨er,hw,he⟩:=ZZc.1 h;simp only[ZZe] at he;obtain⟨_,rfl⟩:=he;unfold St.whole at hw;obtain⟨b,hb,_⟩:=ZZb.1 hw;exact⟨Q7,b,hb⟩
 .exact⟨by simp,λid Zw=>by simp at Zw⟩
theorem Zpu {t:Option TypeId} {x y:V} (h:s.giveCell t x=some (y,s')):Wl s s':=by
 unfold St.giveCell at h;split at h
 .obtain⟨e,h1,he⟩:=ZZc.1 h
  simp only[ZZe] at he;rw[<-he.2];exact .refl _
 .simp only[ZZd,ZZe] at h;rw[<-h.2];exact .refl _
 .simp only[ZZd,ZZe] at h;rw[<-h.2];exact .refl _
 .simp only[ZZd,ZZe] at h;rw[<-h.2];exact .refl _
 .obtain⟨er,hw,he⟩:=ZZc.1 h
  simp only[ZZe] at he;rw[<-he.2];exact .kill _ _
 .cases h
theorem Yc3 {a b:List Id} {x z y:St} (ha:a.Nodup/\∀id∈a,z.heap id=none/\∃k,x.heap id=some k) (hb:b.Nodup/\∀id∈b,y.heap id=none/\∃k,z.heap id=some k) (h1:Wl x z) (h2:Wl z y):(a++b).Nodup/\∀id∈a++b,y.heap id=none/\∃k,x.heap id=some k:=by
 refine⟨Vap.2 ⟨ha.1,hb.1,λi hi j hj e=>?_⟩,λid Zw=>?_⟩
 .subst e
  obtain⟨k,hk⟩:=(hb.2 i hj).2;rw[(ha.2 i hi).1] at hk;cases hk
 .rcases Vat.1 Zw with h|h
  .exact⟨h2.none (ha.2 id h).1,(ha.2 id h).2⟩
  .obtain⟨k,hk⟩:=(hb.2 id h).2
   exact⟨(hb.2 id h).1,k,h1.sub id k hk⟩
theorem Z53:∀{xs:List V} {s s':St} {ts:List (Option TypeId)} {ys:List V},s.giveCells ts xs=some (ys,s')->((xs.flatMap bkC).Nodup/\∀id∈xs.flatMap bkC,s'.heap id=none/\∃b,s.heap id=some b)/\Wl s s':=by
 intro xs
 induction xs with
 | nil=>
  intro s s' ts ys h;simp only[St.giveCells,ZZd,ZZe] at h;rw[<-h.2];exact⟨⟨by simp,λid Zw=>by simp at Zw⟩,.refl _⟩
 | cons x xs ih=>
  intro s s' ts ys h;simp only[St.giveCells] at h;obtain⟨⟨y1,s1⟩,h1,h⟩:=ZZb.1 h;obtain⟨⟨y2,s2⟩,h2,h⟩:=ZZc.1 h;simp only[ZZe] at h;obtain⟨_,rfl⟩:=h;obtain⟨i1,l1⟩:=ih h2;rw[Vci];exact⟨Yc3 (Ymc h1) i1 (Zpu h1) l1,(Zpu h1).trans l1⟩
theorem Ynm {ts:List (Option TypeId)} {id:Id} {ys:List V} (h:s.giveBox ts id=some (ys,s')):(s'.heap id=none/\∃b,s.heap id=some b)/\Wl s s':=by
 unfold St.giveBox at h;obtain⟨b,hb,h⟩:=ZZb.1 h;split at h
 .split at h
  .have:=(Z53 h).2
   exact⟨⟨this.none Q7,b,hb⟩,(Wl.kill s id).trans this⟩
  .cases h
 .cases h
theorem Z6t {ts:List (Option TypeId)} {x y:V} (h:s.giveArg ts x=some (y,s')):((bkT x).Nodup/\∀id∈bkT x,s'.heap id=none/\∃b,s.heap id=some b)/\Wl s s':=by
 unfold St.giveArg at h;split at h
 .obtain⟨⟨ys,s2⟩,h1,he⟩:=ZZc.1 h
  simp only[ZZe] at he;obtain⟨_,rfl⟩:=he;exact Z53 h1
 .rename_i Yf
  refine⟨?_,Zpu h⟩;unfold bkT;split
  .rename_i cs;exact absurd rfl (Yf cs)
  .exact Ymc h
theorem Z3g:∀{xs:List V} {s s':St} {ts:List TypeId} {ms:List Yh} {ys:List V},s.gives P ts ms xs=some (ys,s')->((Zkg ms xs).Nodup/\∀id∈Zkg ms xs,s'.heap id=none/\∃b,s.heap id=some b)/\Wl s s':=by
 intro xs
 induction xs with
 | nil=>
  intro s s' ts ms ys h;simp only[St.gives,ZZd,ZZe] at h;rw[<-h.2];exact⟨⟨by simp[Zkg],λid Zw=>by simp[Zkg] at Zw⟩,.refl _⟩
 | cons x xs ih=>
  intro s s' ts ms ys h;simp only[St.gives] at h;obtain⟨⟨y1,s1⟩,h1,h⟩:=ZZb.1 h;obtain⟨⟨y2,s2⟩,h2,h⟩:=ZZc.1 h;simp only[ZZe] at h;obtain⟨_,rfl⟩:=h;obtain⟨i1,l1⟩:=ih h2;have one:((bkM (ms.headD .rd) x).Nodup/\∀id∈bkM (ms.headD .rd) x,s1.heap id=none/\∃b,s.heap id=some b)/\Wl s s1:=by
   unfold St.give at h1;unfold bkM;split at h1
   .rename_i hm
    rw[hm];simp only[ZZd,ZZe] at h1;rw[<-h1.2];exact⟨⟨by simp,λid Zw=>by simp at Zw⟩,.refl _⟩
   .rename_i hm
    rw[hm];split at h1
    .obtain⟨⟨cs,s4⟩,h3,he⟩:=ZZc.1 h1
     simp only[ZZe] at he;obtain⟨_,rfl⟩:=he;have:=Ynm h3;exact⟨⟨by simp,λid Zw=>by rw[List.mem_singleton.1 Zw];exact this.1⟩,this.2⟩
    .cases h1
   .rename_i hm
    rw[hm];exact⟨⟨by simp,λid Zw=>by simp at Zw⟩,(Z6t h1).2⟩
   .rename_i hm
    rw[hm];exact Z6t h1
  unfold Zkg;exact⟨Yc3 one.1 i1 one.2 l1,one.2.trans l1⟩
theorem Yyg (h:Rel P B io w tmps s ρ F fl) (hl:Wl s s1) {u:Value} {x y:V} {t:Option TypeId} (hu:En w (okS s ρ w) ρ u x) (hx:∀id,x≠.sl id 0 0) (hg:s1.giveCell t x=some (y,s')):BkC P ρ u x y:=by
 rintro id len rfl;simp only[St.giveCell] at hg;obtain⟨⟨e,rows⟩,hw,he⟩:=ZZc.1 hg;simp only[ZZe] at he;obtain⟨rfl,_⟩:=he;unfold St.whole at hw;obtain⟨b,hb,hw⟩:=ZZb.1 hw;split at hw
 .rename_i hc
  simp only[ZZd,ZZe] at hw;obtain⟨rfl,rfl⟩:=hw;have hB:=h.heap id b (hl.sub id b hb);cases hu with
  | sle=>exact absurd rfl (hx id)
  | @sl _ g o c sz _ _ hρ hcc=>
   have Yl:0 < len:=Vdt λe=>by subst e;exact hx id rfl
   rw[hρ] at hB;unfold Xg at hB;rw[hc.1,hc.2.1] at hB;rcases hB with⟨hi,_⟩|⟨g',o',c',cur,hi,_⟩
   .cases hi
   .cases hi
    exact⟨g,o,c,b.el,_,rfl,hρ,by simp,Yl⟩
 .cases hw
theorem Ynv (x:V):∀id,thin1 x≠.sl id 0 0:=λid e=>by
 unfold thin1 at e;split at e
 .cases e
 .rename_i Yf;subst e;exact Yf id 0 rfl
theorem Z5q:∀{xs:List V} {s s':St} {ts:List (Option TypeId)} {ys:List V},s.giveCells ts xs=some (ys,s')->ys.length=xs.length/\∀(j:Nat) (a b:V),xs[j]?=some a->ys[j]?=some b->∃s1 s2 t,Wl s s1/\s1.giveCell t a=some (b,s2):=by
 intro xs
 induction xs with
 | nil=>
  intro s s' ts ys h;simp only[St.giveCells,ZZd,ZZe] at h;rw[<-h.1];exact⟨rfl,λj a b ha=>by simp at ha⟩
 | cons x xs ih=>
  intro s s' ts ys h;simp only[St.giveCells] at h;obtain⟨⟨y1,s1⟩,h1,h⟩:=ZZb.1 h;obtain⟨⟨y2,s2⟩,h2,h⟩:=ZZc.1 h;simp only[ZZe] at h;obtain⟨rfl,rfl⟩:=h;obtain⟨i1,i2⟩:=ih h2;refine⟨by simp[i1],λj a b ha hb=>?_⟩;cases j with
  | zero=>
   have e1:x=a:=by simpa using ha
   have e2:y1=b:=by simpa using hb
   subst e1;subst e2;exact⟨s,s1,_,.refl _,h1⟩
  | succ j=>
   obtain⟨s3,s4,t,k1,k2⟩:=i2 j a b (by simpa using ha) (by simpa using hb);exact⟨s3,s4,t,(Zpu h1).trans k1,k2⟩
theorem Yzx (h:Rel P B io w tmps s ρ F fl):∀{xs:List V} {us:List Value} {s1 s':St} {ts:List TypeId} {ms:List Yh} {ys:List V},Wl s s1->us.length=xs.length->(∀(j:Nat) (u:Value) (x:V),us[j]?=some u->xs[j]?=some x->En w (okS s ρ w) ρ u x)->
  s1.gives P ts ms xs=some (ys,s')->BkL P ρ ms us xs ys:=by
 intro xs
 induction xs with
 | nil=>
  intro us s1 s' ts ms ys hl Yl Xh hg;have:us=[]:=Vas (by simpa using Yl);subst this;simp only[St.gives,ZZd,ZZe] at hg;rw[<-hg.1];exact .nil
 | cons x xs ih=>
  intro us s1 s' ts ms ys hl Yl Xh hg
  match us,Yl with
  | u::us,Yl=>
   have Qy:=Z3g hg;simp only[St.gives] at hg;obtain⟨⟨y,s2⟩,h1,hg⟩:=ZZb.1 hg;obtain⟨⟨zs,s3⟩,h2,hg⟩:=ZZc.1 hg;simp only[ZZe] at hg;obtain⟨rfl,rfl⟩:=hg;have hu:=Xh 0 u x rfl rfl;have hl2:Wl s1 s2:=by
    have:=(Z3g (P:=P) (xs:=[x]) (s:=s1) (s':=s2) (ts:=ts) (ms:=ms) (ys:=[y]) (by simp only[St.gives];rw[h1];rfl)).2;exact this
   refine .cons ?_ (ih (hl.trans hl2) (by simpa using Yl) (λj v z hv hz=>Xh (j+1) v z (by simpa using hv) (by simpa using hz)) h2);unfold St.give at h1;unfold Bk;split at h1
   .rename_i hm;rw[hm];exact trivial
   .rename_i hm
    rw[hm];rintro id rfl;simp only at h1;obtain⟨⟨cs,s4⟩,h3,he⟩:=ZZc.1 h1;simp only[ZZe] at he;obtain⟨rfl,rfl⟩:=he;unfold St.giveBox at h3;obtain⟨b,hb,h3⟩:=ZZb.1 h3;split at h3
    .rename_i hc
     split at h3
     .rename_i row hr
      have hB:=h.heap id b (hl.sub id b hb);unfold Xg at hB;rw[hc.1] at hB;obtain⟨_,g,cur,e,row',hi,hgc,Jx,hs,_⟩:=hB;rw[hr] at Jx;injection Jx with Jx _;subst Jx;generalize hq:V.ptr id 0 0=q at hu;cases hu<;>cases hq;rename_i g' o' c' sz hρ;rw[hi] at hρ;injection hρ with hρ;injection hρ with e1 e2 e3 e4;subst e1;subst e2;exact⟨cs,g,rfl,by rw[hi,(Z5q h3).1],by simp⟩
     .cases h3
    .cases h3
   .rename_i hm;rw[hm];exact trivial
   .rename_i hm
    rw[hm];have hut:=hu.thin;have Yf:∀cs,thin x=.agg cs->∀c∈cs,∀id,c≠.sl id 0 0:=λcs Kj c hc id=>by
     unfold thin at Kj;split at Kj
     .injection Kj with Kj
      subst Kj;obtain⟨z,_,rfl⟩:=Vbd.1 hc;exact Ynv z id
     .rename_i hna
      unfold thin1 at Kj;split at Kj
      .cases Kj
      .exact absurd Kj (hna cs)
    have hne1:(∀cs,thin x≠.agg cs)->∀id,thin x≠.sl id 0 0:=λhna id=>by
     unfold thin at hna ⊢;split
     .simp
     .exact Ynv x id
    generalize thin x=tx at h1 hut Yf hne1;unfold St.giveArg at h1;split at h1
    .rename_i cs
     obtain⟨⟨ys,s4⟩,h3,he⟩:=ZZc.1 h1;simp only[ZZe] at he;obtain⟨rfl,rfl⟩:=he;cases hut with
     | @agg vs _ Ws hcc hr=>
      obtain⟨g1,g2⟩:=Z5q h3;refine .inl ⟨vs,cs,ys,rfl,rfl,rfl,Ws,g1,λj v a b hv ha hb=>?_⟩;obtain⟨s5,s6,t,k1,k2⟩:=g2 j a b ha hb;exact Yyg h (hl.trans k1) (hr j v a hv ha) (Yf cs rfl a (Vag ha)) k2
    .rename_i hna
     refine .inr ⟨hna,λcs e=>?_,Yyg h hl hut (hne1 hna) h1⟩;subst e;unfold St.giveCell at h1;split at h1<;>simp at h1
end
section
variable {P:Program} {B:Nat} {io:Nat->Prop} {w w':World} {tmps:Array Value} {s s' s1:St} {ρ ρ':Rho} {F F':Id->List Nat} {fl fl':List Nat} {ok ok' top:Nat->Prop}
theorem Y3g {f1:List Nat} (h:K4 P B io w tmps s ρ F (f1++fl) ok) {id:Id} {len:Nat} {u:Value} {y:V} {e:TypeId} {rows rows':List (List V)} (hb:BkC P ρ u (.sl id 0 len) (.own e rows)) (hO:OwT P w e u rows' f1) (ht:∀g,f1.head?=some g->top g) (Wy:∀g,top g->io g\/B<=g) (hn:s.heap id=none):
  ∃F',Za6 P B io w tmps s ρ fl ok top (λid'=>id'=id) (s.setB id ⟨false,true,true,e,rows'⟩) ρ F':=by
 obtain⟨g,o,c,e',r,hy,hρ,hu,Yl⟩:=hb id len rfl;injection hy with hy _;subst hy;rcases hO with⟨A,rfl,rfl,rfl⟩|⟨g',o',c',cur,fp',hv,hg,hl,hm,Jc,hz,hOw,rfl⟩
 .injection hu with _ hu _;omega
 .rw[hu] at hv
  injection hv with hv hl2 hc;injection hv with hv;injection hv with e1 e2 _;subst e1;subst e2;subst hc;have Ym:id.1<=s.ep:=h.dom id (by rw[hρ];rfl);refine⟨_,h.add hn Ym (λ_ _ h=>h) (λ_ _=>rfl) (by rw[hρ];exact .mkRow rfl rfl rfl hg hl hm Jc hz rfl (λ_=>hOw) (λhf=>by cases hf)) (λ_ g' Z7=>Wy g' (ht g' Z7)),λ_ _ h=>h,λ_ h=>.inl h,rfl,rfl,λid' e=>Xl e,λg' Z7=>?_⟩;rcases Zza (λ_ _=>rfl) Z7 with h1|⟨_,o2,c2,z2,h1⟩
  .exact .inl h1
  .rw[hρ] at h1
   injection h1 with h1;injection h1 with h1;subst h1;exact .inr (ht _ rfl)
theorem Z7o:∀(xs:List V) {us:List Value} {ys ns:List V} {s s':St} {F:Id->List Nat} {fo fl:List Nat},K4 P B io w tmps s ρ F (fo++fl) ok->Ztf P w top us ys ns fo->us.length=xs.length->ys.length=xs.length->
  (∀(j:Nat) (v:Value) (a b:V),us[j]?=some v->xs[j]?=some a->ys[j]?=some b->BkC P ρ v a b)->(∀g,top g->io g\/B<=g)->(xs.flatMap bkC).Nodup->(∀id∈xs.flatMap bkC,s.heap id=none)->s.backCells xs ns=some s'->
  ∃F',Za6 P B io w tmps s ρ fl ok top (λid=>id∈xs.flatMap bkC) s' ρ F':=by
 intro xs
 induction xs with
 | nil=>
  intro us ys ns s s' F fo fl h ho hl hly _ _ _ _ hs;simp only[St.backCells,ZZd] at hs;subst hs;have:us=[]:=Vas (by simpa using hl);subst this;cases ho;exact⟨F,(Za6.refl h).mono (λ_ h=>h.elim)⟩
 | cons x xs ih=>
  intro us ys ns s s' F fo fl h ho hl hly hbk Wy hnd Zdd hs;rw[Vci] at hnd Zdd;have Yh2:=Vap.1 hnd;have rest:∀{u:Value} {us':List Value} {y:V} {ys':List V} {n:V} {ns':List V} {s2:St} {F2:Id->List Nat} {f2:List Nat},us=u::us'->ys=y::ys'->K4 P B io w tmps s2 ρ F2 (f2++fl) ok->Ztf P w top us' ys' ns' f2->(∀id∈xs.flatMap bkC,s2.heap id=none)->s2.backCells xs ns'=some s'->
    ∃F',Za6 P B io w tmps s2 ρ fl ok top (λid=>id∈xs.flatMap bkC) s' ρ F':=by
   intro u us' y ys' n ns' s2 F2 f2 e1 e2 h2 ho2 hn2 hs2;subst e1;subst e2;exact ih h2 ho2 (by simpa using hl) (by simpa using hly) (λj v a b hv ha hb=>hbk (j+1) v a b (by simpa using hv) (by simpa using ha) (by simpa using hb)) Wy Yh2.2.1 hn2 hs2
  have hnx:∀id∈xs.flatMap bkC,s.heap id=none:=λid Zw=>Zdd id (Vak _ Zw);cases ho with
  | nil=>simp at hl
  | @own u e rows rows' us' ys' ns' f1 f2 hO ht hs2=>
   rw[List.append_assoc] at h;unfold St.backCells at hs;split at hs
   .rename_i heq;cases heq
   .rename_i id len os1 e2 r2 ns2 Z16 Ycw
    injection Z16 with a1 a2;subst a1;subst a2;injection Ycw with b1 b2;injection b1 with b1 b3;subst b1;subst b3;subst b2;obtain⟨F1,t1⟩:=Y3g (fl:=f2++fl) (y:=.undef) h (hbk 0 u _ _ rfl rfl rfl) hO ht Wy (Zdd id (Vae _ (by simp[bkC])));obtain⟨F2,t2⟩:=rest (n:=.undef) rfl rfl t1.rel hs2 (λid' Zto=>by
     rw[t1.heap id' (λe=>by
      subst e;exact Yh2.2.2 _ (by simp[bkC]) _ Zto rfl)]
     exact hnx id' Zto) hs
    refine⟨F2,(t1.trans t2).mono (λid' Zto=>?_)⟩;rw[Vci];rcases Zto with rfl|Zto
    .exact Vae _ (by simp[bkC])
    .exact Vak _ Zto
   .rename_i Z16 Ycw
    injection Z16 with a1 a2;subst a1;subst a2;injection Ycw with b1 b2;subst b2;obtain⟨F2,t2⟩:=rest (n:=.undef) rfl rfl (h.less (Va4 _ _)) hs2 hnx hs;exact⟨F2,t2.mono (λid' Zto=>by rw[Vci];exact Vak _ Zto)⟩
   .cases hs
  | @skip u y us' ys' ns' f hx hs2=>
   unfold St.backCells at hs;split at hs
   .rename_i heq;cases heq
   .rename_i Z16 Ycw
    injection Ycw with b1 b2;cases b1
   .rename_i Z16 Ycw
    injection Z16 with a1 a2;subst a1;subst a2;injection Ycw with b1 b2;subst b2;obtain⟨F2,t2⟩:=rest (n:=.undef) rfl rfl h hs2 hnx hs;exact⟨F2,t2.mono (λid' Zto=>by rw[Vci];exact Vak _ Zto)⟩
   .cases hs
theorem Y2q {fo:List Nat} (h:K4 P B io w tmps s ρ F (fo++fl) ok) {m:Yh} {e k:Nat} {u:Value} {x y o:V} (hb:Bk P ρ m u x y) (ho:Z41 P w ok top m u y o fo) (Wy:∀g,top g->io g\/B<=g) (Ym:e<=s.ep) (Y3:∀j,64*k<=j->j < 64*k+64->ρ (e,j)=none/\s.heap (e,j)=none)
  (hnd:(bkM m x).Nodup) (Zdd:∀id∈bkM m x,s.heap id=none) (hs:s.back m e k x o=some s'):
  ∃ρ' F',Za6 P B io w tmps s ρ fl ok top (λid=>(id.1=e/\64*k<=id.2/\id.2 < 64*k+64)\/id∈bkM m x) s' ρ' F':=by
 unfold St.back at hs;split at hs
 .simp only[ZZd] at hs
  subst hs;have:fo=[]:=ho;subst this;exact⟨ρ,F,(Za6.refl h).mono (λ_ h=>h.elim)⟩
 .simp only[ZZd] at hs
  subst hs;have:fo=[]:=ho;subst this;exact⟨ρ,F,(Za6.refl h).mono (λ_ h=>h.elim)⟩
 .split at hs
  .rename_i id cs'
   split at hs
   .rename_i hl62
    obtain⟨⟨zs,s2⟩,h1,rfl⟩:=ZZc.1 hs;obtain⟨cs,g,rfl,hρ,hu⟩:=hb id rfl;obtain⟨cs0,cs1,e1,e2,Yl,g',cur,et,fp',hu',hgc,hgl,rfl,htg⟩:=ho;injection e1 with e1;injection e2 with e2;subst e1;subst e2;rw[hu] at hu';injection hu' with hu';injection hu' with hu';injection hu' with hu' _ _;subst hu';have Yv0:((fp'++([g]++fl)):List Nat).Perm (g::fp'++fl):=Vd3;obtain⟨ρ1,F1,t,l,c,en⟩:=Zxv cs' (fl:=[g]++fl) (h.perm Yv0) hgl Wy Ym (λj hj Z5=>Y3 j hj (by omega)) h1;have hidn:s.heap id=none:=Zdd id (by simp[bkM]);have hidJ:¬(id.1=e/\64*k<=id.2/\id.2 < 64*k+cs'.length):=λhh=>by
     have:=(Y3 id.2 hh.2.1 (by omega)).1;rw[<-hh.1] at this;rw[show (id.1,id.2)=id from rfl,hρ] at this;cases this
    have Zz:ρ1 id=some (.blk g 0 1 zs.length):=by
     rw[t.ext id _ hρ];have:zs.length=cs.length:=by rw[<-l,<-Yl];exact hgl.length
     rw[this]
    have Zsy:=t.rel.add (fp:=[g]) (fl:=fl) (id:=id) (ρ':=ρ1) (b:=⟨true,true,true,0,[zs]⟩) (by rw[t.heap _ hidJ];exact hidn) (by rw[t.ep];exact h.dom id (by rw[hρ];rfl)) (λ_ _ h=>h) (λ_ _=>rfl) (by
     rw[Zz];exact .mkBox rfl rfl rfl hgc rfl (by simpa using l) (λj v z hv hz=>en j v z (by simpa using hv) hz) c rfl) (λ_ g' Z7=>by
     have:g=g':=by simpa using Z7
     subst this;exact Wy g htg)
    refine⟨ρ1,_,⟨Zsy,t.ext,λid' hi=>?_,t.env,t.ep,λid' Zto=>?_,λg' Z7=>?_⟩⟩
    .rcases t.dom id' hi with hh|hh
     .exact .inl hh
     .exact .inr (.inl ⟨hh.1,hh.2.1,by omega⟩)
    .rw[Xl (λe=>Zto (.inr (by rw[e];simp[bkM])))]
     exact t.heap id' (λhh=>Zto (.inl ⟨hh.1,hh.2.1,by omega⟩))
    .rcases Zza (λ_ _=>rfl) Z7 with h3|⟨_,o2,c2,z2,h3⟩
     .exact t.tops g' h3
     .rw[Zz] at h3
      injection h3 with h3;injection h3 with h3;subst h3;exact .inr htg
   .cases hs
  .cases hs
 .unfold Bk at hb
  unfold Z41 at ho;unfold bkM at hnd Zdd ⊢;simp only at hb ho hnd Zdd ⊢;rcases hb with⟨us,xs,ys,ht,rfl,rfl,Ws,hyl,hbk⟩|⟨hnt,hny,hbk⟩
  .rw[ht] at hs hnd Zdd ⊢
   simp only[bkT] at hnd Zdd ⊢;rcases ho with⟨us',cs,ns,e1,e2,rfl,hO⟩|⟨Yf,_⟩
   .injection e1 with e1
    injection e2 with e2;subst e1;subst e2;simp only at hs;obtain⟨F',t⟩:=Z7o xs h hO (by simpa using Ws) hyl (λj v a b hv ha hb=>hbk j v a b (by simpa using hv) ha hb) Wy hnd Zdd hs;exact⟨ρ,F',t.mono (λid Zw=>.inr Zw)⟩
   .exact absurd rfl (Yf ys)
  .rcases ho with⟨us',cs,ns,e1,_⟩|⟨_,hO⟩
   .exact absurd e1 (hny cs)
   .generalize thin x=tx at hs hnd Zdd hnt hbk
    have hs':s.backCells [tx] [o]=some s':=by
     split at hs
     .rename_i cs ns;exact absurd rfl (hnt cs)
     .exact hs
    have Y00:([tx].flatMap bkC)=bkC tx:=by simp
    have hm:bkT tx=bkC tx:=by
     cases tx<;>first|rfl|exact absurd rfl (hnt _)
    rw[hm] at hnd Zdd;obtain⟨F',t⟩:=Z7o [tx] h hO rfl rfl (λj v a b hv ha hb=>by
     cases j with
     | zero=>
      have e1:u=v:=by simpa using hv
      have e2:tx=a:=by simpa using ha
      have e3:y=b:=by simpa using hb
      subst e1;subst e2;subst e3;exact hbk
     | succ j=>simp at hv) Wy (by rw[Y00];exact hnd) (by rw[Y00];exact Zdd) hs'
    exact⟨ρ,F',t.mono (λid Zw=>.inr (by rw[hm];rw[Y00] at Zw;exact Zw))⟩
theorem Yr8 {m:Yh} {u:Value} {x y:V} (hb:Bk P ρ m u x y) {w:World} (hu:En w ok ρ u x):∀id∈bkM m x,(ρ id).isSome=true:=by
 intro id Zw;unfold bkM at Zw;split at Zw
 .split at Zw
  .rename_i id'
   rw[List.mem_singleton.1 Zw];obtain⟨cs,g,_,hρ,_⟩:=hb id' rfl;rw[hρ];rfl
  .simp at Zw
 .have hut:=hu.thin
  have one:∀{v:Value} {c:V},En w ok ρ v c->id∈bkC c->(ρ id).isSome=true:=λ{v c} hv hc=>by
   unfold bkC at hc;split at hc
   .rw[List.mem_singleton.1 hc]
    cases hv with
    | sl h=>rw[h];rfl
    | sle h=>exact h
   .simp at hc
  unfold bkT at Zw;split at Zw
  .rename_i cs Kj
   rw[Kj] at hut;obtain⟨c,hc,Zw⟩:=Vcy.1 Zw;cases hut with
   | @agg vs _ hl _ hr=>
    obtain⟨j,hj⟩:=Va1 hc;have Z5:=(ZZh.1 hj).1;exact one (hr j _ c (Vaf (by omega)) hj) Zw
  .exact one hut Zw
 .simp at Zw
theorem Yz5 {e:Nat}:∀(xs:List V) {us:List Value} {ys os:List V} {ms:List Yh} {k:Nat} {s s':St} {ρ:Rho} {F:Id->List Nat} {fo fl:List Nat},K4 P B io w tmps s ρ F (fo++fl) ok->BkL P ρ ms us xs ys->Zhc P w ok top ms us ys os fo->
  (∀(j:Nat) (u:Value) (x:V),us[j]?=some u->xs[j]?=some x->∃w ok,En w ok ρ u x)->(∀g,top g->io g\/B<=g)->e<=s.ep->(∀j,64*k<=j->j < 64*(k+xs.length)->ρ (e,j)=none/\s.heap (e,j)=none)->
  (Zkg ms xs).Nodup->(∀id∈Zkg ms xs,s.heap id=none)->s.backs e ms k xs os=some s'->
  ∃ρ' F',Za6 P B io w tmps s ρ fl ok top (λid=>(id.1=e/\64*k<=id.2/\id.2 < 64*(k+xs.length))\/id∈Zkg ms xs) s' ρ' F':=by
 intro xs
 induction xs with
 | nil=>
  intro us ys os ms k s s' ρ F fo fl h hb ho Xh Wy Ym Y3 hnd Zdd hs;cases hb;cases ho;simp only[St.backs,ZZd] at hs;subst hs;exact⟨ρ,F,(Za6.refl h).mono (λ_ h=>h.elim)⟩
 | cons x xs ih=>
  intro us ys os ms k s s' ρ F fo fl h hb ho Xh Wy Ym Y3 hnd Zdd hs;simp only[Vaa] at Y3;cases hb with
  | @cons _ u us _ y _ ys hb hbs=>
   cases ho with
   | @cons _ _ _ _ o _ os f1 f2 ho hos=>
    simp only[St.backs] at hs;obtain⟨s1,h1,hs⟩:=ZZb.1 hs;unfold Zkg at hnd Zdd;have Yh2:=Vap.1 hnd;rw[List.append_assoc] at h;obtain⟨ρ1,F1,t1⟩:=Y2q h hb ho Wy Ym (λj hj Z5=>Y3 j hj (by omega)) Yh2.1 (λid Zw=>Zdd id (Vae _ Zw)) h1;have Zxi:∀id∈Zkg ms.tail xs,(ρ id).isSome=true:=by
     have key:∀{xs:List V} {ms:List Yh} {us:List Value} {ys:List V},BkL P ρ ms us xs ys->(∀(j:Nat) (u:Value) (x:V),us[j]?=some u->xs[j]?=some x->∃w ok,En w ok ρ u x)->∀id∈Zkg ms xs,(ρ id).isSome=true:=by
      intro xs ms us ys hb
      induction hb with
      | nil=>intro _ id Zw;simp[Zkg] at Zw
      | cons h _ ih=>
       intro Xh id Zw;unfold Zkg at Zw;rcases Vat.1 Zw with Zw|Zw
       .obtain⟨w',ok'',hu⟩:=Xh 0 _ _ rfl rfl
        exact Yr8 h hu id Zw
       .exact ih (λj u x hu hx=>Xh (j+1) u x (by simpa using hu) (by simpa using hx)) id Zw
     exact key hbs (λj u x hu hx=>Xh (j+1) u x (by simpa using hu) (by simpa using hx))
    have Y3r:∀id∈bkM (ms.headD .rd) x,(ρ id).isSome=true:=λid Zw=>by
     obtain⟨w',ok'',hu⟩:=Xh 0 _ _ rfl rfl;exact Yr8 hb hu id Zw
    have hnew2:∀j,64*(k+1)<=j->j < 64*(k+1+xs.length)->ρ1 (e,j)=none/\s1.heap (e,j)=none:=λj hj Z5=>by
     obtain⟨a1,a2⟩:=Y3 j (by omega) (by omega);have hnJ:¬((((e,j):Id).1=e/\64*k<=((e,j):Id).2/\((e,j):Id).2 < 64*k+64)\/(e,j)∈bkM (ms.headD .rd) x):=λhh=>by
      rcases hh with hh|hh
      .have:=hh.2.2;simp only at this;omega
      .have:=Y3r _ hh;rw[a1] at this;cases this
     refine⟨?_,by rw[t1.heap _ hnJ];exact a2⟩;cases hr:ρ1 (e,j) with
     | none=>rfl
     | some i=>
      rcases t1.dom (e,j) (by rw[hr];rfl) with hh|hh
      .rw[a1] at hh;cases hh
      .exact absurd hh hnJ
    have bkext:BkL P ρ1 ms.tail us xs ys:=by
     have ce:∀{v:Value} {a b:V},BkC P ρ v a b->BkC P ρ1 v a b:=λhb id len hx=>by
      obtain⟨g,o,c,e,rows,h1,h2,h3⟩:=hb id len hx;exact⟨g,o,c,e,rows,h1,t1.ext _ _ h2,h3⟩
     have one:∀{m:Yh} {u:Value} {x y:V},Bk P ρ m u x y->Bk P ρ1 m u x y:=λ{m u x y} hb=>by
      cases m
      .exact trivial
      .intro id hx
       obtain⟨cs,g,h1,h2,h3⟩:=hb id hx;exact⟨cs,g,h1,t1.ext _ _ h2,h3⟩
      .exact trivial
      .rcases hb with⟨us,xs,ys,h1,h2,h3,h4,h5,h6⟩|⟨h1,h2,h3⟩
       .exact .inl ⟨us,xs,ys,h1,h2,h3,h4,h5,λj v a b hv ha hb=>ce (h6 j v a b hv ha hb)⟩
       .exact .inr ⟨h1,h2,ce h3⟩
     have key:∀{xs:List V} {ms:List Yh} {us:List Value} {ys:List V},BkL P ρ ms us xs ys->BkL P ρ1 ms us xs ys:=by
      intro xs ms us ys hb
      induction hb with
      | nil=>exact .nil
      | cons h _ ih=>exact .cons (one h) ih
     exact key hbs
    obtain⟨ρ2,F2,t2⟩:=ih t1.rel bkext hos (λj u x hu hx=>by
     obtain⟨w',ok'',hu'⟩:=Xh (j+1) u x (by simpa using hu) (by simpa using hx);exact⟨w',ok'',hu'.ext (λ_ h=>h) t1.ext⟩) Wy (by rw[t1.ep];exact Ym) hnew2 Yh2.2.1 (λid Zw=>by
     rw[t1.heap id (λhh=>by
      rcases hh with hh|hh
      .have:=(Y3 id.2 hh.2.1 (by omega)).1
       rw[<-hh.1,show (id.1,id.2)=id from rfl] at this;have h2:=Zxi id Zw;rw[this] at h2;cases h2
      .exact Yh2.2.2 id hh id Zw rfl)]
     exact Zdd id (Vak _ Zw)) hs
    refine⟨ρ2,F2,(t1.trans t2).mono (λid Zw=>?_)⟩;rcases Zw with (Zw|Zw)|(Zw|Zw)
    .exact .inl ⟨Zw.1,Zw.2.1,by simp only[Vaa];omega⟩
    .exact .inr (by unfold Zkg;exact Vae _ Zw)
    .exact .inl ⟨Zw.1,by omega,by simp only[Vaa];omega⟩
    .exact .inr (by unfold Zkg;exact Vak _ Zw)
theorem Ytc {e:Nat}:∀(xs:List V) {us:List Value} {k:Nat} {fp fl:List Nat} {s s':St} {ρ:Rho} {F:Id->List Nat} {ys:List V},K4 P B io w tmps s ρ F (fp++fl) ok->Ze1 P w ok top us xs fp->(∀g,top g->io g\/B<=g)->e<=s.ep->
  (∀j,64*k<=j->j < 64*(k+xs.length)->ρ (e,j)=none/\s.heap (e,j)=none)->s.takeAll e k xs=some (ys,s')->
  ∃ρ' F',Za6 P B io w tmps s ρ fl ok top (λid=>id.1=e/\64*k<=id.2/\id.2 < 64*(k+xs.length)) s' ρ' F'/\us.length=ys.length/\(∀(j:Nat) (u:Value) (y:V),us[j]?=some u->ys[j]?=some y->En w ok ρ' u y):=by
 intro xs
 induction xs with
 | nil=>
  intro us k fp fl s s' ρ F ys h hg Wy Ym Y3 ht;cases hg;simp only[St.takeAll,ZZd,ZZe] at ht;obtain⟨rfl,rfl⟩:=ht;exact⟨ρ,F,(Za6.refl h).mono (λ_ h=>h.elim),rfl,λj u y hu=>by simp at hu⟩
 | cons x xs ih=>
  intro us k fp fl s s' ρ F ys h hg Wy Ym Y3 ht;simp only[Vaa] at Y3;cases hg with
  | @cons u _ us _ f1 f2 hg hgs=>
   simp only[St.takeAll] at ht;obtain⟨⟨y,s1⟩,h1,ht⟩:=ZZb.1 ht;obtain⟨⟨zs,s2⟩,h2,ht⟩:=ZZc.1 ht;simp only[ZZe] at ht;obtain⟨rfl,rfl⟩:=ht;simp only at h2;obtain⟨ρ1,F1,t1,e1⟩:=Z4j (fl:=f2++fl) (by rw[<-List.append_assoc];exact h) hg Wy Ym (λj hj Z5=>Y3 j hj (by omega)) h1;obtain⟨ρ2,F2,t2,l2,e2⟩:=ih t1.rel hgs Wy (by rw[t1.ep];exact Ym) (λj hj Z5=>by
    obtain⟨a1,a2⟩:=Y3 j (by omega) (by omega);have Yf:¬(((e,j):Id).1=e/\64*k<=((e,j):Id).2/\((e,j):Id).2 < 64*k+64):=λhh=>by have:=hh.2.2;simp only at this;omega
    refine⟨?_,by rw[t1.heap _ Yf];exact a2⟩;cases hr:ρ1 (e,j) with
    | none=>rfl
    | some i=>
     rcases t1.dom (e,j) (by rw[hr];rfl) with hh|hh
     .rw[a1] at hh;cases hh
     .exact absurd hh Yf) h2
   refine⟨ρ2,F2,(t1.trans t2).mono (λid Zw=>?_),by simp[l2],λj u' z hu hz=>?_⟩
   .rcases Zw with⟨a,b,c⟩|⟨a,b,c⟩
    .exact⟨a,b,by simp only[Vaa];omega⟩
    .exact⟨a,by omega,by simp only[Vaa];omega⟩
   .cases j with
    | zero=>
     have a1:u=u':=by simpa using hu
     have a2:y=z:=by simpa using hz
     subst a1;subst a2;exact e1.ext (λ_ h=>h) t2.ext
    | succ j=>exact e2 j u' z (by simpa using hu) (by simpa using hz)
theorem Yue {fp:List Nat} (h:K4 P B io w tmps s ρ F (fp++fl) ok) {u:Value} {x y:V} (hg:Zp8 P w ok top u x fp) (Wy:∀g,top g->io g\/B<=g) {e k:Nat} (Ym:e<=s.ep) (Y3:∀j,64*k<=j->j < 64*(k+8)->ρ (e,j)=none/\s.heap (e,j)=none) (ht:s.takeRes e k x=some (y,s')):
  ∃ρ' F',Za6 P B io w tmps s ρ fl ok top (λid=>id.1=e/\64*k<=id.2/\id.2 < 64*(k+8)) s' ρ' F'/\En w ok ρ' u y:=by
 unfold St.takeRes at ht;split at ht
 .rename_i vs
  split at ht
  .rename_i hl
   obtain⟨⟨ys,s1⟩,h1,he⟩:=ZZc.1 ht;simp only[ZZe] at he;obtain⟨rfl,rfl⟩:=he;obtain⟨us,rfl,hgl⟩:=hg;obtain⟨ρ',F',t,l,en⟩:=Ytc vs h hgl Wy Ym (λj hj Z5=>Y3 j hj (by omega)) h1;exact⟨ρ',F',t.mono (λid Zw=>⟨Zw.1,Zw.2.1,by omega⟩),.tup (by simpa using l) (λj v z hv hz=>en j v z (by simpa using hv) hz)⟩
  .cases ht
 .rename_i Yf
  have Z7:Zcd P w ok top u x fp:=by
   cases x<;>first|exact hg|exact absurd rfl (Yf _)
  obtain⟨ρ',F',t,en⟩:=Z4j h Z7 Wy Ym (λj hj Z5=>Y3 j hj (by omega)) ht;exact⟨ρ',F',t.mono (λid Zw=>⟨Zw.1,Zw.2.1,by omega⟩),en⟩
end
section
variable {P:Program} {M:Yp} {C:Qo}
theorem Yri:∀{xs:List V} {s s':St} {ts:List TypeId} {ms:List Yh} {ys:List V},s.gives P ts ms xs=some (ys,s')->Zmc ms xs=true->Zmc ms ys=true:=by
 intro xs
 induction xs with
 | nil=>
  intro s s' ts ms ys h _;simp only[St.gives,ZZd,ZZe] at h;rw[<-h.1];rfl
 | cons x xs ih=>
  intro s s' ts ms ys h hp;simp only[St.gives] at h;obtain⟨⟨y1,s1⟩,h1,h⟩:=ZZb.1 h;obtain⟨⟨y2,s2⟩,h2,h⟩:=ZZc.1 h;simp only[ZZe] at h;obtain⟨rfl,rfl⟩:=h;simp only[Zmc,ZZg] at hp ⊢;refine⟨?_,ih h2 hp.2⟩;unfold St.give at h1;unfold Ymm at hp ⊢;split at h1
  .rename_i hm
   rw[hm] at hp ⊢;simp only[ZZd,ZZe] at h1;rw[<-h1.1];exact hp.1
  all_goals (rename_i hm;rw[hm])
theorem Yl1 {w:World} {ok ok' top:Nat->Prop} {v:Value} {x:V} {fp:List Nat} (h:Giv P w ok top v x fp) (ht:isTr x=false):Giv P w ok' top v x fp:=by
 cases h with
 | lit h=>exact .lit h
 | tr h=>simp[isTr] at ht
 | own h k=>exact .own h k
theorem Yi6 {w:World} {ok ok' top:Nat->Prop} {v:List Value} {x:List V} {fp:List Nat} (h:Zkf P w ok top v x fp) (ht:x.any isTr=false):Zkf P w ok' top v x fp:=by
 induction h with
 | nil=>exact .nil
 | cons h _ ih=>
  simp only[Vcm,Vca] at ht;exact .cons (Yl1 h ht.1) (ih ht.2)
theorem Z46 {w:World} {ok ok' top:Nat->Prop} {v:Value} {x:V} {fp:List Nat} (h:Zcd P w ok top v x fp) (ht:Zjt x=false):Zcd P w ok' top v x fp:=by
 cases x
 case agg cs=>obtain⟨us,h1,h2⟩:=h;exact⟨us,h1,Yi6 h2 ht⟩
 case obx cs=>obtain⟨g,cur,e,fp',h1,h2,h3,h4,h5⟩:=h;exact⟨g,cur,e,fp',h1,h2,Yi6 h3 ht,h4,h5⟩
 all_goals exact Yl1 h ht
theorem Yul {w:World} {ok ok' top:Nat->Prop} {v:List Value} {x:List V} {fp:List Nat} (h:Ze1 P w ok top v x fp) (ht:x.any Zjt=false):Ze1 P w ok' top v x fp:=by
 induction h with
 | nil=>exact .nil
 | cons h _ ih=>
  simp only[Vcm,Vca] at ht;exact .cons (Z46 h ht.1) (ih ht.2)
theorem Yw8 {w:World} {ok ok' top:Nat->Prop} {v:Value} {x:V} {fp:List Nat} (h:Zp8 P w ok top v x fp) (ht:Z4y x=false):Zp8 P w ok' top v x fp:=by
 cases x
 case tup rs=>obtain⟨us,h1,h2⟩:=h;exact⟨us,h1,Yul h2 ht⟩
 all_goals (simp only[Zp8] at h ⊢;exact Z46 h ht)
theorem Yz8 {w:World} {ok ok' top:Nat->Prop} {m:Yh} {u:Value} {x o:V} {fp:List Nat} (h:Z41 P w ok top m u x o fp) (ht:(∀g,ok g->ok' g)\/Zjt o=false):Z41 P w ok' top m u x o fp:=by
 cases m
 .exact h
 .obtain⟨cs,cs',h1,rfl,h3,h4⟩:=h
  refine⟨cs,cs',h1,rfl,h3,?_⟩;rcases ht with ht|ht
  .exact h4.okm ht
  .exact Z46 h4 ht
 .exact h
 .exact h
theorem Ywq {w:World} {ok ok' top:Nat->Prop} {ms:List Yh} {us:List Value} {xs os:List V} {fp:List Nat} (h:Zhc P w ok top ms us xs os fp) (ht:(∀g,ok g->ok' g)\/os.any Zjt=false):Zhc P w ok' top ms us xs os fp:=by
 induction h with
 | nil=>exact .nil
 | cons h _ ih=>
  refine .cons (Yz8 h (ht.imp (λh=>h) (λh=>by simp only[Vcm,Vca] at h;exact h.1))) (ih (ht.imp (λh=>h) (λh=>by simp only[Vcm,Vca] at h;exact h.2)))
theorem Y0l {w:World} {ok ok' top:Nat->Prop} {v:Value} {x:V} {fp:List Nat} (h:Zp8 P w ok top v x fp) (ht:∀g,ok g->ok' g):Zp8 P w ok' top v x fp:=by
 cases x
 case tup rs=>obtain⟨us,h1,h2⟩:=h;exact⟨us,h1,h2.okm ht⟩
 all_goals (simp only[Zp8] at h ⊢;exact Zcd.okm h ht)
theorem Yzm {w:World} {ok top:Nat->Prop}:∀{ys:List V} {ms:List Yh} {us:List Value} {xs os:List V} {fp:List Nat} {s:St},s.rdAll ms ys=some xs->Zhc P w ok top ms us xs os fp->Zhc P w ok top ms us ys os fp:=by
 intro ys
 induction ys with
 | nil=>
  intro ms us xs os fp s hr h;simp only[St.rdAll,ZZd] at hr;subst hr;exact h
 | cons y ys ih=>
  intro ms us xs os fp s hr h;simp only[St.rdAll] at hr;obtain⟨z,h1,hr⟩:=ZZb.1 hr;obtain⟨zs,h2,rfl⟩:=ZZc.1 hr;cases h with
  | cons h hs=>
   refine .cons ?_ (ih h2 hs);unfold St.rdArgM at h1;cases hm:ms.headD .rd with
   | rd=>rw[hm] at h;exact h
   | io=>rw[hm] at h h1;simp only[ZZd] at h1;subst h1;exact h
   | mv=>rw[hm] at h;exact h
   | iov=>rw[hm] at h h1;simp only[ZZd] at h1;subst h1;exact h
theorem Yk2 (hP:Yk P) (hcon:∀(f:FuncId) (xs:List V) (r:V) (os:List V),C f xs=some (r,os)->(∃fn,P.funcs[f]?=some fn/\fn.body.isSome=true)/\Z3m P (M.modes f) f xs r os):Zfg P M C:=by
 intro B io w tmps s ρ F fl k v s' h Y3 g args us Ws Xh he;unfold Zos at he;split at he
 case isFalse=>cases he
 rename_i hl8;obtain⟨⟨ys,s1⟩,Ykq,he⟩:=ZZb.1 he;obtain⟨xs,hrd,he⟩:=ZZb.1 he;obtain⟨⟨r,os⟩,hc,he⟩:=ZZb.1 he;simp only at hrd he;split at he
 case isTrue=>cases he
 rename_i Y3s;obtain⟨s2,Ykr,Z8u⟩:=ZZb.1 he;obtain⟨⟨fn,hfn,hbody⟩,Yje⟩:=hcon g xs r os hc;have Z5g:∀(j:Nat) (u:Value) (x:V),us.toList[j]?=some u->args[j]?=some x->En w (okS s ρ w) ρ u x:=λj u x hu hx=>Xh j u x (by simpa using hu) hx;obtain⟨G,hR1,Yyt,Ku⟩:=Yzu h args (us:=us.toList) h (.refl _) (by simpa using Ws) Z5g Ykq;have hbk:=Yzx h (.refl _) (by simpa using Ws) Z5g Ykq;have Yks:=Z3g Ykq;refine⟨fn,hfn,hbody,hP.name g fn hfn,?_⟩;have hGn:=(Vap.1 hR1.flOnce).1;have hGlt:∀x∈G,x < w.heap.size:=λx hx=>hR1.flMine x (Vae _ hx)
 let T:Nat->Prop:=Zas s s1 ρ F
 have hTA:Anch w T:=⟨h.base0.anch.1,h.base0.anch.2.1,λx ⟨id,b,h1,h2,h3,h4,h5⟩=>h.base0.anch.2.2 x (h.top id b h1 h2 h5 x h4)⟩;have Yf4:∀x,T x->tops s ρ x:=λx ⟨id,b,h1,h2,h3,h4,_⟩=>h.head_tops h1 h2 h4;have Yyu:∀x,tops s1 ρ x->tops s ρ x:=λx ⟨id,b,o,c,sz,h1,h2,h3⟩=>⟨id,b,o,c,sz,Ku.sub id b h1,h2,h3⟩;have Z8h:∀id b,s1.heap id=some b->b.own=true->∀x∈F id,¬T x:=λid b hb ho x hx ⟨id2,b2,h1,h2,h3,h4,_⟩=>by
  have Yf:id≠id2:=λe=>by subst e;rw[hb] at h3;cases h3
  have hx2:x∈F id2:=by
   cases hf:F id2 with
   | nil=>rw[hf] at h4;simp at h4
   | cons y l=>
          rw[hf] at h4;have:y=x:=by simpa using h4
          subst this;exact Vab
  exact h.apart id id2 b b2 (Ku.sub id b hb) ho h1 h2 Yf x hx hx2
 have Y3p:∀x,tops s1 ρ x->¬T x/\x ∉ G:=λx ⟨id,b,o,c,sz,h1,h2,h3⟩=>by
  have hx:x∈F id:=by
   have:=hR1.heap id b h1;rw[h3] at this;exact this.top h2
  exact⟨Z8h id b h1 h2 x hx,λhg=>hR1.flApart id b h1 h2 x hx (Vae _ hg)⟩
 have behind:∀(X:Nat->Prop) (ok0:Nat->Prop),(∀x,okS s ρ w x->ok0 x)->(∀x,ok0 x->x < w.heap.size/\¬T x)->(Z4y r=false/\os.any Zjt=false\/(∀x,tops s1 ρ x->X x))->∀(val:Value) (w':World),Done P (M.modes g) w us xs G T X r os val w'->Stp P B io w tmps s ρ fl k v s' val w':=by
  intro X ok0 _ _ htrX val w' hd;obtain⟨Ze2,ok',top',fr,fo,Y1c,Yf5,hnd,Yh3,Y1d,Yol⟩:=hd;have Zuw:∀x,okS s ρ w x->w'.heap[x]?=w.heap[x]?:=λx hx=>Ze2.block x hx.2 (λht=>hx.1 (Yf4 x ht));have Y3t:∀id b,s1.heap id=some b->∀x∈F id,w'.heap[x]?=w.heap[x]?:=λid b hb x hx=>by
   refine Ze2.block x (hR1.F_lt hb x hx) ?_;cases ho:b.own with
   | true=>exact Z8h id b hb ho x hx
   | false=>
    have hB:=h.heap id b (Ku.sub id b hb);unfold Xg at hB;rw[ho] at hB;split at hB
    .cases hB.1
    .rename_i h2;cases h2
    .rw[hB.1] at hx;cases hx
  have hflk:∀x∈fl,x < w.heap.size:=λx hx=>h.flMine x hx
  let okc:Nat->Prop:=λx=>okS s ρ w x\/(ok' x/\¬tops s1 ρ x)
  have hRG:K4 P B io w' tmps s1 ρ F (fo++(fr++fl)) (λx=>okS s ρ w x\/(ok' x/\¬tops s1 ρ x)):=by
   refine⟨λt u hu=>?_,λt ht=>by rw[Ku.env];exact h.out t ht,λid b hb=>?_,λid b hb ho x hx=>Va9 (hR1.mine id b hb ho x hx) Ze2.size,λid b hb ho Zp9 x hx=>hR1.top id b hb ho Zp9 x hx,hR1.apart,hR1.once,λid Zw=>hR1.dom id Zw,h.base0.step Ze2.size (λk hk hio=>Ze2.block k (Va9 hk h.base) (λ⟨id,b,h1,h2,h3,h4,h5⟩=>by
    rcases h.top id b h1 h2 h5 k h4 with h6|h6
    .exact hio h6
    .omega)),λx hx=>?_,λid b hb ho x hx hx2=>?_,?_⟩
   .rw[Ku.env]
    exact ((h.env t u hu).world Zuw).ext (λx hx=>.inl hx) (λ_ _ h=>h)
   .exact ((h.heap id b (Ku.sub id b hb)).world Zuw (Y3t id b hb)).ext (λx hx=>.inl hx) (λ_ _ h=>h)
   .rcases Vat.1 hx with hx|hx
    .exact (Yh3 x (Vak _ hx)).1
    .rcases Vat.1 hx with hx|hx
     .exact (Yh3 x (Vae _ hx)).1
     .exact Va9 (hflk x hx) Ze2.size
   .have Z5:=hR1.mine id b hb ho x hx
    have nf:x ∉ fr++fo:=λhm=>by
     rcases (Yh3 x hm).2 with hG|hge
     .exact hR1.flApart id b hb ho x hx (Vae _ hG)
     .omega
    rcases Vat.1 hx2 with hx2|hx2
    .exact nf (Vak _ hx2)
    .rcases Vat.1 hx2 with hx2|hx2
     .exact nf (Vae _ hx2)
     .exact hR1.flApart id b hb ho x hx (Vak _ hx2)
   .have n1:((fr++fo)++fl).Nodup:=Vap.2 ⟨hnd,h.flOnce,λx hx y hy e=>by
     subst e;rcases (Yh3 x hx).2 with hG|hge
     .exact (Vap.1 hR1.flOnce).2.2 x hG x hy rfl
     .have:=hflk x hy;omega⟩
    have p1:(fo++(fr++fl)).Perm ((fr++fo)++fl):=by
     rw[<-List.append_assoc];exact Vd9 _ Vct
    exact p1.nodup_iff.2 n1
  have Yyv:∀x,top' x->io x\/B<=x:=λx hx=>by
   rcases Y1d x hx with⟨id,b,h1,h2,h3,h4,h5⟩|hge
   .exact h.top id b h1 h2 h5 x h4
   .have:=h.base;exact .inr (by omega)
  have Y1e:Z4y r=false/\os.any Zjt=false\/∀x,ok' x->(okS s ρ w x\/(ok' x/\¬tops s1 ρ x)):=by
   rcases htrX with h1|h1
   .exact .inl h1
   .exact .inr λx hx=>.inr ⟨hx,λht=>(Yol x hx).2.2 (h1 x ht)⟩
  have Y3u:Zhc P w' (λx=>okS s ρ w x\/(ok' x/\¬tops s1 ρ x)) top' (M.modes g) us.toList ys os fo:=
   Ywq (Yzm hrd Yf5) (Y1e.symm.imp (λh=>h) (λh=>h.2))
  have Y3v:Zp8 P w' (λx=>okS s ρ w x\/(ok' x/\¬tops s1 ρ x)) top' val r fr:=by
   rcases Y1e with h1|h1
   .exact Yw8 Y1c h1.1
   .exact Y0l Y1c h1
  have Y1f:∀id:Id,id.1=s.ep->id.2 / 1024=k->ρ id=none/\s1.heap id=none:=λid h1 h2=>by
   have hn:=Y3 id h1 h2;refine⟨hn,?_⟩;cases hb:s1.heap id with
   | none=>rfl
   | some b=>
    exfalso;have hB:=hR1.heap id b hb;rw[hn] at hB;unfold Xg at hB;split at hB
    .obtain⟨_,_,_,_,_,hi,_⟩:=hB;cases hi
    .rcases hB with⟨hi,_⟩|⟨_,_,_,_,hi,_⟩<;>cases hi
    .obtain⟨_,hB⟩:=hB
     rcases hB with⟨hi,_⟩|⟨_,_,_,_,hi,_⟩<;>cases hi
  obtain⟨ρ2,F2,t2⟩:=Yz5 (e:=s.ep) (k:=16*k+8) args hRG hbk Y3u (λj u x hu hx=>⟨w,okS s ρ w,Z5g j u x hu hx⟩) Yyv (by rw[Ku.ep];exact Vaw _) (λj hj Z5=>Y1f _ rfl (by simp only;omega)) Yks.1.1 (λid Zw=>(Yks.1.2 id Zw).1) Ykr;have hbkρ:∀id∈Zkg (M.modes g) args,∀j,64*(16*k)<=j->j < 64*(16*k+8)->id≠(s.ep,j):=λid Zw j hj Z5 e=>by
   subst e;obtain⟨b,hb⟩:=(Yks.1.2 _ Zw).2;have hB:=h.heap _ b hb;rw[Y3 (s.ep,j) rfl (by simp only;omega)] at hB;unfold Xg at hB;split at hB
   .obtain⟨_,_,_,_,_,hi,_⟩:=hB;cases hi
   .rcases hB with⟨hi,_⟩|⟨_,_,_,_,hi,_⟩<;>cases hi
   .obtain⟨_,hB⟩:=hB
    rcases hB with⟨hi,_⟩|⟨_,_,_,_,hi,_⟩<;>cases hi
  obtain⟨ρ3,F3,t3,en3⟩:=Yue (e:=s.ep) (k:=16*k) t2.rel Y3v Yyv (by rw[t2.ep,Ku.ep];exact Vaw _) (λj hj Z5=>by
   obtain⟨a1,a2⟩:=Y1f (s.ep,j) rfl (by simp only;omega);have hnJ:¬((((s.ep,j):Id).1=s.ep/\64*(16*k+8)<=((s.ep,j):Id).2/\((s.ep,j):Id).2 < 64*(16*k+8+args.length))\/(s.ep,j)∈Zkg (M.modes g) args):=λhh=>by
    rcases hh with hh|hh
    .have:=hh.2.1;simp only at this;omega
    .exact hbkρ _ hh j hj Z5 rfl
   refine⟨?_,by rw[t2.heap _ hnJ];exact a2⟩;cases hr:ρ2 (s.ep,j) with
   | none=>rfl
   | some i=>
    rcases t2.dom _ (by rw[hr];rfl) with hh|hh
    .rw[a1] at hh;cases hh
    .exact absurd hh hnJ) Z8u
  have Yv7:∀x,(okS s ρ w x\/(ok' x/\¬tops s1 ρ x))->okS s' ρ3 w' x:=λx hx=>by
   have Y1g:tops s' ρ3 x->tops s1 ρ x\/top' x:=λht=>by
    rcases t3.tops x ht with h1|h1
    .exact t2.tops x h1
    .exact .inr h1
   rcases hx with hx|hx
   .refine⟨λht=>?_,Va9 hx.2 Ze2.size⟩
    rcases Y1g ht with h1|h1
    .exact hx.1 (Yyu x h1)
    .rcases Y1d x h1 with h2|h2
     .exact hx.1 (Yf4 x h2)
     .have:=hx.2;omega
   .refine⟨λht=>?_,(Yol x hx.1).1⟩
    rcases Y1g ht with h1|h1
    .exact hx.2 h1
    .exact (Yol x hx.1).2.1 h1
  refine⟨by rw[t3.env,t2.env,Ku.env],by rw[t3.ep,t2.ep,Ku.ep],⟨Ze2.os,Ze2.tape,Ze2.output,Ze2.size,λx hx hio=>Ze2.block x (by have:=h.base;omega) (λ⟨id,b,h1,h2,h3,h4,h5⟩=>?_)⟩,ρ3,F3,t3.rel.toRel Yv7,en3.ext Yv7 (λ_ _ h=>h),λid i hi=>t3.ext id i (t2.ext id i hi),λid Zw=>?_⟩
  .rcases h.top id b h1 h2 h5 x h4 with h6|h6
   .exact hio h6
   .omega
  .rcases t3.dom id Zw with h1|h1
   .rcases t2.dom id h1 with h2|h2
    .exact .inl h2
    .rcases h2 with h2|h2
     .exact .inr ⟨h2.1,by omega⟩
     .left
      obtain⟨b,hb⟩:=(Yks.1.2 id h2).2;have hB:=h.heap id b hb;cases hr:ρ id with
      | some i=>rfl
      | none=>
       exfalso;rw[hr] at hB;unfold Xg at hB;split at hB
       .obtain⟨_,_,_,_,_,hi,_⟩:=hB;cases hi
       .rcases hB with⟨hi,_⟩|⟨_,_,_,_,hi,_⟩<;>cases hi
       .obtain⟨_,hB⟩:=hB
        rcases hB with⟨hi,_⟩|⟨_,_,_,_,hi,_⟩<;>cases hi
   .exact .inr ⟨h1.1,by omega⟩
 by_cases htr:Z4y r=false/\os.any Zjt=false
 .have Yv8:∀x,okS s ρ w x->x < w.heap.size/\¬T x/\¬False:=λx hx=>⟨hx.2,λht=>hx.1 (Yf4 x ht),λh=>h⟩
  refine (Yje w us G T (λ_=>False) (λx=>x < w.heap.size/\¬T x) hTA ?_ hGn (λx hx=>⟨hGlt x hx,λh=>h⟩) (λx hx=>⟨hx.1,hx.2,λh=>h⟩) (λx hx=>hx.elim)).mono (λe w' ⟨val,he,hd⟩=>⟨val,he,behind _ (λx=>x < w.heap.size/\¬T x) (λx hx=>⟨(Yv8 x hx).1,(Yv8 x hx).2.1⟩) (λx hx=>hx) (.inl htr) val w' hd⟩);refine Yl8 h Ku (λx hx=>⟨(Yv8 x hx).1,(Yv8 x hx).2.1⟩) Yyt (.inr λid b x o c sz hb ho hρ=>?_) hrd;have hx:x∈F id:=by
   have:=hR1.heap id b hb;rw[hρ] at this;exact this.top ho
  exact⟨hR1.mine id b hb ho x hx,Z8h id b hb ho x hx⟩
 .have hpl:Zmc (M.modes g) args=true:=by
   cases hp:Zmc (M.modes g) args with
   | true=>rfl
   | false=>
    exfalso;apply Y3s;rw[hp];cases h1:Z4y r<;>cases h2:os.any Zjt<;>simp;exact htr ⟨h1,h2⟩
  refine (Yje w us G T (tops s1 ρ) (okS s ρ w) hTA ?_ hGn (λx hx=>⟨hGlt x hx,λht=>(Y3p x ht).2 hx⟩) (λx hx=>⟨hx.2,λht=>hx.1 (Yf4 x ht),λht=>hx.1 (Yyu x ht)⟩) (λx hx=>?_)).mono (λe w' ⟨val,he,hd⟩=>⟨val,he,behind _ (okS s ρ w) (λx hx=>hx) (λx hx=>⟨hx.2,λht=>hx.1 (Yf4 x ht)⟩) (.inr λx hx=>hx) val w' hd⟩)
  .exact Yl8 h Ku (λx hx=>hx) Yyt (.inl (Yri Ykq hpl)) hrd
  .obtain⟨id,b,o,c,sz,h1,h2,h3⟩:=hx
   have hB:=hR1.heap id b h1;rw[h3] at hB;unfold Xg at hB;split at hB
   .obtain⟨_,g',cur,e,row,hi,hg,_⟩:=hB
    cases hi;exact⟨cur,e,hg⟩
   .rcases hB with⟨hi,_⟩|⟨g',o',c',cur,hi,hg,_⟩
    .cases hi
    .cases hi;exact⟨cur,_,hg⟩
   .rename_i hh;rw[h2] at hh;cases hh
end
end Go.Proofs.YtagdmghmblplbaaGreat.Ev
namespace Go.Proofs.YtagdmghmblplbaaGreat.Ev
open Go
variable [Anchor]
def Z49 (op:BinOp) (k k':IntKind) (a b:Int):Option V:=
 match op with
 | .shl=>if b < 0 then none else some (.lit (.int k (k.wrap (a*2^min b.toNat k.bits))))
 | .shr=>if b < 0 then none else some (.lit (.int k (a.fdiv (2^min b.toNat k.bits))))
 | op=>if k=k' then match op with
  | .add=>some (.lit (.int k (k.wrap (a+b))))
  | .sub=>some (.lit (.int k (k.wrap (a - b))))
  | .mul=>some (.lit (.int k (k.wrap (a*b))))
  | .quo=>if b=0 then none else some (.lit (.int k (k.wrap (a.tdiv b))))
  | .rem=>if b=0 then none else some (.lit (.int k (a.tmod b)))
  | .and=>some (.lit (.int k (k.wrap ((BitVec.ofInt k.bits a &&& BitVec.ofInt k.bits b).toNat))))
  | .or=>some (.lit (.int k (k.wrap ((BitVec.ofInt k.bits a ||| BitVec.ofInt k.bits b).toNat))))
  | .xor=>some (.lit (.int k (k.wrap ((BitVec.ofInt k.bits a ^^^ BitVec.ofInt k.bits b).toNat))))
  | .andNot=>some (.lit (.int k (k.wrap ((BitVec.ofInt k.bits a &&& ~~~BitVec.ofInt k.bits b).toNat))))
  | .eql=>some (.lit (.bool (decide (a=b))))
  | .neq=>some (.lit (.bool (decide (a≠b))))
  | .lss=>some (.lit (.bool (decide (a < b))))
  | .leq=>some (.lit (.bool (decide (a<=b))))
  | .gtr=>some (.lit (.bool (decide (a > b))))
  | .geq=>some (.lit (.bool (decide (a≥b))))
  | _=>none
  else none
def binS (op:BinOp) (a b:ByteArray):Option V:=
 match op with
 | .add=>if ((a.size+b.size:Nat):Int) > IntKind.i64.max then none else some (.lit (.string (a++b)))
 | .eql=>some (.lit (.bool (a.toList == b.toList)))
 | .neq=>some (.lit (.bool (!(a.toList == b.toList))))
 | .lss=>some (.lit (.bool (Go.Op.bytesLess a.toList b.toList)))
 | .leq=>some (.lit (.bool (Go.Op.bytesLess a.toList b.toList||a.toList == b.toList)))
 | .gtr=>some (.lit (.bool (!(Go.Op.bytesLess a.toList b.toList||a.toList == b.toList))))
 | .geq=>some (.lit (.bool (!(Go.Op.bytesLess a.toList b.toList))))
 | _=>none
section
variable {P:Program} {v:Operand->V}
theorem Xe {α β:Type} (x:Sem α) (f:α->Sem β):eval? P (x >>= f)=(eval? P x).bind λa=>eval? P (f a):=by
 induction x with
 | pure a=>rfl
 | program k ih=>exact ih P
 | _=>rfl
theorem Zx0 {α β:Type} (x:Sem α) (f:α->β):eval? P (f <$> x)=(eval? P x).map f:=by
 induction x with
 | pure a=>rfl
 | program k ih=>exact ih P
 | _=>rfl
def Zke (P:Program) (op:BinOp) (t:TypeId) (x y:Operand) (X Y:V):Option V:=
 if (Xu X).isSome&&(Xu Y).isSome then (eval? P (do eqGuard op t x y ((Xu X).getD undef) ((Xu Y).getD undef);binOp op t ((Xu X).getD undef) ((Xu Y).getD undef))).bind Zk3 else none
theorem Ynb {x:Sem Value}:(match eval? P (Next.value <$> x) with|some (.value v)=>Zk3 v|_=>none)=(eval? P x).bind Zk3:=by
 rw[Zx0];cases eval? P x<;>rfl
theorem Ykx {d:Option Tmp} {op:BinOp} {t yt ty:TypeId} {x y:Operand} {p:String} {af:Array Edge} {g:Option (Nat×Bool)}:Xd P v ⟨d,.binOp op t x y yt,ty,p,af,g⟩=Zke P op t x y (v x) (v y):=by
 unfold Xd Zke;rw[<-Ynb];simp only[Zj9,Op.operands,Vbx,Va6,Vdl,Vch];rfl
theorem Yqx {op:BinOp} {t:TypeId} {x y:Operand} {k k':IntKind} {a b:Int}:eqGuard op t x y (.int k a) (.int k' b)=pure ():=by
 unfold eqGuard;cases op<;>rfl
theorem Yq8 {op:BinOp} {t:TypeId} {x y:Operand} {a b:ByteArray}:eqGuard op t x y (.string a) (.string b)=pure ():=by
 unfold eqGuard;cases op<;>rfl
theorem Z7r {op:BinOp} {t:TypeId} {x y:Operand} {a b:Bool}:eqGuard op t x y (.bool a) (.bool b)=pure ():=by
 unfold eqGuard;cases op<;>rfl
theorem Ylf {op:BinOp} {t:TypeId} {x y:Operand} {k k':IntKind} {a b:Int}:Zke P op t x y (.lit (.int k a)) (.lit (.int k' b))=Z49 op k k' a b:=by
 have e:Zke P op t x y (.lit (.int k a)) (.lit (.int k' b))=(eval? P (binOp op t (.int k a) (.int k' b))).bind Zk3:=by
  simp only[Zke,Xu,Vcf,Vcc,if_true,Va0,Yqx];rfl
 rw[e];unfold binOp;by_cases hk:k=k'
 .subst hk
  cases op<;>simp only[ne_eq,not_true,if_false,if_true,Z49]<;>first|rfl|skip
  .unfold Go.Op.intDiv;by_cases hb:b=0<;>simp only[hb,if_true,if_false]<;>rfl
  .unfold Go.Op.intDiv;by_cases hb:b=0<;>simp only[hb,if_true,if_false]<;>rfl
  .unfold Go.Op.shift;by_cases hb:b < 0<;>simp only[hb,if_true,if_false]<;>rfl
  .unfold Go.Op.shift;by_cases hb:b < 0<;>simp only[hb,if_true,if_false]<;>rfl
  .simp only[Go.Op.intCmp,bne];exact congrArg (λc=>some (V.lit (.bool c))) (by by_cases h:a=b<;>simp[h])
 .cases op<;>simp only[ne_eq,hk,not_false_eq_true,if_true,if_false,Z49]<;>first|rfl|skip
  .unfold Go.Op.shift;by_cases hb:b < 0<;>simp only[hb,if_true,if_false]<;>rfl
  .unfold Go.Op.shift;by_cases hb:b < 0<;>simp only[hb,if_true,if_false]<;>rfl
theorem Ym3 {op:BinOp} {t:TypeId} {x y:Operand} {a b:ByteArray}:Zke P op t x y (.lit (.string a)) (.lit (.string b))=binS op a b:=by
 have e:Zke P op t x y (.lit (.string a)) (.lit (.string b))=(eval? P (binOp op t (.string a) (.string b))).bind Zk3:=by
  simp only[Zke,Xu,Vcf,Vcc,if_true,Va0,Yq8];rfl
 rw[e];unfold binOp;cases op<;>simp only[binS]<;>first|rfl|skip
 unfold Go.Op.stringOp;simp only[];by_cases hb:((a.size+b.size:Nat):Int) > IntKind.i64.max<;>simp only[hb,if_true,if_false]<;>rfl
theorem Ydm {t:TypeId} {a b:Bool} (ht:P.underlying t=some .bool):eval? P (Go.Op.equal t (.bool a) (.bool b))=some (a == b):=by
 have hu:eval? P (underlying t)=some .bool:=by
  unfold underlying;rw[Xe];show eval? P (match P.underlying t with|some d=>pure d|none=>stuck "no such type" : Sem TypeDesc)=some .bool;rw[ht];rfl
 show eval? P (Go.Op.equalIn (9999+1) t (.bool a) (.bool b))=_;unfold Go.Op.equalIn;rw[Xe,hu];rfl
theorem Ylq {t:TypeId} {x y:Operand} {a b:Bool} (ht:P.underlying t=some .bool):Zke P .eql t x y (.lit (.bool a)) (.lit (.bool b))=some (.lit (.bool (a == b))):=by
 simp only[Zke,Xu,Vcf,Vcc,if_true,Va0,Z7r];have e:(pure () >>=λ_=>binOp .eql t (.bool a) (.bool b):Sem Value)=((λb=>Value.bool b) <$> Go.Op.equal t (.bool a) (.bool b)):=rfl;rw[e,Zx0,Ydm ht];rfl
theorem Ylj {t:TypeId} {x y:Operand} {a b:Bool} (ht:P.underlying t=some .bool):Zke P .neq t x y (.lit (.bool a)) (.lit (.bool b))=some (.lit (.bool (a != b))):=by
 simp only[Zke,Xu,Vcf,Vcc,if_true,Va0,Z7r];have e:(pure () >>=λ_=>binOp .neq t (.bool a) (.bool b):Sem Value)=((λb=>Value.bool (!b)) <$> Go.Op.equal t (.bool a) (.bool b)):=rfl;rw[e,Zx0,Ydm ht];rfl
end
def sidx (b:ByteArray) (i:V):Option Int:=(Xq i).bind λn=>(b[n]?).map λc=>(c.toNat:Int)
def ssl (b:ByteArray) (lo hi:Option V):Option ByteArray:=
 (match hi with|some v=>Xq v|none=>some b.size).bind λh=>(match lo with|some v=>Xq v|none=>some 0).bind λl=>if l<=h/\h<=b.size then some (b.extract l h) else none
def strV (rows:List (List V)):Option ByteArray:=(Z2a rows).map λbs=>⟨bs.toArray⟩
section
variable {P:Program} {v:Operand->V} {d:Option Tmp} {t ty:TypeId} {x ix:Operand} {p:String} {af:Array Edge} {g:Option (Nat×Bool)} {b:ByteArray}
theorem Yco {t:TypeId} {d:TypeDesc} (ht:P.underlying t=some d):eval? P (underlying t)=some d:=by
 unfold underlying;rw[Xe];show eval? P (match P.underlying t with|some d=>pure d|none=>stuck "no such type" : Sem TypeDesc)=some d;rw[ht];rfl
theorem Zvb {x:V} {n:Nat} (h:Xq x=some n):∃k i,x=.lit (.int k i)/\0<=i/\n=i.toNat:=by
 unfold Xq at h;split at h
 .rename_i k i
  split at h
  .rename_i h0;injection h with h;exact⟨k,i,rfl,h0,h.symm⟩
  .cases h
 .cases h
theorem Y0g {m:Int} (ht:P.underlying t=some .string) (hx:v x=.lit (.string b)) (h:sidx b (v ix)=some m):Xd P v ⟨d,.index t x ix,ty,p,af,g⟩=some (.lit (.int .u8 m)):=by
 unfold sidx at h;obtain⟨n,hn,h⟩:=ZZb.1 h;obtain⟨c,hc,rfl⟩:=ZZc.1 h;obtain⟨k,i,hi,h0,rfl⟩:=Zvb hn;have key:Xd P v ⟨d,.index t x ix,ty,p,af,g⟩=if (Xu (v x)).isSome&&(Xu (v ix)).isSome then (eval? P (Instr.index t ((Xu (v x)).getD undef) ((Xu (v ix)).getD undef))).bind Zk3 else none:=by
  unfold Xd;rw[<-Ynb];simp only[Zj9,Op.operands,Vbx,Va6,Vdl,Vch];rfl
 rw[key,hx,hi];show (eval? P (Instr.index t (.string b) (.int k i))).bind Zk3=_;have e:eval? P (Instr.index t (.string b) (.int k i))=some (.int .u8 c.toNat):=by
  unfold Instr.index;rw[Xe];show eval? P (underlying t >>= _)=_;rw[Xe,Yco ht,ZZa];show eval? P (match (if 0<=i then b[i.toNat]? else none:Option UInt8) with|some b=>(pure (Value.int .u8 b.toNat):Sem Value)|none=>boundsPanic k i b.size .index)=_;rw[ZZj h0,hc];rfl
 rw[e];rfl
theorem Z39 {k:IntKind} {i:Int} {y:Nat} {code:BoundsCode} (h0:0<=i) (h:i.toNat<=y):eval? P (Instr.sliceBound (.int k i) y code)=some i.toNat:=by
 unfold Instr.sliceBound;rw[Xe];show eval? P (if 0<=i/\i<=y then pure i.toNat else boundsPanic k i y code)=_;rw[ZZj ⟨h0,by omega⟩];rfl
theorem Yp8 {n l h:Nat} {lo hi:Option V} (hh:(match hi with|some v=>Xq v|none=>some n)=some h) (hl:(match lo with|some v=>Xq v|none=>some 0)=some l) (h1:l<=h) (h2:h<=n):
  eval? P (Instr.sliceBounds false n n (lo.map λv=>(Xu v).getD undef) (hi.map λv=>(Xu v).getD undef) none)=some (l,h,n):=by
 have pu:∀{α:Type} (a:α),eval? P (pure a:Sem α)=some a:=λ_=>rfl;unfold Instr.sliceBounds;cases hi with
 | none=>
  simp only[ZZd] at hh;subst hh;cases lo with
  | none=>
   simp only[ZZd] at hl;subst hl;simp only[Vc1,Xe,pu,ZZa]
  | some u=>
   obtain⟨k,i,rfl,h0,rfl⟩:=Zvb hl;have e2:=λc=>Z39 (P:=P) (k:=k) (code:=c) h0 h1;simp only[Vc1,Var,Xu,Va0,Xe,pu,ZZa,e2]
 | some z=>
  obtain⟨k',i',rfl,h0',rfl⟩:=Zvb hh;have e1:=λc=>Z39 (P:=P) (k:=k') (code:=c) h0' h2;cases lo with
  | none=>
   simp only[ZZd] at hl;subst hl;simp only[Vc1,Var,Xu,Va0,Xe,pu,ZZa,e1]
  | some u=>
   obtain⟨k,i,rfl,h0,rfl⟩:=Zvb hl;have e2:=λc=>Z39 (P:=P) (k:=k) (code:=c) h0 h1;simp only[Vc1,Var,Xu,Va0,Xe,pu,ZZa,e1,e2]
theorem Ywj {lo hi:Option Operand} {c:ByteArray} (ht:P.underlying t=some .string) (hx:v x=.lit (.string b)) (h:ssl b (lo.map v) (hi.map v)=some c):Xd P v ⟨d,.slice t x lo hi none,ty,p,af,g⟩=some (.lit (.string c)):=by
 unfold ssl at h;obtain⟨h',hh,h⟩:=ZZb.1 h;obtain⟨l,hl,h⟩:=ZZb.1 h;split at h
 case isFalse=>cases h
 rename_i h1;injection h with h;subst h;have okL:∀{z:Operand} {m:Nat},Xq (v z)=some m->(Xu (v z)).isSome=true:=λ{z m} ho=>by
  obtain⟨k,i,e,_⟩:=Zvb ho;rw[e];rfl
 have key:Xd P v ⟨d,.slice t x lo hi none,ty,p,af,g⟩=(eval? P (Instr.sliceAt t ((Xu (v x)).getD undef) (lo.map λy=>(Xu (v y)).getD undef) (hi.map λy=>(Xu (v y)).getD undef) none)).bind Zk3:=by
  unfold Xd;rw[<-Ynb];rw[ZZj (by
   simp only[Zj9,Vbx,ZZk];intro y hy;cases lo with
   | none=>cases hi with
    | none=>
     have:y=x:=by simpa [Op.operands] using hy
     subst this;rw[hx];rfl
    | some z=>
     have:y=x\/y=z:=by simpa [Op.operands] using hy
     rcases this with e|e
     .subst e;rw[hx];rfl
     .subst e;exact okL (m:=h') hh
   | some u=>cases hi with
    | none=>
     have:y=x\/y=u:=by simpa [Op.operands] using hy
     rcases this with e|e
     .subst e;rw[hx];rfl
     .subst e;exact okL (m:=l) hl
    | some z=>
     have:y=x\/y=u\/y=z:=by simpa [Op.operands] using hy
     rcases this with e|e|e
     .subst e;rw[hx];rfl
     .subst e;exact okL (m:=l) hl
     .subst e;exact okL (m:=h') hh)]
  rfl
 rw[key,hx];have em:∀o:Option Operand,(o.map λy=>(Xu (v y)).getD undef)=(o.map v).map λz=>(Xu z).getD undef:=λo=>by cases o<;>rfl
 rw[em,em];have e:eval? P (Instr.sliceAt t (.string b) ((lo.map v).map λz=>(Xu z).getD undef) ((hi.map v).map λz=>(Xu z).getD undef) none)=some (.string (b.extract l h')):=by
  unfold Instr.sliceAt;rw[Xe,Yco ht];show eval? P (Instr.slice t (.string b) _ _ none)=_;unfold Instr.slice;rw[Xe,Yco ht];show eval? P (Instr.sliceBounds false b.size b.size _ _ none >>= _)=_;rw[Xe,Yp8 hh hl h1.1 h1.2];rfl
 show (eval? P (Instr.sliceAt t (.string b) _ _ none)).bind Zk3=_;rw[e];rfl
end
end Go.Proofs.YtagdmghmblplbaaGreat.Ev
namespace Go.Proofs.YtagdmghmblplbaaGreat.Ev
open Go Go.RowKit Go.ChangeShapes Go.WideShapes
section
variable {H:Type} {enc:TypeId×Value->H} {P:Program} {w:World}
def okW (w:World) (g:Nat):Prop:=g < w.heap.size
def RdC (w:World) (cs:List Value) (xs:List V):Prop:=cs.length=xs.length/\∀(k:Nat) (v:Value) (x:V),cs[k]?=some v->xs[k]?=some x->Rd w (okW w) v x
theorem RdC.one {v:Value} {x:V} (h:Rd w (okW w) v x):RdC w [v] [x]:=by
 refine⟨rfl,λk u y h1 h2=>?_⟩;cases k with
 | zero=>simp at h1 h2;subst h1;subst h2;exact h
 | succ k=>simp at h1
theorem RdC.append {cs ds:List Value} {xs ys:List V} (h:RdC w cs xs) (k:RdC w ds ys):RdC w (cs++ds) (xs++ys):=by
 refine⟨by rw[Vbb,Vbb,h.1,k.1],λi v x h1 h2=>?_⟩;rcases Vb5 i cs.length with hi|hi
 .rw[Vaj hi] at h1
  rw[Vaj (by rw[<-h.1];exact hi)] at h2;exact h.2 i v x h1 h2
 .rw[Vah hi] at h1
  rw[Vah (by rw[<-h.1];exact hi),<-h.1] at h2;exact k.2 _ v x h1 h2
def OpV {α:Type} (enc:TypeId×Value->H) (P:Program) (w:World) (t:TypeId) (e:α->List V) (Q:α->Prop):Prop:=
 ∀(fuel:Nat) (cs:List Value) (x:DataW H×List MemPlace),DataW.trod enc P w 0 (λ_=>true) true fuel t cs=some x->∃a,RdC w cs (e a)/\Q a
theorem Zfe {t:TypeId} {k:IntKind} (ht:P.underlying t=some (.int k)):OpV enc P w t (λn:Int=>[.lit (.int k n)]) (λn=>(Lit.int k n).wf=true):=by
 intro fuel cs x h;obtain⟨n,rfl,_,hw⟩:=DataW.trod_int ht h;exact⟨n,.one (.lit rfl),hw⟩
theorem Ybr {t:TypeId} (ht:P.underlying t=some .bool):OpV enc P w t (λb:Bool=>[.lit (.bool b)]) (λ_=>True):=by
 intro fuel cs x h;obtain⟨n,rfl,_⟩:=DataW.trod_bool ht h;exact⟨n,.one (.lit rfl),trivial⟩
theorem Ygk {α β:Type} {t:TypeId} {e:α->List V} {e':β->List V} {Q:α->Prop} {Q':β->Prop} (h:OpV enc P w t e Q) (f:α->β) (he:∀a,Q a->e' (f a)=e a) (hq:∀a,Q a->Q' (f a)):OpV enc P w t e' Q':=by
 intro fuel cs x hx;obtain⟨a,h1,h2⟩:=h fuel cs x hx;exact⟨f a,by rw[he a h2];exact h1,hq a h2⟩
theorem Z6x {α:Type} {t el:TypeId} {e:α->List V} {Q:α->Prop} (ht:P.underlying t=some (.slice el)) (hs:∀a,(e a).length=P.cellsOf el) (hz:P.cellsOf el≠0) (he:OpV enc P w el e Q):
  OpV enc P w t (λxs:List α=>[.tr (xs.map e)]) (λxs=>xs.length<=maxLen/\∀x∈xs,Q x):=by
 intro fuel cs x h;rcases DataW.trod_slice ht h with⟨rfl,_⟩|⟨a,len,cap,elems,rest,n,_,rfl,rfl,hb,hl,hm,Yl,hel,_,_⟩
 .exact⟨[],.one .emp,by simp,by simp⟩
 .have each:∀i:Fin len,∃p,∃c:List Value,RdC w c (e p)/\Q p/\c.length=P.cellsOf el/\∀(j:Nat) (u:Value),c[j]?=some u->w.cell? (a.add (i.1*P.cellsOf el+j))=some u:=by
   intro i;have h1:=hel i.1 i.2;have h2:elems[i.1]?=some elems[i.1]:=Vac (by omega);rw[h2] at h1;obtain⟨c,hc,hy⟩:=ZZb.1 h1;obtain⟨p,hK,hQ⟩:=he _ _ _ hy;obtain⟨_,X8,hcc⟩:=World.cells?_some hc;refine⟨p,c,hK,hQ,X8,λj u hj=>?_⟩;have hjl:j < P.cellsOf el:=by
    have:=(ZZh.1 hj).1;omega
   have h3:=hcc j hjl;rw[hj] at h3;rw[<-h3]
   congr 1
   simp only[Addr.add];split<;>split<;>split<;>simp_all<;>omega
  refine⟨List.ofFn λi=>Classical.choose (each i),.one ?_,by simp;omega,?_⟩
  .rcases Vdu len with rfl|hpos
   .exact .emp
   .have Z8b:∀(k:Nat) (x:V),((List.ofFn λi=>Classical.choose (each i)).map e).flatten[k]?=some x->∃v,w.cell? (a.add k)=some v/\Rd w (okW w) v x:=by
     intro k x hk
     haveI:Anchor:=⟨w⟩
     obtain⟨i,j,row,h1,h2,rfl⟩:=Z1d (sz:=P.cellsOf el) (λr hr=>by
      obtain⟨p,_,rfl⟩:=Vbd.1 hr;exact hs p) hk
     rw[Va8] at h1;obtain⟨p,h3,rfl⟩:=ZZc.1 h1;obtain⟨hi,rfl⟩:=ZZh.1 h3;rw[List.length_ofFn] at hi;obtain⟨c,hK,hQ,X8,hcc⟩:=Vb8 (each ⟨i,hi⟩);rw[List.getElem_ofFn] at h2;have hjl:j < c.length:=by
      have:=(ZZh.1 h2).1;rw[hK.1];exact this
     exact⟨c[j],hcc j _ (Vac hjl),hK.2 j _ _ (Vac hjl) h2⟩
    have Y1h:a.spot=none:=by
     obtain⟨c,hK,hQ,X8,hcc⟩:=Vb8 (each ⟨0,hpos⟩);have h0:=hcc 0 c[0] (Vac (by omega));simp only[Vdj,Va3,Addr.add,if_true] at h0;exact World.cell?_spot h0
    obtain⟨g,o,sp⟩:=a;simp only at Y1h;subst Y1h;have Zsy:∀k,(Addr.mk g o none).add k=⟨g,o+k,none⟩:=λk=>by
     unfold Addr.add;split
     .rename_i h;rw[h];rfl
     .rfl
    refine .tr (u:=λk=>(w.cell? ⟨g,o+k,none⟩).getD undef) (by simp) hl hm (sz:=P.cellsOf el) (λr hr=>by
      obtain⟨p,_,rfl⟩:=Vbd.1 hr;exact hs p) ?_ (λk x hk=>?_) (λk x hk=>?_)
    .obtain⟨c,hK,hQ,X8,hcc⟩:=Vb8 (each ⟨0,hpos⟩)
     have h0:=hcc 0 c[0] (Vac (by omega));rw[Zsy] at h0;exact Z81 h0
    .obtain⟨v,hv,_⟩:=Z8b k x hk
     rw[Zsy] at hv;rw[hv];rfl
    .obtain⟨v,hv,hr⟩:=Z8b k x hk
     rw[Zsy] at hv;rw[hv];exact hr
  .intro p hp
   obtain⟨i,rfl⟩:=List.mem_ofFn.1 hp;obtain⟨c,hK,hQ,_⟩:=Vb8 (each i);exact hQ
def OpVF {α:Type} (enc:TypeId×Value->H) (P:Program) (w:World) (fs:List Field) (off sz:Nat) (e:α->List V) (Q:α->Prop):Prop:=
 ∀(n:Nat) (cs:List Value) (xs:List (DataW H×List MemPlace)),cs.length=off+sz->xs.length=fs.length->
  (∀(i:Nat) (f:Field),fs[i]?=some f->DataW.trod enc P w 0 (λ_=>true) true n f.type ((cs.drop f.offset).take (P.cellsOf f.type))=xs[i]?)->∃a,RdC w (cs.drop off) (e a)/\Q a
theorem Yb1 {α:Type} {f:Field} {off sz:Nat} {e:α->List V} {Q:α->Prop} (ho:f.offset=off) (hs:P.cellsOf f.type=sz) (h:OpV enc P w f.type e Q):OpVF enc P w [f] off sz e Q:=by
 intro n cs xs hl hx hf;have h0:=hf 0 f rfl
 match xs,hx with
 | [y],_=>
  obtain⟨a,hK,hQ⟩:=h _ _ _ h0;refine⟨a,?_,hQ⟩;rw[ho,hs,Vbi (by rw[Vd2];omega)] at hK;exact hK
theorem Zao {α β:Type} {f:Field} {fs:List Field} {off sa sb:Nat} {a:α->List V} {b:β->List V} {Qa:α->Prop} {Qb:β->Prop} (ho:f.offset=off) (hs:P.cellsOf f.type=sa) (ha:OpV enc P w f.type a Qa)
  (hb:OpVF enc P w fs (off+sa) sb b Qb):OpVF enc P w (f::fs) off (sa+sb) (λx:α×β=>a x.1++b x.2) (λx=>Qa x.1/\Qb x.2):=by
 intro n cs xs hl hx hf
 match xs,hx with
 | y::ys,hx=>
  have h0:=hf 0 f rfl;obtain⟨x0,hK,hQ⟩:=ha _ _ _ h0;obtain⟨x1,hK1,hQ1⟩:=hb n cs ys (by omega) (by simpa using hx) (λi g hg=>by simpa using hf (i+1) g (by simpa using hg));refine⟨(x0,x1),?_,hQ,hQ1⟩;rw[ho,hs] at hK;have e:cs.drop off=(cs.drop off).take sa++cs.drop (off+sa):=by rw[<-List.drop_drop,Vee]
  rw[e];exact hK.append hK1
theorem Z4z {α:Type} {t:TypeId} {fs:Array Field} {e:α->List V} {Q:α->Prop} {sz:Nat} (ht:P.underlying t=some (.struct fs)) (hs:P.cellsOf t=sz) (h:OpVF enc P w fs.toList 0 sz e Q):OpV enc P w t e Q:=by
 intro fuel cs x hx;obtain⟨xs,n,_,rfl,hl,hxl,hf⟩:=DataW.trod_struct ht hx;obtain⟨a,hK,hQ⟩:=h n cs xs (by omega) (by simpa using hxl) (λi f hif=>hf i f (by simpa using hif));exact⟨a,by simpa using hK,hQ⟩
theorem Rd.cellish0 {ok:Nat->Prop} {v:Value} {x:V} (h:Rd w ok v x):Ev.cellish x=true:=by
 cases h<;>rfl
theorem Yvc {α:Type} {t el:TypeId} {e:α->V} {Q:α->Prop} {r:Reach} {b0:Nat} {v:Value} {x:DataW H} {p:List MemPlace} (ht:P.underlying t=some (.slice el)) (ho:OpV enc P w t (λa=>[e a]) Q)
  (hv:Value.okWide P w r b0 t v) (h:DataW.Trod enc P w 0 (λ_=>true) true t v x p):∃a:α,Q a/\∀ρ,En w (okW w) ρ v (e a):=by
 obtain⟨A0,len,cap,rfl⟩:=okWide_slice ht hv;obtain⟨n,hn⟩:=h;obtain⟨a,hK,hQ⟩:=ho _ _ _ hn
 haveI:Anchor:=⟨w⟩
 exact⟨a,hQ,λρ=>(hK.2 0 _ _ rfl rfl).en⟩
theorem Yp7 {α:Type} {t:TypeId} {fs:Array Field} {e:α->List V} {Q:α->Prop} {r:Reach} {b0:Nat} {v:Value} {x:DataW H} {p:List MemPlace} (ht:P.underlying t=some (.struct fs)) (ho:OpV enc P w t e Q)
  (hv:Value.okWide P w r b0 t v) (h:DataW.Trod enc P w 0 (λ_=>true) true t v x p):∃a:α,Q a/\∀ρ,En w (okW w) ρ v (.agg (e a)):=by
 obtain⟨cs,rfl,_⟩:=okWide_struct ht hv;obtain⟨n,hn⟩:=h;obtain⟨a,hK,hQ⟩:=ho _ _ _ hn;simp only[Value.cells] at hK
 haveI:Anchor:=⟨w⟩
 refine⟨a,hQ,λρ=>.agg (by rw[<-Array.length_toList];exact hK.1) (λy hy=>?_) (λk u y h1 h2=>(hK.2 k u y (by simpa using h1) h2).en)⟩;obtain⟨k,hk,rfl⟩:=Vbt hy;exact (hK.2 k _ _ (Vac (by rw[hK.1];exact hk)) (Vac hk)).cellish0
inductive Ens (w:World):List Value->List V->Prop
 | nil:Ens w [] []
 | cons {u:Value} {x:V} {us:List Value} {xs:List V} (h:∀ρ,En w (okW w) ρ u x) (hs:Ens w us xs):Ens w (u::us) (x::xs)
theorem Y1r:Ens w [] []:=.nil
theorem Yl6 {u:Value} {x:V} {us:List Value} {xs:List V} (h:∀ρ,En w (okW w) ρ u x) (hs:Ens w us xs):Ens w (u::us) (x::xs):=.cons h hs
theorem Y3d {us:List Value} {xs:List V} (h:Ens w us xs):∀(j:Nat) (u:Value) (x:V),us[j]?=some u->xs[j]?=some x->∀ρ,En w (okW w) ρ u x:=by
 induction h with
 | nil=>intro j u x h1;simp at h1
 | cons h hs ih=>
  intro j u x h1 h2;cases j with
  | zero=>simp at h1 h2;subst h1;subst h2;exact h
  | succ j=>exact ih j u x (by simpa using h1) (by simpa using h2)
theorem Y0f [Anchor] {M:Yp} {f:FuncId} {us:List Value} {xs os:List V} (hA0:Anchor.w=w) (hm:M.modes f=[]) (hc:Z3m P (M.modes f) f xs (.lit (.bool true)) os) (ha:us.length=xs.length) (he:∀(j:Nat) (u:Value) (x:V),us[j]?=some u->xs[j]?=some x->∀ρ,En w (okW w) ρ u x):
  Calls P f us.toArray w (λe w'=>e=.returned (.bool true)/\Below w.heap.size w w'):=by
 have hA:∀(us:List Value) (xs:List V),us.length=xs.length->(∀(j:Nat) (u:Value) (x:V),us[j]?=some u->xs[j]?=some x->∀ρ,En w (okW w) ρ u x)->Zt6 P w (okW w) (λ_=>False) [] us xs []:=by
  intro us
  induction us with
  | nil=>intro xs hl _;cases xs with
   | nil=>exact .nil
   | cons x xs=>simp at hl
  | cons u us ih=>intro xs hl he;cases xs with
   | nil=>simp at hl
   | cons x xs=>exact .cons (f1:=[]) (f2:=[]) ⟨he 0 u x rfl rfl,rfl⟩ (ih xs (by simpa using hl) (λj v y h1 h2=>he (j+1) v y (by simpa using h1) (by simpa using h2)))
 refine (hc w us.toArray [] (λ_=>False) (λ_=>False) (okW w) ⟨by rw[hA0];exact Vaw _,λk _=>by rw[hA0],λg hg=>hg.elim⟩ (by rw[hm];exact hA us xs ha he) Vcv (λg hg=>by simp at hg) (λg hg=>⟨hg,λh=>h,λh=>h⟩) (λg hg=>hg.elim)).mono (λe w' ⟨v,hv,hd⟩=>?_);obtain⟨Ze2,ok',top',fr,fo,Z8u,_⟩:=hd;have:v=.bool true:=by
  simp only[Zp8] at Z8u;cases Z8u with
  | lit h=>rfl
 subst this;exact⟨hv,Ze2.below⟩
end
end Go.Proofs.YtagdmghmblplbaaGreat.Ev
namespace Go.Proofs.YtagdmghmblplbaaGreat.Ev
open Go Go.RowKit
variable [Anchor]
def Lw (P:Program) (c:Code) (Q:Exit->Act->World->Prop) (a:Act) (w:World):Prop:=
 ∀(b:Frame) (k:List Item) (cs:List Frame),∃e a' w',Q e a' w'/\Arrives P (lone (b.at a (.code c::.inLoop c::k)) cs w) b k cs e a' w'
def wpL (P:Program) (c:Code) (Q:Exit->Act->World->Prop) (a:Act) (w:World):Prop:=
 match c with
 | .loop c=>Lw P c Q a w
 | c=>c.wp P Q a w
section
variable {P:Program} {c:Code} {Q:Exit->Act->World->Prop} {a:Act} {w:World}
theorem Zh0 (h:wpL P c Q a w):c.wp P Q a w:=by
 cases c with
 | loop c=>
  intro b k cs;obtain⟨e,a',w',hq,Zv4⟩:=h b k cs;exact⟨e,a',w',hq,.of_steps (.one step_loop) Zv4⟩
 | _=>exact h
theorem Ynn (h:c.wp P (Exit.then (λa' w'=>Lw P c Q a' w') Q) a w):Lw P c Q a w:=by
 intro b k cs;obtain⟨e,a₁,w₁,hq,Zv4⟩:=h b (.inLoop c::k) cs;cases e with
 | normal=>
  obtain⟨e₂,a₂,w₂,hq₂,Zv4₂⟩:=hq b k cs;exact⟨e₂,a₂,w₂,hq₂,.of_steps (Steps.trans Zv4 (.one step_inLoop)) Zv4₂⟩
 | exit id=>exact⟨_,a₁,w₁,hq,.pass (x:=.inLoop c) rfl (λ_ _=>.inl (by simp)) Zv4⟩
 | goto l=>exact⟨_,a₁,w₁,hq,.pass (x:=.inLoop c) rfl (λ_ _=>.inl (by simp)) Zv4⟩
 | ret=>exact⟨_,a₁,w₁,hq,.pass (x:=.inLoop c) rfl (λ_ _=>.inl (by simp)) Zv4⟩
 | panic ch=>exact⟨_,a₁,w₁,hq,.pass (x:=.inLoop c) rfl (λ_ _=>.inl (by simp)) Zv4⟩
 | outgrown=>exact⟨_,a₁,w₁,hq,.pass (x:=.inLoop c) rfl (λ_ _=>.inl (by simp)) Zv4⟩
end
def D0:Id->Prop:=Z3e 64000
theorem D0.zero {id:Id} (h:D0 id):id.1=0:=h.1
def Z7x (P:Program) (B:Nat) (io:Nat->Prop) (fl:List Nat) (w:World) (a:Act) (ρ:Rho) (t':St) (a':Act) (w':World):Prop:=
 ∃ρ' F',Rel P B io w' a'.tmps t' ρ' F' fl/\Wm B io w w'/\(∀id i,id.1=0->ρ id=some i->ρ' id=some i)/\a'.tmps.size=a.tmps.size/\a'.defers=a.defers
def Cx (P:Program) (c:Code) (S:St) (R:Ex->St->Prop):Prop:=
 ∀(t:St) (B:Nat) (io:Nat->Prop) (w:World) (a:Act) (ρ:Rho) (F:Id->List Nat) (fl:List Nat) (Q:Exit->Act->World->Prop),W5 D0 S t->Rel P B io w a.tmps t ρ F fl->Kb a.tmps.size c=true->
  (∀ex S' t' a' w',R ex S'->Zlz D0 t S' t'->Z7x P B io fl w a ρ t' a' w'->Q ex.to a' w')->wpL P c Q a w
section
variable {P:Program} {M:Yp} {C:Qo} {S:St} {R:Ex->St->Prop} {B:Nat} {io:Nat->Prop} {w w1:World} {a a1 a':Act} {w':World} {ρ ρ1:Rho} {F F1:Id->List Nat} {fl:List Nat} {t t':St}
theorem Zlq.x (h:Zlq P B io fl w a ρ t' a' w'):Z7x P B io fl w a ρ t' a' w':=by
 obtain⟨ρ',F',h1,h2,h3,h4,h5⟩:=h;exact⟨ρ',F',h1,h2,λid i _ h=>h3 id i h,h4,h5⟩
theorem Z7x.trans (hl:Wm B io w w1) (hρ:∀id i,id.1=0->ρ id=some i->ρ1 id=some i) (ht:a1.tmps.size=a.tmps.size) (hd:a1.defers=a.defers) (h:Z7x P B io fl w1 a1 ρ1 t' a' w'):Z7x P B io fl w a ρ t' a' w':=by
 obtain⟨ρ',F',h1,h2,h3,h4,h5⟩:=h;exact⟨ρ',F',h1,hl.trans h2,λid i h0 h=>h3 id i h0 (hρ id i h0 h),h4.trans ht,h5.trans hd⟩
theorem Y11 (h:R .normal S):Cx P .skip S R:=λt B io w a ρ F fl Q hE hR hd hQ=>wp_skip (hQ _ _ _ _ _ h hE.three (Zlq.refl hR).x)
theorem Cx_ret (h:R .ret S):Cx P .ret S R:=λt B io w a ρ F fl Q hE hR hd hQ=>wp_ret (hQ _ _ _ _ _ h hE.three (Zlq.refl hR).x)
theorem Y2t {i:Nat} (h:R (.exit i) S):Cx P (.exit i) S R:=λt B io w a ρ F fl Q hE hR hd hQ=>wp_exit (hQ _ _ _ _ _ h hE.three (Zlq.refl hR).x)
def thenX (K:St->Prop) (R:Ex->St->Prop):Ex->St->Prop
 | .normal,s=>K s
 | e,s=>R e s
theorem Cx_seq {x y:Code} (h:Cx P x S (thenX (λs=>Cx P y s R) R)):Cx P (.seq x y) S R:=by
 intro t B io w a ρ F fl Q hE hR hd hQ;simp only[Kb,ZZg] at hd;refine wp_seq (Zh0 (h t B io w a ρ F fl _ hE hR hd.1 (λex S' t' a' w' hr hx hA=>?_)));cases ex with
 | normal=>
  obtain⟨ρ',F',r1,r2,r3,r4,r5⟩:=hA;show y.wp P Q a' w';exact Zh0 (hr t' B io w' a' ρ' F' fl Q hx.1 r1 (by rw[r4];exact hd.2) (λex2 S2 t2 a2 w2 Z8 hx2 hA2=>hQ _ _ _ _ _ Z8 (hx.trans hx2) (.trans r2 r3 r4 r5 hA2)))
 | ret=>exact hQ _ _ _ _ _ hr hx hA
 | exit i=>exact hQ _ _ _ _ _ hr hx hA
theorem Ysx {c:Operand} {x y:Code} {b:Bool} (hc:S.opV c=.lit (.bool b)) (h:Cx P (if b then x else y) S R):Cx P (.cond c x y) S R:=by
 intro t B io w a ρ F fl Q hE hR hd hQ;simp only[Kb,ZZg] at hd;have hv:=hR.opV c;rw[hE.opV,hc] at hv;generalize hq:a.eval c=q at hv;cases hv;refine wp_cond hq (Zh0 ?_);refine h t B io w a ρ F fl Q hE hR ?_ hQ;cases b
 .exact hd.2
 .exact hd.1
def inX (i:Nat) (R:Ex->St->Prop):Ex->St->Prop
 | .exit j,s=>if j=i then R .normal s else R (.exit j) s
 | e,s=>R e s
theorem Yy5 {i:Nat} {c:Code} (h:Cx P c S (inX i R)):Cx P (.block i c) S R:=by
 intro t B io w a ρ F fl Q hE hR hd hQ;simp only[Kb] at hd;refine wp_block (Zh0 (h t B io w a ρ F fl _ hE hR hd (λex S' t' a' w' hr hx hA=>?_)));cases ex with
 | exit j=>
  show Exit.inBlock i Q (.exit j) a' w';simp only[inX] at hr;by_cases hj:j=i
  .subst hj
   rw[ZZj rfl] at hr;simp only[Exit.inBlock,if_true];exact hQ _ _ _ _ _ hr hx hA
  .rw[ZZi hj] at hr
   simp only[Exit.inBlock,ZZi hj];exact hQ _ _ _ _ _ hr hx hA
 | normal=>exact hQ _ _ _ _ _ hr hx hA
 | ret=>exact hQ _ _ _ _ _ hr hx hA
theorem Y3k {c:Code} (h:Cx P c S (thenX (λs=>Cx P (.loop c) s R) R)):Cx P (.loop c) S R:=by
 intro t B io w a ρ F fl Q hE hR hd hQ;refine Ynn (Zh0 (h t B io w a ρ F fl _ hE hR hd (λex S' t' a' w' hr hx hA=>?_)));cases ex with
 | normal=>
  obtain⟨ρ',F',r1,r2,r3,r4,r5⟩:=hA;show Lw P c Q a' w';exact hr t' B io w' a' ρ' F' fl Q hx.1 r1 (by rw[r4];exact hd) (λex2 S2 t2 a2 w2 Z8 hx2 hA2=>hQ _ _ _ _ _ Z8 (hx.trans hx2) (.trans r2 r3 r4 r5 hA2))
 | ret=>exact hQ _ _ _ _ _ hr hx hA
 | exit i=>exact hQ _ _ _ _ _ hr hx hA
theorem Ygh {c:Code} {R':Ex->St->Prop} (h:Cx P c S R) (hR:∀e s,R e s->R' e s):Cx P c S R':=λt B io w a ρ F fl Q hE Zv5 hd hQ=>h t B io w a ρ F fl Q hE Zv5 hd (λex S' t' a' w' hr=>hQ ex S' t' a' w' (hR _ _ hr))
abbrev Ans:=FuncId×List V×V×List V
open Classical in
noncomputable def one (q:Ans):Qo:=λf xs=>if f=q.1/\xs=q.2.1 then some q.2.2 else none
def Xk:Qo:=λ_ _=>none
def Zt (P:Program) (M:Yp) (q:Ans):Prop:=(∃fn,P.funcs[q.1]?=some fn/\fn.body.isSome=true)/\Z3m P (M.modes q.1) q.1 q.2.1 q.2.2.1 q.2.2.2
theorem one_ok (hP:Yk P) {q:Ans} (h:Zt P M q):Zfg P M (one q):=Yk2 hP λf xs r os hc=>by
 obtain⟨q1,q2,q3,q4⟩:=q;unfold one at hc;split at hc
 .rename_i hh
  obtain⟨rfl,rfl⟩:=hh;injection hc with hc;injection hc with h1 h2;subst h1;subst h2;exact h
 .cases hc
theorem Xx (hP:Yk P):Zfg P M Xk:=Yk2 hP λf xs r os hc=>by cases hc
theorem Cx_ops (hP:Yk P) (C:Nat->Qo) (hC:∀k,Zfg P M (C k)) {i:Nat} {ops:Array Oper} {S':St} (he:Zg6 P M C ops ⟨S.env,S.heap,S.ep+1⟩ 0 ops.toList=some S') (h:R .normal S'):Cx P (.region i ops false) S R:=by
 intro t B io w a ρ F fl Q hE hR hd hQ;have ht:=hE.tick;obtain⟨t',g,x,_⟩:=W5.evops (D:=D0) (λid h=>h.zero) ops.toList ht.1 (by simp) he;have Y3:∀id:Id,id.1=t.ep+1->ρ id=none:=λid Zw=>by
  cases hr:ρ id with
  | none=>rfl
  | some x=>have:=hR.dom id (by rw[hr];rfl);omega
 refine wp_region ?_;rw[Vcz,<-Array.length_toList];exact Yzq hC ops.toList hR.tick (by simp) hd (λid h2 _=>Y3 id h2) g (λa' w' hA=>hQ _ _ _ _ _ h (ht.trans x) hA.x)
theorem Y23 (hP:Yk P) (C:Nat->Qo) (hC:∀k,Zfg P M (C k)) {i:Nat} {ops:Array Oper} (hs:Region.noSelect ops=true) {S':St} (he:Zc1 P M C ops ⟨S.env,S.heap,S.ep+1⟩ [] 0 ops.toList=some S') (h:R .normal S'):Cx P (.region i ops true) S R:=by
 intro t B io w a ρ F fl Q hE hR hd hQ;have ht:=hE.tick;obtain⟨t',g,x⟩:=W5.draw (D:=D0) (λid h=>h.zero) ops.toList ht.1 (by simp) he;have Y3:∀id:Id,id.1=t.ep+1->ρ id=none:=λid Zw=>by
  cases hr:ρ id with
  | none=>rfl
  | some x=>have:=hR.dom id (by rw[hr];rfl);omega
 refine wp_region_any hP.mixed (Ywr hC (hR.tick.drawn _) g Y3 hd (λa' w' hA=>hQ _ _ _ _ _ h (ht.trans x) ?_));obtain⟨ρ',F',r1,r2,r3,r4,r5⟩:=hA;exact⟨ρ',F',r1,⟨r2.os,r2.tape,r2.output,r2.size,r2.block⟩,λid i _ h=>r3 id i h,r4,r5⟩
end
section
variable {P:Program} {M:Yp} {B:Nat} {io:Nat->Prop} {w:World} {a:Act} {s:St} {ρ:Rho} {F:Id->List Nat} {fl:List Nat} {k:Nat} {o:Oper}
theorem Yvb (h:Rel P B io w a.tmps s ρ F fl) {t yt e:TypeId} {x y:Operand} (ho:o.op=.binOp .eql t x y yt) (Wx:Wd P t=some e) (hx:s.opV x=.tr []) (hy:s.opV y=.lit (.slice none 0 0)):
  ∃b,OpR P o a w (Stp P B io w a.tmps s ρ fl k (.lit (.bool b)) s):=by
 have ht:=Zbi Wx;have hxv:∃ad n c,a.eval x=.slice ad n c:=by
  have hR:=h.rowsOf (ok':=λg=>g < w.heap.size) (h.opV x) (by rw[hx];rfl) (λg hg=>hg.2) (λ_ _ _ _ _ _ _ _ _ _ _ _ hg _=>hg);generalize a.eval x=q at hR;cases hR with
  | emp=>exact⟨_,_,_,rfl⟩
  | tr=>exact⟨_,_,_,rfl⟩
 obtain⟨ad,n,c,hxv⟩:=hxv;have Zsz:a.eval y=.slice none 0 0:=by
  have:=h.opV y;rw[hy] at this;generalize a.eval y=q at this;cases this;rfl
 refine⟨ad.isNone,.value (v:=.bool ad.isNone) (w':=w) ?_ (.same h (.lit rfl))⟩;have g3:(eqGuard .eql t x y (.slice ad n c) (.slice none 0 0)).run P w=.ok () w:=by simp[eqGuard]
 have g4:(binOp .eql t (.slice ad n c) (.slice none 0 0)).run P w=.ok (.bool ad.isNone) w:=by
  have h1:∀d,(Op.equalIn (d+1) t (.slice ad n c) (.slice none 0 0)).run P w=.ok ad.isNone w:=by
   intro d;cases ad<;>simp[Op.equalIn,run_underlying ht]
  have h2:(Op.equal t (.slice ad n c) (.slice none 0 0)).run P w=.ok ad.isNone w:=h1 9999;simp[binOp,h2]
 simp only[execOp,ho,Sem.run_bind,Sem.run_pure,Result.andThen_ok,hxv,Zsz,g3,g4]
theorem Y2o (M:Yp) (hP:Yk P) {S:St} {R:Ex->St->Prop} {i:Nat} {d0 d1:Tmp} {x0 y:Operand} {t yt e ty0 ty1:TypeId} {p0 p1:String} {af0 af1:Array Edge} (Wx:Wd P t=some e) (hx:S.opV x0=.tr []) (hy:(({S with ep:=S.ep+1}:St).put (some d0) (.tr [])).opV y=.lit (.slice none 0 0))
  (h:∀b,R .normal ((({S with ep:=S.ep+1}:St).put (some d0) (.tr [])).put (some d1) (.lit (.bool b)))):
  Cx P (.region i #[⟨some d0,.move x0,ty0,p0,af0,none⟩,⟨some d1,.binOp .eql t (.tmp d0) y yt,ty1,p1,af1,none⟩] false) S R:=by
 intro t1 B io w a ρ F fl Q hE hR hd hQ;have ht:=hE.tick;have hopv:∀{s s':St} (x:Operand),s'.env=s.env->s'.opV x=s.opV x:=λ{s s'} x he=>by cases x<;>simp[St.opV,he]
 have Y3:∀id:Id,id.1=t1.ep+1->ρ id=none:=λid Zw=>by
  cases hr:ρ id with
  | none=>rfl
  | some x=>have:=hR.dom id (by rw[hr];rfl);omega
 refine wp_region ?_;show wpOps P _ Q (List.range 2) a w;rw[show List.range 2=[0,1] from rfl,wpOps_cons];have hdd:Zme a.tmps.size [⟨some d0,.move x0,ty0,p0,af0,none⟩,⟨some d1,.binOp .eql t (.tmp d0) y yt,ty1,p1,af1,none⟩]=true:=hd;have hx':({t1 with ep:=t1.ep+1}:St).opV x0=.tr []:=(hopv (s:=S) (s':={t1 with ep:=t1.ep+1}) x0 hE.env).trans hx;refine Z73 (M:=M) (C:=Xk) (v:=.tr []) (s1:={t1 with ep:=t1.ep+1}) (g:=true) hR.tick rfl (Znz (i:=0) hdd rfl) rfl (λ_ id h1 _=>Y3 id h1) (λ_=>by simp[Zyp,Xb,hx']) (λ_=>Xx hP _ _ _ _ _ _ F _ _ _ _ hR.tick (λid h1 _=>Y3 id h1)) (λa' w' ρ' F' hR1 hep1 hL1 hρ1 hdom1 hts1 hdf1=>?_);simp only[if_true] at hR1 hep1;rw[wpOps_cons];have henv2:(({t1 with ep:=t1.ep+1}:St).put (some d0) (.tr [])).env=(({S with ep:=S.ep+1}:St).put (some d0) (.tr [])).env:=by
  simp[St.put,hE.env]
 have hy':=(hopv (s:=({S with ep:=S.ep+1}:St).put (some d0) (.tr [])) (s':=({t1 with ep:=t1.ep+1}:St).put (some d0) (.tr [])) y henv2).trans hy;have hxx:(({t1 with ep:=t1.ep+1}:St).put (some d0) (.tr [])).opV (.tmp d0)=.tr []:=by simp[St.opV,St.put,upd]
 obtain⟨b,hb⟩:=Yvb (k:=1) (o:=⟨some d1,.binOp .eql t (.tmp d0) y yt,ty1,p1,af1,none⟩) hR1 rfl Wx hxx hy';unfold wpOp;rw[show (#[(⟨some d0,.move x0,ty0,p0,af0,none⟩:Oper),⟨some d1,.binOp .eql t (.tmp d0) y yt,ty1,p1,af1,none⟩])[1]?=some ⟨some d1,.binOp .eql t (.tmp d0) y yt,ty1,p1,af1,none⟩ from rfl];simp only;rw[Yi5 hR1 (o:=⟨some d1,.binOp .eql t (.tmp d0) y yt,ty1,p1,af1,none⟩) (g:=true) rfl];simp only[if_true];refine .inl (hb.toW _ _ (λval w2 hp=>?_));obtain⟨Jo,Ym,hl,ρ2,F2,hR2,Xh,hρ2,hdom2⟩:=hp;have hR3:=hR2.putv (dst:=some d1) (λd hd=>by rw[hts1];exact Znz (i:=1) hdd rfl d hd) Xh;refine hQ _ _ _ _ _ (h b) ((ht.trans (ht.1.put (some d0) (.tr []))).trans ((ht.1.put (some d0) (.tr [])).1.put (some d1) (.lit (.bool b)))) ⟨ρ2,F2,hR3,hL1.trans hl,λid i h0 hi=>hρ2 _ _ (hρ1 _ _ hi),(Zpw _ _ _).trans hts1,(Znf _ _ _).trans hdf1⟩
end
theorem En.ptr0 {w:World} {ok:Nat->Prop} {ρ ρ':Rho} {v:Value} {id:Id} {i off:Nat} (hρ:∀i,ρ id=some i->ρ' id=some i) (h:En w ok ρ v (.ptr id i off)):En w ok ρ' v (.ptr id i off):=by
 generalize hq:V.ptr id i off=q at h;cases h<;>cases hq;rename_i h;exact .ptr (hρ _ h)
theorem En.sl0 {w:World} {ok:Nat->Prop} {ρ ρ':Rho} {v:Value} {id:Id} {off len:Nat} (hρ:∀i,ρ id=some i->ρ' id=some i) (h:En w ok ρ v (.sl id off len)):En w ok ρ' v (.sl id off len):=by
 cases h with
 | sl h hc=>exact .sl (hρ _ h) hc
 | sle h=>
  obtain⟨i,hi⟩:=Val.1 h;exact .sle (by rw[hρ _ hi];rfl)
theorem Pl.ext0 {ρ ρ':Rho} (hρ:∀id i,id.1=0->ρ id=some i->ρ' id=some i) {p:Nat} {m:Yh} {u:Value} {x:V} (h:Pl ρ p m u x):Pl ρ' p m u x:=by
 cases m
 .exact trivial
 .exactλw ok=>(h w ok).ptr0 (λi=>hρ _ i rfl)
 .exact trivial
 .unfold Pl at h ⊢
  simp only at h ⊢;split
  .obtain⟨us,h1,h2,h3⟩:=h
   exact⟨us,h1,h2,λj v e rows hv hc w ok=>(h3 j v e rows hv hc w ok).sl0 (λi=>hρ _ i rfl)⟩
  .rename_i Yf
   split at h
   .rename_i cs;exact absurd rfl (Yf cs)
   .exactλe rows he w ok=>(h e rows he w ok).sl0 (λi=>hρ _ i rfl)
theorem PlL.ext0 {ρ ρ':Rho} (hρ:∀id i,id.1=0->ρ id=some i->ρ' id=some i) {p:Nat} {ms:List Yh} {us:List Value} {xs:List V} (h:PlL ρ p ms us xs):PlL ρ' p ms us xs:=by
 induction h with
 | nil=>exact .nil
 | cons h _ ih=>exact .cons (h.ext0 hρ) ih
def Ycn (P:Program) (M:Yp) (f:FuncId) (fn:Func) (xs:List V) (y:V×List V) (e:Ex) (s:St):Prop:=
 (match e with|.exit _=>False|_=>True)/\((Zqr P s fn.results.toList).bind λvs=>(s.liftAll P fn.resultTypes.toList vs).bind λz=>(z.2.outs P 0 fn.params.toList (M.modes f) xs).map λos=>(Z7i z.1,os))=some y
section
variable {P:Program} {M:Yp}
theorem Y3c (hP:Yk P) {f:FuncId} {fn:Func} {c:Code} {xs:List V} {r:V} {os:List V} {s1:St} (hfn:P.funcs[f]?=some fn) (hc:fn.body=some c) (Y01:St.enters ⟨λ_=>.undef,λ_=>none,0⟩ 0 (M.modes f) xs=some s1)
  (hcx:Cx P c s1 (Ycn P M f fn xs (r,os))):Z3m P (M.modes f) f xs r os:=by
 intro w us G T X ok hT Z1b hGn hG Y2 hX;obtain⟨b,hb⟩:∃b,b=64000:=⟨_,rfl⟩;have hD1:∀id:Id,Z3e b id->64000<=id.2:=λid Zw=>by rw[<-hb];exact Zw.2
 have hD0:∀id:Id,Z3e b id->id.1=0:=λid Zw=>Zw.1;obtain⟨t1,hent',e1⟩:=W5.enters hD1 (ph_ext b w X) Y01
 let tmps:=us++Array.replicate (fn.ntmps - us.size) undef
 open Classical in
 let fl0:List Nat:=(List.range w.heap.size).filter λg=>decide (g ∉ G/\¬X g)
 have Z79:∀g,g∈fl0↔g < w.heap.size/\g ∉ G/\¬X g:=λg=>by
  simp only[fl0,Vb3,Vc7,ZZl]
 have hnod:(G++fl0).Nodup:=Vap.2 ⟨hGn,List.nodup_range.sublist List.filter_sublist,λx hx y hy e=>by subst e;exact ((Z79 x).1 hy).2.1 hx⟩;have hbase:K4 P w.heap.size T w tmps (phSt b w X) (phRho b P w X) (λid=>[id.2 - b]) (G++fl0) ok:=
  ph_rel hT hX (λg hg=>by
   rcases Vat.1 hg with h|h
   .exact hG g h
   .exact⟨((Z79 g).1 h).1,((Z79 g).1 h).2.2⟩) hnod
 obtain⟨ρ1,F1,c1,p1⟩:=Yxp (io:=T) (fl:=fl0) xs hbase Z1b (λj u hu=>by
  have Z5:=(ZZh.1 hu).1;rw[Vbk];simp only[tmps];rw[Vb6 (by simpa using Z5)];simpa using hu) rfl (λj h1 h2=>by
  simp only[phSt,phRho];constructor
  .rw[ZZi (λh=>by have:=h.2.1;omega)]
  .rw[ZZi (λh=>by have:=h.2.1;omega)]) hent'
 have hR1g:K4 P w.heap.size T w tmps t1 ρ1 F1 fl0 ok:=c1.rel;have hR1:Rel P w.heap.size T w tmps t1 ρ1 F1 fl0:=hR1g.toRel λg hg=>⟨λht=>by
  obtain⟨h1,h2,h3⟩:=Y2 g hg;rcases c1.tops g ht with h4|h4
  .obtain⟨id,bk,o,cc,sz,q1,q2,q3⟩:=h4
   simp only[phSt] at q1;split at q1
   .rename_i hh
    obtain⟨cur,e,Zcq⟩:=hX _ hh.2.2;simp only[phRho] at q3;rw[ZZj hh] at q3;simp only[Z60,Zcq] at q3;injection q3 with q3;injection q3 with q3;exact h3 (q3▸hh.2.2)
   .cases q1
  .exact h2 h4,(Y2 g hg).1⟩
 have hDb:D0=Z3e b:=by rw[hb];rfl
 have e1':W5 D0 s1 t1:=by rw[hDb];exact e1.1
 refine calls_of_wp hfn hc (Zh0 (hcx t1 w.heap.size T w {tmps:=tmps,defers:=[]} ρ1 F1 fl0 _ e1' hR1 ?_ (λex s2 t2 a' w' Zs2 hx hA=>?_)))
 .refine Z45 ?_ c (hP.dst f fn c hfn hc)
  simp only[tmps,Vdc,Vdm];omega
 have e2:Zlz (Z3e b) t1 s2 t2:=by rw[<-hDb];exact hx
 obtain⟨hexn,Zs2⟩:=Zs2;obtain⟨vs,Z8u,Zs2⟩:=ZZb.1 Zs2;obtain⟨⟨ys,s3⟩,hlift,Zs2⟩:=ZZb.1 Zs2;obtain⟨os',Yf5,Zs2⟩:=ZZc.1 Zs2;simp only[ZZe] at Zs2;obtain⟨rfl,rfl⟩:=Zs2;have hexs:ex=.normal\/ex=.ret:=by
  cases ex with
  | normal=>exact .inl rfl
  | ret=>exact .inr rfl
  | exit i=>exact hexn.elim
 have hres':=e2.1.res Z8u;obtain⟨t3,Y3w,e3⟩:=Ext.liftAll e2.1.ext hlift;have Y3x:=Ext.outs e3.1 Yf5;have hphh:∀g,X g->t2.heap (0,b+g)=some (Ztr w g):=λg hg=>by
  have hd:Z3e b (0,b+g):=⟨rfl,by simp⟩;rw[e2.2 _ hd,e1.2 _ hd];simp only[phSt];rw[ZZj ⟨by trivial,by omega,by rw[Vbp];exact hg⟩,Vbp]
 obtain⟨ρ2,F2,hR2,hL2,hρ2,hts,hdf⟩:=hA;obtain⟨rus,hrl,hrrun,hren⟩:=Y2b hR2 fn.results.toList hres';obtain⟨fr,hR3,hgo,hl3⟩:=Yu2 hR2 vs (fl1:=fl0) hR2 (.refl _) hrl hren Y3w;obtain⟨t4,fo,hd4,hR4,hos,hl4⟩:=Y3a (D:=Z3e b) hR2 xs hR3 hl3 (p1.ext0 hρ2) e3.1 Yf5 Y3x;have hphb:∀g,X g->∃e,Ztr w g=⟨false,true,false,e,[]⟩:=λg hg=>by
  obtain⟨cur,e,Zcq⟩:=hX g hg;exact⟨e,by simp only[Ztr,Zcq]⟩
 have hphr:∀g,X g->∃o c sz,ρ2 (0,b+g)=some (.blk g o c sz):=λg hg=>by
  obtain⟨cur,e,Zcq⟩:=hX g hg;have h1:phRho b P w X (0,b+g)=some (.blk g cur.size 0 (P.cellsOf e)):=by
   simp only[phRho];rw[ZZj ⟨by trivial,by omega,by rw[Vbp];exact hg⟩,Vbp];simp only[Z60,Zcq]
  exact⟨_,_,_,hρ2 _ _ rfl (c1.ext _ _ h1)⟩
 have hXtop:∀g,X g->tops t2 ρ2 g:=λg hg=>by
  obtain⟨e,he⟩:=hphb g hg;obtain⟨o,c,sz,hr⟩:=hphr g hg;exact⟨(0,b+g),_,o,c,sz,hphh g hg,by rw[he],hr⟩
 have hkt:∀g,Zas t2 t4 ρ2 F2 g->tops t2 ρ2 g:=λg ⟨id,bk,h1,h2,h3,h4,_⟩=>hR2.head_tops h1 h2 h4;have hXF:∀g,X g->∀x∈fo++(fr++fl0),x≠g:=λg hg x hx e=>by
  subst e;obtain⟨e,he⟩:=hphb x hg;obtain⟨o,c,sz,hr⟩:=hphr x hg;have hal:t4.heap (0,b+x)=some (Ztr w x):=by
   have hd:Z3e b (0,b+x):=⟨rfl,by simp⟩;rw[hd4 _ hd,e3.2.1 _ hd];exact hphh x hg
  have Yc:(Ztr w x).own=true:=by rw[he]
  have hB:=hR4.heap _ _ hal;rw[hr] at hB;exact hR4.flApart _ _ hal Yc x (hB.top Yc) hx
 have Ykt:bodyPost P fn (λe w'=>∃v,e=.returned v/\Done P (M.modes f) w us xs G T X (Z7i ys) os' v w') .normal a' w':=by
  refine⟨hdf,_,Z1l hrrun,_,rfl,hL2,okS t2 ρ2 w',λg=>Zas t2 t4 ρ2 F2 g,fr,fo,?_,?_,?_,?_,?_,?_⟩
  .exact Zp8.of (hgo.top λg hg=>hg.left hl4)
  .exact hos.top λg hg=>hg.right hl3
  .have h1:=hR4.flOnce
   rw[<-List.append_assoc] at h1;exact (Vct.nodup_iff).1 (Vap.1 h1).1
  .intro g hg
   have hm:g∈fo++(fr++fl0):=by
    rcases Vat.1 hg with h|h
    .exact Vak _ (Vae _ h)
    .exact Vae _ h
   refine⟨hR4.flMine g hm,?_⟩;rcases Vb5 g w.heap.size with Z5|hge
   .left
    rcases Classical.em (g∈G) with h|h
    .exact h
    .exfalso
     rcases Classical.em (X g) with hx|hx
     .exact hXF g hx g hm rfl
     .have hf:g∈fl0:=(Z79 g).2 ⟨Z5,h,hx⟩
      have h1:=hR4.flOnce;rw[<-List.append_assoc] at h1;refine (Vap.1 h1).2.2 g ?_ g hf rfl;rcases Vat.1 hg with h|h
      .exact Vak _ h
      .exact Vae _ h
   .exact .inr hge
  .rintro g ⟨id,bk,h1,h2,h3,h4,h5⟩
   exact hR2.top id bk h1 h2 h5 g h4
  .exactλg hg=>⟨hg.2,λh=>hg.1 (hkt g h),λh=>hg.1 (hXtop g h)⟩
 rcases hexs with rfl|rfl
 .exact Ykt
 .exact Ykt
theorem Y2z (hP:Yk P) {f:FuncId} {fn:Func} {c:Code} {xs:List V} {r:V} {os:List V} {s1:St} (hfn:P.funcs[f]?=some fn) (hc:fn.body=some c) (Y01:St.enters ⟨λ_=>.undef,λ_=>none,0⟩ 0 (M.modes f) xs=some s1)
  (hcx:Cx P c s1 (Ycn P M f fn xs (r,os))):Zt P M (f,xs,r,os):=⟨⟨fn,hfn,by rw[hc];rfl⟩,Y3c hP hfn hc Y01 hcx⟩
end
def mkE (l:List (Nat×V)):Nat->V:=λt=>(l.lookup t).getD .undef
def mkH (l:List (Id×Blk)):Id->Option Blk:=λid=>l.lookup id
def mkS (l:List (Nat×V)) (h:List (Id×Blk)) (ep:Nat):St:=⟨mkE l,mkH h,ep⟩
def Zbs (f:List (Id×Id)) (id:Id):Option Id:=if id.1=0 then some id else f.lookup id
def VR1 (f:List (Id×Id)):V->V->Prop
 | .undef,_=>True
 | .lit v,y=>y=.lit v
 | .tr rows,y=>y=.tr rows
 | .vw rows,y=>y=.vw rows
 | .rp sh row off,y=>y=.rp sh row off
 | .ptr id i off,.ptr id' i' off'=>Zbs f id=some id'/\i=i'/\off=off'
 | .sl id off len,.sl id' off' len'=>Zbs f id=some id'/\off=off'/\len=len'
 | .sl id off len,.lit (.slice none 0 0)=>Zbs f id=none/\off=0/\len=0
 | _,_=>False
def VRs (f:List (Id×Id)):List V->List V->Prop
 | [],[]=>True
 | x::xs,y::ys=>VR1 f x y/\VRs f xs ys
 | _,_=>False
def VR (f:List (Id×Id)):V->V->Prop
 | .agg xs,.agg ys=>VRs f xs ys
 | .tup xs,.tup ys=>VRs f xs ys
 | .fn g xs,.fn g' ys=>g=g'/\VRs f xs ys
 | x,y=>VR1 f x y
def BR (f:List (Id×Id)) (S:St) (id:Id) (b:Blk):Prop:=
 match Zbs f id with
 | none=>b.box=false/\b.own=true/\b.rows=[]
 | some id'=>∃c,S.heap id'=some c/\c.box=b.box/\c.own=b.own/\c.cl=b.cl/\(if b.box then (∃xs ys,b.rows=[xs]/\c.rows=[ys]/\VRs f xs ys) else (c.el=b.el/\c.rows=b.rows))
def Zwc (h:List (Id×Blk)) (id:Id):Bool:=id.1 == 0||(h.lookup id).isSome
def Zx4 (h:List (Id×Blk)):V->Bool
 | .ptr id _ _|.sl id _ _=>Zwc h id
 | .undef=>false
 | _=>true
def hasV (h:List (Id×Blk)):V->Bool
 | .agg xs|.tup xs|.fn _ xs=>xs.all (Zx4 h)
 | x=>Zx4 h x
def hasB (h:List (Id×Blk)) (b:Blk):Bool:=if b.box then b.rows.all (λr=>r.all (Zx4 h)) else true
def wkB (f:List (Id×Id)) (l:List (Nat×V)) (h:List (Id×Blk)) (ep:Nat):Bool:=
 decide ((h.filterMap λp=>Zbs f p.1).Nodup)&&decide ((h.map (·.1)).Nodup)&&h.all (λp=>decide (p.1.1<=ep)&&decide (p.1.2 < 64000))&&l.all (λp=>hasV h p.2)&&h.all λp=>hasB h p.2
structure Z1v (f:List (Id×Id)) (S:St) (l:List (Nat×V)) (h:List (Id×Blk)) (ep:Nat):Prop where
 env:∀p∈l,VR f p.2 (S.env p.1)
 heap:∀p∈h,BR f S p.1 p.2
 ok:wkB f l h ep=true
theorem Zq0 {α β:Type} [BEq α] [LawfulBEq α] {l:List (α×β)} {a:α} {b:β} (h:l.lookup a=some b):(a,b)∈l:=by
 induction l with
 | nil=>simp at h
 | cons p l ih=>
  obtain⟨x,y⟩:=p;simp only[List.lookup] at h;split at h
  .rename_i he
   injection h with h;subst h;rw[eq_of_beq he];exact Vab
  .exact Vad _ (ih h)
section
variable {P:Program} {B:Nat} {io:Nat->Prop} {w:World} {tmps:Array Value} {S t:St} {ρ:Rho} {F:Id->List Nat} {fl:List Nat} {f:List (Id×Id)} {l:List (Nat×V)} {h:List (Id×Blk)} {ep:Nat}
open Classical in
noncomputable def wkSt (t:St) (l:List (Nat×V)) (h:List (Id×Blk)) (ep:Nat):St:=⟨mkE l,λid=>if D0 id then t.heap id else mkH h id,ep⟩
noncomputable def wkRho (ρ:Rho) (f:List (Id×Id)) (h:List (Id×Blk)):Rho:=λid=>if id.1=0 then ρ id else if (h.lookup id).isSome then (match f.lookup id with|some id'=>ρ id'|none=>some .emp) else none
def wkF (F:Id->List Nat) (f:List (Id×Id)):Id->List Nat:=λid=>if id.1=0 then F id else match f.lookup id with|some id'=>F id'|none=>[]
theorem Zfx {id id':Id} (hh:Zwc h id=true) (hr:Zbs f id=some id'):wkRho ρ f h id=ρ id':=by
 unfold wkRho Zbs at*;by_cases h0:id.1=0
 .rw[ZZj h0] at hr ⊢;injection hr with hr;rw[hr]
 .rw[ZZi h0] at hr ⊢
  simp only[Zwc,Vb2,beq_iff_eq,h0,false_or] at hh;rw[ZZj hh,hr]
theorem Z86 {id id':Id} (hr:Zbs f id=some id'):wkF F f id=F id':=by
 unfold wkF Zbs at*;by_cases h0:id.1=0
 .rw[ZZj h0] at hr ⊢;injection hr with hr;rw[hr]
 .rw[ZZi h0] at hr ⊢;rw[hr]
theorem Z6o {id:Id} (hh:Zwc h id=true) (hr:Zbs f id=none):wkRho ρ f h id=some .emp:=by
 unfold wkRho Zbs at*;by_cases h0:id.1=0
 .rw[ZZj h0] at hr;cases hr
 .rw[ZZi h0] at hr ⊢
  simp only[Zwc,Vb2,beq_iff_eq,h0,false_or] at hh;rw[ZZj hh,hr]
theorem Ysk {id:Id} (hr:Zbs f id=none):wkF F f id=[]:=by
 unfold wkF Zbs at*;by_cases h0:id.1=0
 .rw[ZZj h0] at hr;cases hr
 .rw[ZZi h0] at hr ⊢;rw[hr]
theorem VR1.en {ok ok':Nat->Prop} (Y2:∀g,ok g->ok' g) {v:Value} {x y:V} (hh:Zx4 h x=true) (hr:VR1 f x y) (hv:En w ok ρ v y):En w ok' (wkRho ρ f h) v x:=by
 cases x with
 | undef=>exact .undef
 | lit u=>simp only[VR1] at hr;subst hr;cases hv with|lit h=>exact .lit h
 | tr rows=>simp only[VR1] at hr;subst hr;cases hv with|tr h=>exact .tr (h.okm Y2)
 | vw rows=>simp only[VR1] at hr;subst hr;cases hv with|vw h=>exact .vw (h.okm Y2)
 | rp sh row off=>simp only[VR1] at hr;subst hr;cases hv with|rp h=>exact .rp (h.okm Y2)
 | ptr id i off=>
  cases y<;>simp only[VR1] at hr;obtain⟨h1,rfl,rfl⟩:=hr;simp only[Zx4] at hh;generalize hq:V.ptr _ i off=q at hv;cases hv<;>cases hq;rename_i h2;exact .ptr (by rw[Zfx hh h1];exact h2)
 | sl id off len=>
  simp only[Zx4] at hh;cases y with
  | sl id' off' len'=>
   simp only[VR1] at hr;obtain⟨h1,rfl,rfl⟩:=hr;cases hv with
   | sl h2 hc=>exact .sl (by rw[Zfx hh h1];exact h2) hc
   | sle h2=>exact .sle (by rw[Zfx hh h1];exact h2)
  | lit u=>
   unfold VR1 at hr;split at hr<;>rename_i h1 h2<;>first|cases h1|skip
   all_goals first|exact hr.elim|skip
   all_goals try (cases h2)
   obtain⟨h3,rfl,rfl⟩:=hr;cases hv;exact .sle (by rw[Z6o hh h3];rfl)
  | _=>simp[VR1] at hr
 | agg _=>simp[VR1] at hr
 | tup _=>simp[VR1] at hr
 | fn _ _=>simp[VR1] at hr
 | own _ _=>simp[VR1] at hr
 | obx _=>simp[VR1] at hr
theorem VRs.get:∀{xs ys:List V},VRs f xs ys->xs.length=ys.length/\∀(k:Nat) (x:V),xs[k]?=some x->∃y,ys[k]?=some y/\VR1 f x y:=by
 intro xs
 induction xs with
 | nil=>intro ys hr;cases ys with
  | nil=>exact⟨rfl,λk x hk=>by simp at hk⟩
  | cons y ys=>exact hr.elim
 | cons x xs ih=>intro ys hr;cases ys with
  | nil=>exact hr.elim
  | cons y ys=>
   obtain⟨h1,h2⟩:=hr;obtain⟨h3,h4⟩:=ih h2;refine⟨by simp[h3],λk z hk=>?_⟩;cases k with
   | zero=>simp at hk;subst hk;exact⟨y,rfl,h1⟩
   | succ k=>simpa using h4 k z (by simpa using hk)
theorem VR1.cellish {x y:V} (hr:VR1 f x y) (hx:x≠.undef):Ev.cellish x=true:=by
 cases x with
 | undef=>exact absurd rfl hx
 | agg _=>simp[VR1] at hr
 | tup _=>simp[VR1] at hr
 | own _ _=>simp[VR1] at hr
 | obx _=>simp[VR1] at hr
 | fn _ _=>simp[VR1] at hr
 | _=>rfl
theorem VRs.all {ok ok':Nat->Prop} (Y2:∀g,ok g->ok' g) {xs ys:List V} (hr:VRs f xs ys) (hh:xs.all (Zx4 h)=true) {vs:List Value} (hv:∀(k:Nat) (v:Value) (y:V),vs[k]?=some v->ys[k]?=some y->En w ok ρ v y):
  ∀(k:Nat) (v:Value) (x:V),vs[k]?=some v->xs[k]?=some x->En w ok' (wkRho ρ f h) v x:=λk v x h1 h2=>by
 obtain⟨y,h3,h4⟩:=hr.get.2 k x h2;exact h4.en Y2 (ZZk.1 hh x (Vag h2)) (hv k v y h1 h3)
theorem Ysb {x:V} (hh:Zx4 h x=true):x≠.undef:=by rintro rfl;simp[Zx4] at hh
theorem VR.en {ok ok':Nat->Prop} (Y2:∀g,ok g->ok' g) {v:Value} {x y:V} (hh:hasV h x=true) (hr:VR f x y) (hv:En w ok ρ v y):En w ok' (wkRho ρ f h) v x:=by
 unfold VR at hr;split at hr
 .rename_i xs ys
  simp only[hasV] at hh;cases hv with
  | @agg us _ hl hc he=>
   refine .agg (by rw[hl,hr.get.1]) (λx hx=>?_) (λk v x h1 h2=>hr.all Y2 hh (vs:=us.toList) (λk v y h1 h2=>he k v y (by simpa using h1) h2) k v x (by simpa using h1) h2);obtain⟨k,hk,rfl⟩:=Vbt hx;obtain⟨y,_,h4⟩:=hr.get.2 k _ (Vac hk);exact h4.cellish (Ysb (ZZk.1 hh _ (Vao hk)))
 .rename_i xs ys
  simp only[hasV] at hh;cases hv with
  | @tup us _ hl he=>exact .tup (by rw[hl,hr.get.1]) (λk v x h1 h2=>hr.all Y2 hh (vs:=us.toList) (λk v y h1 h2=>he k v y (by simpa using h1) h2) k v x (by simpa using h1) h2)
 .rename_i g xs g' ys
  obtain⟨rfl,hr⟩:=hr;simp only[hasV] at hh;cases hv with
  | @fn _ us _ hl he=>exact .fn (by rw[hl,hr.get.1]) (λk v x h1 h2=>hr.all Y2 hh (vs:=us.toList) (λk v y h1 h2=>he k v y (by simpa using h1) h2) k v x (by simpa using h1) h2)
 .have h2:Zx4 h x=true:=by
   cases x<;>first|exact hh|(simp[VR1] at hr)
  exact hr.en Y2 h2 hv
theorem Z1v.ext (hw:Z1v f S l h ep) (hE:W5 D0 S t):W5 D0 (mkS l h ep) (wkSt t l h ep):=by
 have hz:=hw.ok;simp only[wkB,ZZg,ZZl,ZZk] at hz;refine⟨⟨rfl,λid Zw=>?_,λid Zw=>?_⟩,rfl,λid b hd hb=>?_⟩
 .simp only[wkSt,mkS];rw[ZZi Zw]
 .simp only[mkS]
  cases hb:mkH h id with
  | none=>rfl
  | some b=>
   have:=(hz.1.1.2 _ (Zq0 hb)).2;have:=Zw.2;simp only at *;omega
 .simp only[wkSt] at hb
  rw[ZZj hd] at hb;exact hE.ph id b hd hb
theorem Z1v.blk (hw:Z1v f S l h ep) (hE:W5 D0 S t) {id:Id} {b:Blk} (hb:(wkSt t l h ep).heap id=some b):
  (D0 id/\t.heap id=some b)\/(¬D0 id/\(id,b)∈h/\Zwc h id=true/\((Zbs f id=none/\b.box=false/\b.own=true/\b.rows=[])\/
   ∃id' c,Zbs f id=some id'/\t.heap id'=some c/\¬D0 id'/\c.box=b.box/\c.own=b.own/\c.cl=b.cl/\(if b.box then (∃xs ys,b.rows=[xs]/\c.rows=[ys]/\VRs f xs ys) else (c.el=b.el/\c.rows=b.rows)))):=by
 simp only[wkSt] at hb;split at hb
 .rename_i hd;exact .inl ⟨hd,hb⟩
 .rename_i hd
  have hm:=Zq0 hb;refine .inr ⟨hd,hm,?_,?_⟩
  .simp only[Zwc,Vb2];right;rw[show h.lookup id=some b from hb];rfl
  .have:=hw.heap _ hm
   unfold BR at this;simp only at this;split at this
   .rename_i hr;exact .inl ⟨hr,this⟩
   .rename_i id' hr
    obtain⟨c,h1,h2⟩:=this;exact .inr ⟨id',c,hr,hE.ext.get h1,hE.ext.notD h1,h2⟩
theorem D0.ren {id:Id} (hd:D0 id):Zbs f id=some id:=by unfold Zbs;rw[ZZj hd.zero]
theorem D0.has {id:Id} (hd:D0 id):Zwc h id=true:=by simp[Zwc,hd.zero]
theorem Z1v.tops (hw:Z1v f S l h ep) (hE:W5 D0 S t) {g:Nat} (ht:Ev.tops (wkSt t l h ep) (wkRho ρ f h) g):Ev.tops t ρ g:=by
 obtain⟨id,b,o,c,sz,h1,h2,h3⟩:=ht;rcases hw.blk hE h1 with⟨hd,hb⟩|⟨hd,hm,hi,⟨hr,_⟩|⟨id',k,hr,hk,_,_,ho,_⟩⟩
 .rw[Zfx hd.has hd.ren] at h3
  exact⟨id,b,o,c,sz,hb,h2,h3⟩
 .rw[Z6o hi hr] at h3;cases h3
 .rw[Zfx hi hr] at h3
  exact⟨id',k,o,c,sz,hk,ho.trans h2,h3⟩
theorem Y2l:∀{h:List (Id×Blk)} {id id2 id':Id} {b b2:Blk},(h.filterMap λp=>Zbs f p.1).Nodup->(id,b)∈h->(id2,b2)∈h->Zbs f id=some id'->Zbs f id2=some id'->id=id2:=by
 intro h
 induction h with
 | nil=>intro id id2 id' b b2 _ h1;simp at h1
 | cons p h ih=>
  intro id id2 id' b b2 hn h1 h2 hr Z8;have mem:∀{i:Id} {c:Blk},(i,c)∈h->Zbs f i=some id'->id'∈h.filterMap λp=>Zbs f p.1:=λhm hi=>Vco.2 ⟨_,hm,hi⟩;rw[List.filterMap_cons] at hn;rcases Vav.1 h1 with e1|e1
  .rcases Vav.1 h2 with e2|e2
   .rw[<-e1] at e2;injection e2 with e2;exact e2.symm
   .rw[<-e1] at hn
    simp only[hr] at hn;exact absurd (mem e2 Z8) (Vay.1 hn).1
  .rcases Vav.1 h2 with e2|e2
   .rw[<-e2] at hn
    simp only[Z8] at hn;exact absurd (mem e1 hr) (Vay.1 hn).1
   .refine ih ?_ e1 e2 hr Z8
    split at hn
    .exact hn
    .exact (Vay.1 hn).2
theorem Z1v.rel (hw:Z1v f S l h ep) (hE:W5 D0 S t) (hR:Rel P B io w tmps t ρ F fl):Rel P B io w tmps (wkSt t l h ep) (wkRho ρ f h) (wkF F f) fl:=by
 have hz:=hw.ok;simp only[wkB,ZZg,ZZl,ZZk] at hz;have Y2:∀g,okS t ρ w g->okS (wkSt t l h ep) (wkRho ρ f h) w g:=λg hg=>⟨λht=>hg.1 (hw.tops hE ht),hg.2⟩;have key:∀{id:Id} {b:Blk},(wkSt t l h ep).heap id=some b->b.own=true->wkF F f id=[]\/∃id' c,t.heap id'=some c/\c.own=true/\wkF F f id=F id'/\wkRho ρ f h id=ρ id'/\Zbs f id=some id'/\(D0 id\/(id,b)∈h/\¬D0 id'):=λ{id b} hb ho=>by
  rcases hw.blk hE hb with⟨hd,hb⟩|⟨hd,hm,hi,⟨hr,_⟩|⟨id',k,hr,hk,hnd,_,ho2,_⟩⟩
  .exact .inr ⟨id,b,hb,ho,Z86 hd.ren,Zfx hd.has hd.ren,hd.ren,.inl hd⟩
  .exact .inl (Ysk hr)
  .exact .inr ⟨id',k,hk,ho2.trans ho,Z86 hr,Zfx hi hr,hr,.inr ⟨hm,hnd⟩⟩
 refine⟨λt' v hv=>?_,λt' ht'=>?_,λid b hb=>?_,λid b hb ho g hg=>?_,λid b hb ho hc g hg=>?_,λid id2 b b2 hb ho hb2 ho2 Yf g hg hg2=>?_,λid b hb ho=>?_,λid Zw=>?_,hR.base0,hR.flMine,λid b hb ho g hg=>?_,hR.flOnce⟩
 .show En w _ _ v (mkE l t')
  unfold mkE;cases hl:l.lookup t' with
  | none=>exact .undef
  | some x=>
   have hm:=Zq0 hl;have h1:=hw.env _ hm;simp only at h1;rw[<-hE.env] at h1;exact h1.en Y2 (hz.1.2 _ hm) (hR.env t' v hv)
 .show mkE l t'=.undef
  unfold mkE;cases hl:l.lookup t' with
  | none=>rfl
  | some x=>
   have hm:=Zq0 hl;have h1:=hw.env _ hm;simp only at h1;rw[<-hE.env,hR.out t' ht'] at h1;simp only[Va0];cases x<;>simp[VR,VR1] at h1 ⊢
 .rcases hw.blk hE hb with⟨hd,hb⟩|⟨hd,hm,hi,⟨hr,h1,h2,h3⟩|⟨id',k,hr,hk,_,hbx,ho,X8,X3⟩⟩
  .rw[Zfx hd.has hd.ren,Z86 hd.ren]
   have hB:=hR.heap id b hb;have hph:=hE.ph id b hd hb;unfold Xg at hB ⊢;split at hB
   .obtain⟨_,g,cur,e,row,hi,hg,hr,_⟩:=hB;rw[hph] at hr;cases hr
   .rcases hB with hB|⟨g,o,c,cur,hi,hg,hl,hm,hu,hz,fp,hF,q1,q2⟩
    .exact .inl hB
    .exact .inr ⟨g,o,c,cur,hi,hg,hl,hm,hu,hz,fp,hF,q1,λhc=>⟨(q2 hc).1,λk x hx=>by rw[hph] at hx;simp at hx⟩⟩
   .obtain⟨h0,hB⟩:=hB
    refine⟨h0,?_⟩;rcases hB with hB|⟨g,o,c,sz,hi,hu,hr⟩
    .exact .inl hB
    .exact .inr ⟨g,o,c,sz,hi,hu,hr.okm Y2⟩
  .rw[Z6o hi hr,Ysk hr]
   exact .mkEmp h1 h2 rfl h3 rfl
  .rw[Zfx hi hr,Z86 hr]
   have hB:=hR.heap id' k hk;unfold Xg at hB ⊢;rw[hbx,ho] at hB;cases hb1:b.box with
   | true=>
    rw[hb1] at hB;simp only[hb1,if_true] at X3 hB ⊢;obtain⟨q0,g,cur,e,row,Yj,hg,Jx,hs,he,hc,hF⟩:=hB;obtain⟨xs,ys,e1,e2,hv⟩:=X3;rw[e2] at Jx;injection Jx with Jx _;subst Jx;have hxl:=hv.get.1;have Qy:xs.all (Zx4 h)=true:=by
     have h7:=hz.2 _ hm;unfold hasB at h7;simp only[hb1,if_true,e1,Va6,Vdl,Vch] at h7;exact h7
    refine⟨q0,g,cur,e,xs,by rw[Yj,hxl],hg,e1,by rw[hs,hxl],λj v x h1 h2=>?_,λx hx=>?_,hF⟩
    .exact hv.all Y2 Qy (vs:=cur.toList) (λk v y h1 h2=>he k v y (by simpa using h1) h2) j v x (by simpa using h1) h2
    .obtain⟨j,hj,rfl⟩:=Vbt hx
     obtain⟨y,_,h4⟩:=hv.get.2 j _ (Vac hj);exact h4.cellish (Ysb (ZZk.1 Qy _ (Vao hj)))
   | false=>
    rw[hb1] at hB;simp only[hb1,ZZf,if_false] at X3 hB ⊢;obtain⟨e1,e2⟩:=X3;cases ho1:b.own with
    | true=>
     rw[ho1] at hB;simp only at hB ⊢;rcases hB with⟨q1,q2,q3⟩|⟨g,o,c,cur,Yj,hg,hl,hm',hu,hz',fp,hF,q1,q2⟩
     .exact .inl ⟨q1,by rw[<-e2];exact q2,q3⟩
     .refine .inr ⟨g,o,c,cur,by rw[<-e1];exact Yj,by rw[<-e1];exact hg,by rw[<-e2];exact hl,hm',by rw[<-e1,<-e2];exact hu,by rw[<-e1];exact hz',fp,hF,λhc=>?_,λhc=>?_⟩
      .rw[<-e1,<-e2];exact q1 (by rw[X8];exact hc)
      .obtain⟨q3,q4⟩:=q2 (by rw[X8];exact hc)
       refine⟨q3,λj x hx=>?_⟩;obtain⟨v,hv,hrd⟩:=q4 j x (by rw[e2];exact hx);exact⟨v,hv,hrd.okm Y2⟩
    | false=>
     rw[ho1] at hB;simp only at hB ⊢;obtain⟨h0,hB⟩:=hB;refine⟨h0,?_⟩;rcases hB with⟨q1,q2⟩|⟨g,o,c,sz,Yj,hu,Jx⟩
     .exact .inl ⟨q1,by rw[<-e2];exact q2⟩
     .exact .inr ⟨g,o,c,sz,Yj,by rw[<-e2];exact hu,by rw[<-e2];exact Jx.okm Y2⟩
 .rcases key hb ho with h0|⟨id',c,h1,h2,h3,_⟩
  .rw[h0] at hg;simp at hg
  .rw[h3] at hg;exact hR.mine id' c h1 h2 g hg
 .rcases key hb ho with h0|⟨id',c,h1,h2,h3,h4,_⟩
  .rw[h0] at hg;simp at hg
  .rw[h3] at hg;exact hR.top id' c h1 h2 (by rw[<-h4];exact hc) g hg
 .rcases key hb ho with h0|⟨i1,c,h1,h2,h3,h4,h5,h6⟩
  .rw[h0] at hg;simp at hg
  .rcases key hb2 ho2 with k0|⟨i2,c2,k1,k2,k3,k4,k5,k6⟩
   .rw[k0] at hg2;simp at hg2
   .rw[h3] at hg
    rw[k3] at hg2;refine hR.apart i1 i2 c c2 h1 h2 k1 k2 (λe=>?_) g hg hg2;subst e;rcases h6 with h6|⟨h6,h7⟩
    .rw[h6.ren] at h5;injection h5 with h5;subst h5
     rcases k6 with k6|⟨k6,k7⟩
     .rw[k6.ren] at k5;injection k5 with k5;exact Yf k5.symm
     .exact k7 h6
    .rcases k6 with k6|⟨k6,k7⟩
     .rw[k6.ren] at k5;injection k5 with k5;subst k5;exact h7 k6
     .exact Yf (Y2l hz.1.1.1.1 h6 k6 h5 k5)
 .rcases key hb ho with h0|⟨id',c,h1,h2,h3,_⟩
  .rw[h0];exact Vcv
  .rw[h3];exact hR.once id' c h1 h2
 .show id.1<=ep
  by_cases h0:id.1=0
  .omega
  .unfold wkRho at Zw
   rw[ZZi h0] at Zw;split at Zw
   .rename_i hs
    obtain⟨b,hb⟩:=Val.1 hs;exact (hz.1.1.2 _ (Zq0 hb)).1
   .simp at Zw
 .rcases key hb ho with h0|⟨id',c,h1,h2,h3,_⟩
  .rw[h0] at hg;simp at hg
  .rw[h3] at hg;exact hR.flApart id' c h1 h2 g hg
theorem Y1s {c:Code} {R:Ex->St->Prop} (f:List (Id×Id)) (hw:Z1v f S l h ep) (hc:Cx P c (mkS l h ep) R):Cx P c S R:=by
 intro t B io w a ρ F fl Q hE hR hd hQ;refine hc (wkSt t l h ep) B io w a (wkRho ρ f h) (wkF F f) fl Q (hw.ext hE) (hw.rel hE hR) hd (λex S' t' a' w' hr hx hA=>hQ ex S' t' a' w' hr ⟨hx.1,λid Zw=>?_⟩ ?_)
 .rw[hx.2 id Zw];simp only[wkSt];rw[ZZj Zw]
 .obtain⟨ρ',F',h1,h2,h3,h4,h5⟩:=hA
  exact⟨ρ',F',h1,h2,λid i h0 hi=>h3 id i h0 (by unfold wkRho;rw[ZZj h0];exact hi),h4,h5⟩
end
end Go.Proofs.YtagdmghmblplbaaGreat.Ev
namespace Go.Proofs.YtagdmghmblplbaaGreat.Ev
open Go
variable [Anchor]
section
variable {P:Program}
def Zdk:List V->List V->Option Bool
 | [],[]=>some true
 | .lit (.int k a)::xs,.lit (.int k' b)::ys=>if k=k' then (Zdk xs ys).map λr=>decide (a=b)&&r else none
 | .lit (.bool a)::xs,.lit (.bool b)::ys=>(Zdk xs ys).map λr=>(a == b)&&r
 | _,_=>none
def Zsl (P:Program):Nat->List Field->List V->Bool
 | _,[],[]=>true
 | i,f::fs,.lit (.int _ _)::xs=>(f.name != "_")&&(f.offset == i)&&!(Zeo P f.type)&&(match P.underlying f.type with|some (.int _)=>true|_=>false)&&Zsl P (i+1) fs xs
 | i,f::fs,.lit (.bool _)::xs=>(f.name != "_")&&(f.offset == i)&&!(Zeo P f.type)&&(match P.underlying f.type with|some .bool=>true|_=>false)&&Zsl P (i+1) fs xs
 | _,_,_=>false
theorem Zkn {t:TypeId} {d:TypeDesc} (ht:P.underlying t=some d):eval? P (underlying t)=some d:=by
 unfold underlying;rw[Xe];show eval? P (match P.underlying t with|some d=>pure d|none=>stuck "no such type" : Sem TypeDesc)=some d;rw[ht];rfl
theorem Yxn {n:Nat} {t:TypeId} {k0 k:IntKind} {a b:Int} (ht:P.underlying t=some (.int k0)):eval? P (Go.Op.equalIn (n+1) t (.int k a) (.int k b))=some (decide (a=b)):=by
 unfold Go.Op.equalIn;rw[Xe,Zkn ht];simp only[ZZa,if_true];show some (a == b)=some (decide (a=b));by_cases h:a=b<;>simp[h]
theorem Yra {n:Nat} {t:TypeId} {a b:Bool} (ht:P.underlying t=some .bool):eval? P (Go.Op.equalIn (n+1) t (.bool a) (.bool b))=some (a == b):=by
 unfold Go.Op.equalIn;rw[Xe,Zkn ht];rfl
theorem Yvl {t:TypeId} (h:(P.underlying t).isSome=true) (ha:Zeo P t=false):eval? P (isAgg t)=some false:=by
 obtain⟨d,hd⟩:=Val.1 h;unfold isAgg;rw[Xe,Zkn hd];unfold Zeo at ha;rw[hd] at ha;cases d<;>first|rfl|cases ha
theorem Yil {t:TypeId} {cs:Array Value} {off:Nat} {v:Value} (h:(P.underlying t).isSome=true) (ha:Zeo P t=false) (hv:cs[off]?=some v):eval? P (part t cs off)=some v:=by
 unfold part;rw[Xe,Yvl h ha];simp only[ZZa,ZZf,if_false,hv];rfl
theorem Ycy:∀{xs:List V} {l:List Value},Zbw xs=some l->xs=l.map V.lit:=by
 intro xs
 induction xs with
 | nil=>intro l h;simp only[Zbw,ZZd] at h;subst h;rfl
 | cons x xs ih=>
  intro l h;cases x<;>simp only[Zbw] at h<;>try cases h
  obtain⟨l',h1,rfl⟩:=ZZc.1 h;rw[ih h1];rfl
def Z66 (n:Nat) (X Y:Array Value) (f:Field) (s:Option Bool×Unit):Sem (ForInStep (Option Bool×Unit)):=
 if f.name ≠ "_" then do
  let a <-part f.type X f.offset
  let b <-part f.type Y f.offset
  let c <-Go.Op.equalIn (n+1) f.type a b
  if (!c)=true then pure (ForInStep.done (some false,())) else pure (ForInStep.yield (none,()))
 else pure (ForInStep.yield (none,()))
theorem Yyk {n:Nat} {X Y:Array Value} {f:Field} {s:Option Bool×Unit} {u v:Value} {c:Bool} (hn:(f.name != "_")=true) (hu:(P.underlying f.type).isSome=true) (ha:Zeo P f.type=false) (hx:X[f.offset]?=some u) (hy:Y[f.offset]?=some v) (hc:eval? P (Go.Op.equalIn (n+1) f.type u v)=some c):
  eval? P (Z66 n X Y f s)=some (if c then .yield (none,()) else .done (some false,())):=by
 unfold Z66;rw[ZZj (by simpa using hn),Xe,Yil hu ha hx,ZZa,Xe,Yil hu ha hy,ZZa,Xe,hc,ZZa];cases c<;>rfl
theorem eqLoop {n:Nat} {X Y:List Value}:∀(l:List Field) (i:Nat) (b:Bool),Zsl P i l ((X.drop i).map V.lit)=true->Zdk ((X.drop i).map V.lit) ((Y.drop i).map V.lit)=some b->
  eval? P (forIn l (none,()) (Z66 n X.toArray Y.toArray))=some (if b then (none,()) else (some false,())):=by
 intro l
 induction l with
 | nil=>
  intro i b hf he;cases hX:X.drop i with
  | cons v l=>rw[hX] at hf;simp[Zsl] at hf
  | nil=>
   rw[hX] at he;cases hY:Y.drop i with
   | cons v l=>rw[hY] at he;simp[Zdk] at he
   | nil=>
    rw[hY] at he;simp only[Vck,Zdk,ZZd] at he;subst he;rfl
 | cons f l ih=>
  intro i b hf he;have drop1:∀{Z:List Value} {v:Value} {zs:List Value},Z.drop i=v::zs->Z.drop (i+1)=zs/\Z.toArray[i]?=some v:=λ{Z v zs} hz=>by
   constructor
   .rw[<-List.drop_drop,hz];rfl
   .have:=congrArg List.head? hz
    rw[List.head?_drop] at this;simpa using this
  have step:∀(u v:Value) (xs ys:List Value) (c b':Bool),X.drop i=u::xs->Y.drop i=v::ys->(f.name != "_")=true->f.offset=i->Zeo P f.type=false->(P.underlying f.type).isSome=true->eval? P (Go.Op.equalIn (n+1) f.type u v)=some c->
    Zsl P (i+1) l (xs.map V.lit)=true->Zdk (xs.map V.lit) (ys.map V.lit)=some b'->b=(c&&b')->eval? P (forIn (f::l) (none,()) (Z66 n X.toArray Y.toArray))=some (if b then (none,()) else (some false,())):=by
   intro u v xs ys c b' hX hY hn ho ha hu hc Q9 hel hb;obtain⟨dx,ax⟩:=drop1 hX;obtain⟨dy,ay⟩:=drop1 hY;rw[List.forIn_cons,Xe,Yyk hn hu ha (by rw[ho];exact ax) (by rw[ho];exact ay) hc];cases c with
   | true=>
    simp only[if_true,ZZa];rw[ih (i+1) b' (by rw[dx];exact Q9) (by rw[dx,dy];exact hel),hb];rfl
   | false=>
    simp only[ZZf,if_false,ZZa];rw[hb];rfl
  cases hX:X.drop i with
  | nil=>rw[hX] at hf;simp[Zsl] at hf
  | cons u xs=>
   rw[hX] at hf he;cases hY:Y.drop i with
   | nil=>rw[hY] at he;cases u<;>simp[Zdk] at he
   | cons v ys=>
    rw[hY] at he;simp only[Va7] at hf he;cases u with
    | int k a=>
     simp only[Zsl,ZZg,Vb0,beq_iff_eq] at hf;obtain⟨⟨⟨⟨h1,h2⟩,h3⟩,h4⟩,h5⟩:=hf;cases v with
     | int k' b2=>
      simp only[Zdk] at he;split at he
      .rename_i hk
       subst hk;obtain⟨b',h6,h7⟩:=ZZc.1 he;split at h4
       .rename_i k0 hk0
        exact step _ _ _ _ _ _ hX hY h1 h2 h3 (by rw[hk0];rfl) (Yxn hk0) h5 h6 h7.symm
       .cases h4
      .cases he
     | _=>simp[Zdk] at he
    | bool a=>
     simp only[Zsl,ZZg,Vb0,beq_iff_eq] at hf;obtain⟨⟨⟨⟨h1,h2⟩,h3⟩,h4⟩,h5⟩:=hf;cases v with
     | bool b2=>
      simp only[Zdk] at he;obtain⟨b',h6,h7⟩:=ZZc.1 he;split at h4
      .rename_i hk0
       exact step _ _ _ _ _ _ hX hY h1 h2 h3 (by rw[hk0];rfl) (Yra hk0) h5 h6 h7.symm
      .cases h4
     | _=>simp[Zdk] at he
    | _=>simp[Zsl] at hf
theorem Ynr {n:Nat} {t:TypeId} {fs:Array Field} {X Y:List Value} {b:Bool} (ht:P.underlying t=some (.struct fs)) (hs:P.stoodInHeld t=false) (hx:Zsl P 0 fs.toList (X.map V.lit)=true) (he:Zdk (X.map V.lit) (Y.map V.lit)=some b):
  eval? P (Go.Op.equalIn (n+2) t (.agg X.toArray) (.agg Y.toArray))=some b:=by
 unfold Go.Op.equalIn;rw[Xe,Zkn ht];simp only[ZZa];rw[Xe];show (some P).bind _=_;simp only[ZZa,hs,ZZf,if_false];have key:=eqLoop (P:=P) (n:=n) (X:=X) (Y:=Y) fs.toList 0 b (by simpa using hx) (by simpa using he);rw[Array.forIn_toList] at key;rw[Xe];show (eval? P (forIn fs (none,()) (Z66 n X.toArray Y.toArray))).bind _=_;rw[key];cases b<;>rfl
def Z47 (P:Program) (t:TypeId) (xs:List V):Bool:=match P.underlying t with
 | some (.struct fs)=>!(P.stoodInHeld t)&&!(P.eqGuardType P.depth t)&&Zsl P 0 fs.toList xs
 | _=>false
theorem Yi2 {t:TypeId} {xs ys:List V} {X Y:List Value} {b:Bool} (hx:Zbw xs=some X) (hy:Zbw ys=some Y) (hf:Z47 P t xs=true) (he:Zdk xs ys=some b):eval? P (Go.Op.equal t (.agg X.toArray) (.agg Y.toArray))=some b:=by
 unfold Z47 at hf;split at hf
 .rename_i fs ht
  simp only[ZZg,Vb0] at hf;have e1:=Ycy hx;have e2:=Ycy hy;rw[e1] at hf he;rw[e2] at he;exact Ynr (n:=9998) ht hf.1.1 hf.2 he
 .cases hf
theorem Z94 {op:BinOp} {t:TypeId} {x y:Operand} {xs:List V} {X Y:Array Value} (hf:Z47 P t xs=true):eval? P (eqGuard op t x y (.agg X) (.agg Y))=some ():=by
 unfold Z47 at hf;split at hf
 .simp only[ZZg,Vb0] at hf
  unfold eqGuard;cases op<;>first
   | rfl
   | (
     simp only[Va5,ZZf,if_false];rw[Xe];show (some P).bind _=_;simp only[ZZa];rw[Xe];show (some P).bind _=_;simp only[ZZa,hf.1.2,Vbf,if_true];rfl)
 .cases hf
theorem Yyf {t:TypeId} {x y:Operand} {xs ys:List V} {b:Bool} (hx:(Zbw xs).isSome=true) (hy:(Zbw ys).isSome=true) (hf:Z47 P t xs=true) (he:Zdk xs ys=some b):Zke P .eql t x y (.agg xs) (.agg ys)=some (.lit (.bool b)):=by
 obtain⟨X,h1⟩:=Val.1 hx;obtain⟨Y,h2⟩:=Val.1 hy;simp only[Zke,Xu,h1,h2,Var,Vcf,Vcc,if_true,Va0];rw[Xe,Z94 hf,ZZa];have e:(binOp .eql t (.agg X.toArray) (.agg Y.toArray):Sem Value)=((λb=>Value.bool b) <$> Go.Op.equal t (.agg X.toArray) (.agg Y.toArray)):=rfl;rw[e,Zx0,Yi2 h1 h2 hf he];rfl
theorem Yye {t:TypeId} {x y:Operand} {xs ys:List V} {b:Bool} (hx:(Zbw xs).isSome=true) (hy:(Zbw ys).isSome=true) (hf:Z47 P t xs=true) (he:Zdk xs ys=some b):Zke P .neq t x y (.agg xs) (.agg ys)=some (.lit (.bool (!b))):=by
 obtain⟨X,h1⟩:=Val.1 hx;obtain⟨Y,h2⟩:=Val.1 hy;simp only[Zke,Xu,h1,h2,Var,Vcf,Vcc,if_true,Va0];rw[Xe,Z94 hf,ZZa];have e:(binOp .neq t (.agg X.toArray) (.agg Y.toArray):Sem Value)=((λb=>Value.bool (!b)) <$> Go.Op.equal t (.agg X.toArray) (.agg Y.toArray)):=rfl;rw[e,Zx0,Yi2 h1 h2 hf he];rfl
end
end Go.Proofs.YtagdmghmblplbaaGreat.Ev
namespace Go.Proofs.YtagdmghmblplbaaGreat.Ev
open Go Go.RowKit
variable [Anchor]
inductive O where
 | t (b:Bool)
 | k
 | row (n:Nat) (r:List V)
 | cell (r:List V)
 | put (r:List V) (R:List (List V))
 | num (l h n:Nat) (R:List (List V))
 | app (m:List (List V)) (lb:Bool) (R:List (List V)) (n:Nat)
 | mk (n:Nat) (R:List (List V))
 | res (r:V) (os:List V)
 | val (v:V)
 | stop
 | enter
 | obl
def All:List Prop->Prop
 | []=>True
 | p::ps=>p/\All ps
theorem All.app {a b:List Prop} (h:All (a++b)):All a/\All b:=by
 induction a with
 | nil=>exact⟨trivial,h⟩
 | cons p a ih=>exact⟨⟨h.1,(ih h.2).1⟩,(ih h.2).2⟩
abbrev KM (α:Type):=List O->Option (α×List Prop×List O)
namespace KM
def ret {α:Type} (a:α):KM α:=λq=>some (a,[],q)
def bnd {α β:Type} (x:KM α) (f:α->KM β):KM β:=λq=>match x q with
 | some (a,o1,q1)=>match f a q1 with
  | some (b,o2,q2)=>some (b,o1++o2,q2)
  | none=>none
 | none=>none
def opt {α:Type} (x:Option α):KM α:=λq=>match x with|some a=>some (a,[],q)|none=>none
def obl (p:Prop):KM Unit:=λq=>some ((),[p],q)
def hear:KM O:=λq=>match q with|o::q=>some (o,[],q)|[]=>none
def fail {α:Type}:KM α:=λ_=>none
end KM
def KS {α:Type} (x:KM α) (y:Option α):Prop:=∀q a obs q',x q=some (a,obs,q')->All obs->y=some a
def KP {α:Type} (x:KM α) (Q:α->Prop):Prop:=∀q a obs q',x q=some (a,obs,q')->All obs->Q a
section
variable {α β:Type}
theorem KS.kp {x:KM α} {y:Option α} (h:KS x y):KP x (λa=>y=some a):=h
theorem KP.mono {x:KM α} {Q Q':α->Prop} (h:KP x Q) (hq:∀a,Q a->Q' a):KP x Q':=λq a obs q' e ho=>hq a (h q a obs q' e ho)
theorem Z0 {a:α} {Q:α->Prop} (h:Q a):KP (KM.ret a) Q:=λq b obs q' e ho=>by
 simp only[KM.ret,ZZd,ZZe] at e;obtain⟨rfl,_⟩:=e;exact h
theorem Zo {Q:α->Prop}:KP (KM.fail:KM α) Q:=λq b obs q' e ho=>by cases e
theorem Zp {x:KM α} {f:α->KM β} {Q:α->Prop} {R:β->Prop} (h:KP x Q) (hf:∀a,Q a->KP (f a) R):KP (KM.bnd x f) R:=λq b obs q' e ho=>by
 simp only[KM.bnd] at e;split at e
 .rename_i a o1 q1 h1
  split at e
  .rename_i b' o2 q2 h2
   simp only[ZZd,ZZe] at e;obtain⟨rfl,rfl,rfl⟩:=e;obtain⟨a1,a2⟩:=ho.app;exact hf a (h q a o1 q1 h1 a1) q1 b' o2 q2 h2 a2
  .cases e
 .cases e
theorem Qf {x:Option α}:KP (KM.opt x) (λa=>x=some a):=λq b obs q' e ho=>by
 simp only[KM.opt] at e;split at e
 .simp only[ZZd,ZZe] at e
  obtain⟨rfl,_⟩:=e;rfl
 .cases e
theorem Yd {p:Prop}:KP (KM.obl p) (λ_=>p):=λq b obs q' e ho=>by
 simp only[KM.obl,ZZd,ZZe] at e;obtain⟨_,rfl,_⟩:=e;exact ho.1
theorem Wb:KP KM.hear (λ_=>True):=λ_ _ _ _ _ _=>trivial
theorem Y1 {c:Prop} [Decidable c] {x y:KM α} {Q:α->Prop} (h1:c->KP x Q) (h2:¬c->KP y Q):KP (if c then x else y) Q:=by
 by_cases hc:c
 .rw[ZZj hc];exact h1 hc
 .rw[ZZi hc];exact h2 hc
theorem W6 {a:α}:KS (KM.ret a) (some a):=Z0 rfl
theorem Zhz {x:KM α} {y:Option α} {f:α->KM β} {g:α->Option β} (h:KS x y) (hf:∀a,KS (f a) (g a)):KS (KM.bnd x f) (y.bind g):=
 Zp h (λa e q b obs q' e2 ho=>by rw[e];exact hf a q b obs q' e2 ho)
theorem W7 {x:KM α} {y:Option α} {f:α->β} (h:KS x y):KS (KM.bnd x λa=>KM.ret (f a)) (y.map f):=
 Zp h (λa e=>by rw[e];exact Z0 rfl)
theorem Zqz {x:Option α}:KS (KM.opt x) x:=Qf
end
open KM
def offN:Nat->Nat->Nat
 | 0,n=>n
 | m+1,n=>m+1+n
theorem Ysh (m n:Nat):offN m n=m+n:=by cases m<;>simp[offN]
def Ykf (rows:List (List V)) (off len:Nat):KM (List (List V)):=bnd hear λo=>match o with
 | .k=>match off with
  | 0=>bnd (obl (len=rows.length)) λ_=>ret rows
  | _=>fail
 | .mk _ R=>bnd (obl (off+len<=rows.length)) λ_=>bnd (obl ((rows.drop off).take len=R)) λ_=>ret R
 | _=>fail
theorem Yn2 {rows:List (List V)} {off len:Nat}:KP (Ykf rows off len) (λr=>off+len<=rows.length/\r=(rows.drop off).take len):=by
 unfold Ykf;refine Zp Wb (λo _=>?_);split
 .split
  .refine Zp Yd (λ_ h=>Z0 ⟨by omega,?_⟩)
   rw[h];simp
  .exact Zo
 .exact Zp Yd (λ_ h1=>Zp Yd (λ_ h2=>Z0 ⟨h1,h2.symm⟩))
 .exact Zo
def Zr3 (s:St):V->KM (List (List V))
 | .sl id off len=>match s.heap id with
  | some b=>if b.box=false then Ykf b.rows off len else fail
  | none=>fail
 | .tr rows|.vw rows=>ret rows
 | .lit (.slice none 0 0)=>ret []
 | _=>fail
theorem Zgn {s:St} {x:V}:KS (Zr3 s x) (s.rowsOf x):=by
 unfold Zr3;split
 .rename_i id off len
  simp only[St.rowsOf];split
  .rename_i b hb
   refine Y1 (λhx=>?_) (λ_=>Zo);rw[hb,ZZa];refine Yn2.mono λr hr=>?_;rw[ZZj ⟨hx,hr.1⟩,hr.2]
  .exact Zo
 .exact W6
 .exact W6
 .exact W6
 .exact Zo
def Z2g (s:St) (id:Id) (off len:Nat):KM (TypeId×List (List V)):=
 match s.heap id with
 | some b=>if b.box=false/\b.own=true/\b.cl=true then bnd (Ykf b.rows off len) λr=>ret (b.el,r) else fail
 | none=>fail
theorem Z0q {s:St} {id:Id} {off len:Nat}:KS (Z2g s id off len) (s.whole id off len):=by
 unfold Z2g St.whole;split
 .rename_i b hb
  refine Y1 (λhx=>?_) (λ_=>Zo);rw[hb,ZZa];refine Zp Yn2 (λr hr=>Z0 ?_);rw[ZZj ⟨hx.1,hx.2.1,hx.2.2,hr.1⟩,hr.2]
 .exact Zo
def Z9d (s:St):V->KM V
 | .lit (.slice none 0 0)=>ret (.tr [])
 | .lit v=>ret (.lit v)
 | .tr rows=>ret (.tr rows)
 | .vw rows=>ret (.tr rows)
 | .sl id off len=>bnd (Zr3 s (.sl id off len)) λr=>ret (.tr r)
 | .rp _ row off=>ret (.rp true row off)
 | _=>fail
theorem Ydq {s:St} {x:V}:KS (Z9d s x) (s.rdCell x):=by
 unfold Z9d;split
 .exact W6
 .rename_i v hv
  have:s.rdCell (.lit v)=some (.lit v):=by
   unfold St.rdCell;split<;>simp_all
  rw[this];exact W6
 .exact W6
 .exact W6
 .exact W7 Zgn
 .exact W6
 .exact Zo
def Zx9 (s:St):List V->KM (List V)
 | []=>ret []
 | x::r=>bnd (Z9d s x) λy=>bnd (Zx9 s r) λz=>ret (y::z)
theorem Z1e {s:St}:∀{xs:List V},KS (Zx9 s xs) (s.rdCells xs):=by
 intro xs
 induction xs with
 | nil=>exact W6
 | cons x xs ih=>exact Zhz Ydq λy=>W7 ih
def Z3f (s:St):V->KM V
 | .ptr id i off=>match s.heap id with
  | some b=>if b.own=true then (match b.box,b.rows,i with
   | true,[row],0=>bnd (Zx9 s row) λcs=>ret (.rp true cs off)
   | _,_,_=>bnd hear λo=>match o with
    | .cell row=>bnd (obl (b.rows[i]?=some row)) λ_=>bnd (Zx9 s row) λcs=>ret (.rp true cs off)
    | _=>fail) else fail
  | none=>fail
 | x=>Z9d s x
theorem Z92 {s:St} {x:V}:KS (Z3f s x) (s.rdPlace x):=by
 unfold Z3f;split
 .rename_i id i off
  simp only[St.rdPlace];split
  .rename_i b hb
   refine Y1 (λhx=>?_) (λ_=>Zo);rw[hb,ZZa,ZZj hx];split
   .rename_i row h1 h2
    rw[h2];exact W7 Z1e
   .refine Zp Wb (λo _=>?_)
    split
    .refine Zp Yd (λ_ h=>?_)
     rw[h];exact W7 Z1e
    .exact Zo
  .exact Zo
 .rename_i _ hx
  have:s.rdPlace x=s.rdCell x:=by
   unfold St.rdPlace;split<;>simp_all
  rw[this];exact Ydq
def Z6g (s:St):List V->KM (List V)
 | []=>ret []
 | x::r=>bnd (Z3f s x) λy=>bnd (Z6g s r) λz=>ret (y::z)
theorem Ymk {s:St}:∀{xs:List V},KS (Z6g s xs) (s.rdPlaces xs):=by
 intro xs
 induction xs with
 | nil=>exact W6
 | cons x xs ih=>exact Zhz Z92 λy=>W7 ih
def Yk1 (s:St):V->KM V
 | .agg cs=>bnd (Zx9 s cs) λy=>ret (.agg y)
 | .fn f caps=>bnd (Z6g s caps) λy=>ret (.fn f y)
 | x=>Z3f s x
theorem Yxh {s:St} {x:V}:KS (Yk1 s x) (s.rdArg x):=by
 unfold Yk1;split
 .exact W7 Z1e
 .exact W7 Ymk
 .rename_i _ h1 h2
  have:s.rdArg x=s.rdPlace x:=by
   unfold St.rdArg;split<;>simp_all
  rw[this];exact Z92
def Ydr (s:St):List Yh->List V->KM (List V)
 | _,[]=>ret []
 | ms,x::r=>bnd (match ms.headD .rd with|.rd=>Yk1 s x|_=>ret x) λy=>bnd (Ydr s ms.tail r) λz=>ret (y::z)
theorem Ywd {s:St}:∀{xs:List V} {ms:List Yh},KS (Ydr s ms xs) (s.rdAll ms xs):=by
 intro xs
 induction xs with
 | nil=>intro ms;exact W6
 | cons x xs ih=>
  intro ms;simp only[Ydr,St.rdAll];refine Zhz ?_ λy=>W7 ih;unfold St.rdArgM;cases ms.headD .rd<;>simp only<;>first|exact Yxh|exact W6
def Zvf (s:St) (t:Option TypeId):V->KM (V×St)
 | .lit (.slice none 0 0)=>bnd (opt t) λe=>ret (.own e [],s)
 | .lit v=>ret (.lit v,s)
 | .tr rows=>ret (.tr rows,s)
 | .vw rows=>ret (.tr rows,s)
 | .sl id off len=>bnd (Z2g s id off len) λer=>ret (.own er.1 er.2,s.kill id)
 | _=>fail
theorem Zy2 {s:St} {t:Option TypeId} {x:V}:KS (Zvf s t x) (s.giveCell t x):=by
 unfold Zvf;split
 .exact W7 Zqz
 .rename_i v hv
  have:s.giveCell t (.lit v)=some (.lit v,s):=by
   unfold St.giveCell;split<;>simp_all
  rw[this];exact W6
 .exact W6
 .exact W6
 .exact W7 Z0q
 .exact Zo
def Zrp:List (Option TypeId)->List V->(s:St)->KM (List V×St)
 | _,[],s=>ret ([],s)
 | ts,x::r,s=>bnd (Zvf s (ts.headD none) x) λy=>bnd (Zrp ts.tail r y.2) λz=>ret (y.1::z.1,z.2)
theorem Zvx:∀{xs:List V} {s:St} {ts:List (Option TypeId)},KS (Zrp ts xs s) (s.giveCells ts xs):=by
 intro xs
 induction xs with
 | nil=>intro s ts;exact W6
 | cons x xs ih=>intro s ts;exact Zhz Zy2 λy=>W7 ih
def Z3z (s:St) (ts:List (Option TypeId)):V->KM (V×St)
 | .agg cs=>bnd (Zrp ts cs s) λy=>ret (.agg y.1,y.2)
 | x=>Zvf s (ts.headD none) x
theorem Z9p {s:St} {ts:List (Option TypeId)} {x:V}:KS (Z3z s ts x) (s.giveArg ts x):=by
 unfold Z3z;split
 .exact W7 Zvx
 .rename_i _ h1
  have:s.giveArg ts x=s.giveCell (ts.headD none) x:=by
   unfold St.giveArg;split<;>simp_all
  rw[this];exact Zy2
def Zyd (s:St) (ts:List (Option TypeId)) (id:Id):KM (List V×St):=
 match s.heap id with
 | some b=>if b.box=true/\b.own=true then (match b.rows with
  | [row]=>Zrp ts row (s.kill id)
  | _=>fail) else fail
 | none=>fail
theorem Z1s {s:St} {ts:List (Option TypeId)} {id:Id}:KS (Zyd s ts id) (s.giveBox ts id):=by
 unfold Zyd St.giveBox;split
 .rename_i b hb
  refine Y1 (λhx=>?_) (λ_=>Zo);rw[hb,ZZa,ZZj hx];split
  .rename_i row Yx
   rw[Yx];exact Zvx
  .exact Zo
 .exact Zo
def Yn1:V->KM V
 | .sl id off len=>bnd hear λo=>match o with
  | .t true=>bnd (obl (len=0)) λ_=>ret (.tr [])
  | .t false=>bnd (obl (len≠0)) λ_=>ret (.sl id off len)
  | _=>fail
 | x=>ret x
theorem Yib {x:V}:KP (Yn1 x) (λy=>thin1 x=y):=by
 cases x with
 | sl id off len=>
  refine Zp Wb (λo _=>?_);cases o with
  | t b=>cases b with
   | true=>exact Zp Yd (λ_ h=>Z0 (by subst h;rfl))
   | false=>exact Zp Yd (λ_ h=>Z0 (by cases len with|zero=>exact absurd rfl h|succ n=>rfl))
  | _=>exact Zo
 | _=>exact Z0 rfl
def Yl5:List V->KM (List V)
 | []=>ret []
 | x::xs=>bnd (Yn1 x) λy=>bnd (Yl5 xs) λys=>ret (y::ys)
theorem Yxu:∀{xs:List V},KP (Yl5 xs) (λys=>xs.map thin1=ys):=by
 intro xs
 induction xs with
 | nil=>exact Z0 rfl
 | cons x xs ih=>exact Zp Yib (λy hy=>Zp ih (λys hys=>Z0 (by rw[<-hy,<-hys];rfl)))
def Yki:V->KM V
 | .agg cs=>bnd (Yl5 cs) λys=>ret (.agg ys)
 | x=>Yn1 x
theorem Ym2 {x:V}:KP (Yki x) (λy=>thin x=y):=by
 cases x with
 | agg cs=>exact Zp Yxu (λys h=>Z0 (by rw[<-h];rfl))
 | _=>simp only[Yki,thin];exact Yib
def Ytv (ts:List (Option TypeId)) (m:Yh) (x:V) (s:St):KM (V×St):=
 match m with
 | .rd=>ret (x,s)
 | .io=>match x with
  | .ptr id 0 0=>bnd (Zyd s ts id) λy=>ret (.agg y.1,y.2)
  | _=>fail
 | .mv=>Z3z s ts x
 | .iov=>bnd (Yki x) λy=>Z3z s ts y
theorem Yzc {s:St} {ts:List (Option TypeId)} {m:Yh} {x:V}:KS (Ytv ts m x s) (s.give ts m x):=by
 unfold Ytv St.give;cases m
 .exact W6
 .simp only
  split
  .exact W7 Z1s
  .exact Zo
 .exact Z9p
 .refine Zp Ym2 (λy hy=>?_)
  rw[<-hy];exact Z9p
def Yt7 (s:St) (m:Yh) (e k:Nat) (x o:V):KM St:=match m with
 | .iov=>bnd (Yki x) λy=>opt (match y,o with
  | .agg cs,.agg ns=>s.backCells cs ns
  | x,o=>s.backCells [x] [o])
 | .rd=>ret s
 | .mv=>ret s
 | .io=>opt (s.back .io e k x o)
theorem Yzf {s:St} {m:Yh} {e k:Nat} {x o:V}:KS (Yt7 s m e k x o) (s.back m e k x o):=by
 cases m
 .exact W6
 .exact Zqz
 .exact W6
 .simp only[Yt7,St.back]
  refine Zp Ym2 (λy hy=>?_);rw[hy];exact Zqz
def Yl0 (e:Nat):List Yh->(k:Nat)->List V->List V->(s:St)->KM St
 | _,_,[],_,s=>ret s
 | ms,k,x::xs,o::os,s=>bnd (Yt7 s (ms.headD .rd) e k x o) λs=>Yl0 e ms.tail (k+1) xs os s
 | _,_,_::_,[],_=>fail
theorem Yxi {e:Nat}:∀{xs:List V} {s:St} {ms:List Yh} {k:Nat} {os:List V},KS (Yl0 e ms k xs os s) (s.backs e ms k xs os):=by
 intro xs
 induction xs with
 | nil=>intro s ms k os;exact W6
 | cons x xs ih=>
  intro s ms k os;cases os with
  | nil=>exact Zo
  | cons o os=>exact Zhz Yzf λs=>ih
def Ylx (P:Program):List TypeId->List Yh->List V->(s:St)->KM (List V×St)
 | _,_,[],s=>ret ([],s)
 | ts,ms,x::r,s=>bnd (Ytv (Z2d P (ts.headD 0)) (ms.headD .rd) x s) λy=>bnd (Ylx P ts.tail ms.tail r y.2) λz=>ret (y.1::z.1,z.2)
theorem Yxd {P:Program}:∀{xs:List V} {s:St} {ts:List TypeId} {ms:List Yh},KS (Ylx P ts ms xs s) (s.gives P ts ms xs):=by
 intro xs
 induction xs with
 | nil=>intro s ts ms;exact W6
 | cons x xs ih=>intro s ts ms;exact Zhz Yzc λy=>W7 ih
def Zwf:List V->(s:St)->KM (List V×Bool×St)
 | [],s=>ret ([],true,s)
 | x::r,s=>
  match x with
  | .lit (.slice none 0 0)=>bnd (Zwf r s) λy=>ret (.tr []::y.1,y.2)
  | .lit v=>bnd (Zwf r s) λy=>ret (.lit v::y.1,y.2)
  | .tr rows|.vw rows=>bnd (Zwf r s) λy=>ret (.tr rows::y.1,false,y.2.2)
  | .sl id off len=>match s.heap id with
   | some b=>if b.own=true/\b.box=false/\b.cl=true then bnd (Z2g s id off len) λer=>bnd (Zwf r (s.kill id)) λy=>ret (.tr er.2::y.1,y.2)
    else if b.own=false then bnd (Zr3 s (.sl id off len)) λrows=>bnd (Zwf r s) λy=>ret (.tr rows::y.1,false,y.2.2) else fail
   | none=>fail
  | _=>fail
def Z6e:List (List V)->(s:St)->KM (List (List V)×Bool×St)
 | [],s=>ret ([],true,s)
 | row::r,s=>bnd (Zwf row s) λy=>bnd (Z6e r y.2.2) λz=>ret (y.1::z.1,y.2.1&&z.2.1,z.2.2)
theorem Ymg:∀{xs:List V} {s:St},KS (Zwf xs s) (s.sink xs):=by
 intro xs
 induction xs with
 | nil=>intro s;exact W6
 | cons x xs ih=>
  intro s;unfold Zwf;split
  .exact W7 ih
  .rename_i v hv
   have:s.sink (.lit v::xs)=(s.sink xs).map λy=>(.lit v::y.1,y.2):=by
    conv=>lhs;unfold St.sink
    split<;>simp_all
   rw[this];exact W7 ih
  .exact W7 ih
  .exact W7 ih
  .rename_i id off len
   simp only[St.sink];split
   .rename_i b hb
    refine Y1 (λhx=>?_) (λhn=>Y1 (λho=>?_) (λ_=>Zo))
    .refine Zp Z0q (λer he=>?_)
     rw[he];exact W7 ih
    .refine Zp Zgn (λrows hr=>?_)
     have hw:s.whole id off len=none:=by
      unfold St.whole;rw[hb,ZZa,ZZi (λh=>by rw[ho] at h;cases h.2.1)]
     simp only[hw,hb,ho,if_true];rw[hr,ZZa];exact W7 ih
   .exact Zo
  .exact Zo
theorem Yll:∀{xs:List (List V)} {s:St},KS (Z6e xs s) (s.sinkRows xs):=by
 intro xs
 induction xs with
 | nil=>intro s;exact W6
 | cons x xs ih=>intro s;exact Zhz Ymg λy=>W7 ih
end Go.Proofs.YtagdmghmblplbaaGreat.Ev
