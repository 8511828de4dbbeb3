/- A part of the proof of FnExactBusStep: see the text YtagdmghmblplbaaGreatLawFnExactBusStep for what is proved and its conditions. Conditions here: those in each line. -/
import Derived.Test.YtagdmghmblplbaaGreatA4
set_option linter.unusedSimpArgs false
set_option linter.unusedVariables false
set_option linter.unusedSectionVars false
namespace Go.Proofs.YtagdmghmblplbaaGreat.Ev
open Go Go.Proofs
variable [Anchor]
def Mo:Ys:=⟨λf=>(List.lookup f [(17,[.iov,.rd]),(18,[.iov,.rd]),(19,[.iov,.rd]),(27,[.iov,.rd]),(28,[.iov,.rd]),(40,[.iov,.rd]),(56,[.iov,.rd]),(57,[.iov,.rd]),(73,[.iov,.rd]),(74,[.iov,.rd]),(75,[.iov,.rd]),(76,[.iov,.rd]),(129,[.iov,.rd]),(173,[.io]),(226,[.io]),(228,[.io]),(233,[.io]),(175,[.io]),(97,[.io]),(172,[.io,.rd,.io]),(149,[.mv]),(150,[.mv]),(152,[.mv]),(151,[.mv]),(251,[.mv,.rd])]).getD [],λ_=>false⟩
abbrev Y:=FuncId×List V×V×List V
abbrev RF (fn:Func) (y:Y):Ex->St->Prop:=Ydz Tryz.prog Mo y.1 fn y.2.1 y.2.2
theorem Yx9 {P:Program} (hm:P.follows .mixedOrders=true) (h:P.funcs.toList.all (λfn=>(match fn.body with|some c=>Kd fn.ntmps c|none=>true)&&!(fn.name == "runtime.NumGoroutine"))=true):Yn P:=by
 rw[ZZk] at h;refine⟨hm,λf fn c hf hc=>?_,λf fn hf=>?_⟩
 .have:=h fn (Array.mem_toList_iff.2 (Vef hf))
  rw[hc] at this;simp only[ZZg] at this;exact this.1
 .have:=h fn (Array.mem_toList_iff.2 (Vef hf))
  simp only[ZZg,Vb1] at this;exact this.2
theorem fOk:Yn Tryz.prog:=Yx9 (by kernel_rfl) (by kernel_rfl)
theorem bnK {α β:Type} {x:Option α} {f:α->Option β} {b:β} {G:Prop} (h:x.bind f=some b) (k:∀a,x=some a->f a=some b->G):G:=by
 obtain⟨a,h1,h2⟩:=Y2s h;exact k a h1 h2
theorem itK {β:Type} {t:Bool} {x y:Option β} {b:β} {G:Prop} (h:(if t=true then x else y)=some b) (k1:t=true->x=some b->G) (k2:t=false->y=some b->G):G:=by
 rcases Y3v h with⟨h1,h2⟩|⟨h1,h2⟩
 .exact k1 h1 h2
 .exact k2 h1 h2
theorem rtQ {α:Type} {F:α->Y} {fn:Func} {a r:α} {p:Prop} {stk:List It} {s:St} (h:some a=some r) (q:List O) (hp:p) (e:Z9g (runK Tryz.prog Mo (F a).1 fn (F a).2.1 100000 stk s q)=some (p,(F a).2.2):=by kernel_rfl):SX Tryz.prog (RF fn (F r)) stk .normal s:=by
 cases h;exact Yva fOk 100000 q hp e
theorem rtK {α:Type} {F:α->Y} {fn:Func} {a r:α} {p:Prop} {stk:List It} {s:St} {q:List O} (h:some a=some r) (hp:Scr q p) (e:Z9g (runK Tryz.prog Mo (F a).1 fn (F a).2.1 100000 stk s q)=some (p,(F a).2.2):=by kernel_rfl):SX Tryz.prog (RF fn (F r)) stk .normal s:=by
 cases h;exact Yva fOk 100000 q hp e
theorem cutQ {y:Y} {fn:Func} {stk k2:List It} {s:St} {p:Prop} {l:List (Nat×V)} {h:List (Id×Blk)} {ep:Nat} (f:List (Id×Id)) (n:Nat) (q:List O) (hp:p) (hn:SX Tryz.prog (RF fn y) k2 .normal (mkS l h ep))
  (e:Z9g (cutK Tryz.prog Mo f l h n stk s q)=some (p,(k2,Yda f l h)):=by kernel_rfl) (hb:(isC k2&&cutB f l h ep)=true:=by kernel_rfl):SX Tryz.prog (RF fn y) stk .normal s:=Yuz (M:=Mo) fOk f n q hp hn e hb
theorem Zj {y:Y} {fn:Func} {stk k2:List It} {s:St} {p:Prop} {l:List (Nat×V)} {h:List (Id×Blk)} {ep:Nat} {q:List O} (f:List (Id×Id)) (n:Nat) (hp:Scr q p) (hn:SX Tryz.prog (RF fn y) k2 .normal (mkS l h ep))
  (e:Z9g (cutK Tryz.prog Mo f l h n stk s q)=some (p,(k2,Yda f l h)):=by kernel_rfl) (hb:(isC k2&&cutB f l h ep)=true:=by kernel_rfl):SX Tryz.prog (RF fn y) stk .normal s:=Yuz (M:=Mo) fOk f n q hp hn e hb
theorem Zs {α:Type} {F:α->Y} {fn:Func} {r:α} (hfn:Tryz.prog.funcs[(F r).1]?=some fn) (h:SX Tryz.prog (RF fn (F r)) [.c (Xl fn)] .normal (entS Mo (F r).1 (F r).2.1)) (hc:fn.body=some (Xl fn):=by kernel_rfl) (hs:(St.enters ⟨λ_=>.undef,λ_=>none,0⟩ 0 (Mo.modes (F r).1) (F r).2.1).isSome=true:=by kernel_rfl):
  Zu Tryz.prog Mo (F r):=Y25 fOk hfn hc hs h
abbrev CS (y:Y) (fn:Func) (p:List Nat) (l:List (Nat×V)) (h:List (Id×Blk)):Prop:=SX Tryz.prog (RF fn y) (at_ p (Xl fn) []) .normal (mkS l h 1)
abbrev Ypy (x0:List Zd) (x1:Int) (r:Int):Y:=(42,[.tr (x0.map Zd.enc),il x1],il r,[.undef,.undef])
theorem Z9n {x0:List Zd} {x1:Int} {r:Int} (h:Z78 x0 x1=some r):Zu Tryz.prog Mo (Ypy x0 x1 r):=
 Zs Tryz.func42 (itK h (λg1 h=>rtK h (lr Zd.enc x0 (gg g1 ee))) λg1 h=>rtK h (lr Zd.enc x0 (gg g1 ee)))
abbrev Yww (x0:Zk) (x1:Int) (r:Int):Y:=(8,[.agg (Zk.enc x0),il x1],il r,[.undef,.undef])
theorem Yx0 {x0:Zk} {x1:Int} {r:Int} (h:Z5d x0 x1=some r):Zu Tryz.prog Mo (Yww x0 x1 r):=
 Zs Tryz.func8 (bnK h λr0 Zo h=>itK h (λg1 h=>rtK h (rr (Z9n Zo) (gg g1 ee))) λg1 h=>rtK h (rr (Z9n Zo) (gg g1 ee)))
abbrev Ywq (x0:List Int) (x1:Int) (r:Int):Y:=(59,[.tr (x0.map Ze),il x1],il r,[.undef,.undef])
theorem Kz {x0:List Int} {x1:Int} {r:Int} (h:Zf1 x0 x1=some r):Zu Tryz.prog Mo (Ywq x0 x1 r):=
 Zs Tryz.func59 (itK h (λg1 h=>rtK h (lr Ze x0 (gg g1 ee))) λg1 h=>rtK h (lr Ze x0 (gg g1 ee)))
abbrev Y0a (x0:Zf) (x1:Int) (r:Int):Y:=(43,[.agg (Zf.enc x0),il x1],il r,[.undef,.undef])
theorem Z1u {x0:Zf} {x1:Int} {r:Int} (h:Zv7 x0 x1=some r):Zu Tryz.prog Mo (Y0a x0 x1 r):=
 Zs Tryz.func43 (bnK h λr0 Zo h=>itK h (λg1 h=>rtK h (rr (Kz Zo) (gg g1 ee))) λg1 h=>rtK h (rr (Kz Zo) (gg g1 ee)))
abbrev Yfv (x0:List Zf) (x1:Int) (r:Int):Y:=(9,[.tr (x0.map Zf.enc),il x1],il r,[.undef,.undef])
theorem Yit {x0:List Zf} {x1:Int} {r:Int}:∀{m:Nat} {v0:Int} {v1:Int},Znz x0 x1 m v0 v1=some r->CS (Yfv x0 x1 r) Tryz.f9 [1,1,1,0,1,0] [(0,.tr (x0.map Zf.enc)),(1,il v0),(5,il v1)] []:=by
 intro m
 induction m with
 | zero=>intro v0 v1 h;cases h
 | succ m ih=>exactλ{v0} {v1} h=>itK h (λg1 h=>bnK h λa0 Zz h=>bnK h λr0 Zo h=>itK h (λg2 h=>rtK h (lr Zf.enc x0 (gg g1 (xb Zf.enc Zz (rr (Z1u Zo) (gg g2 ee)))))) λg2 h=>Zj [] 16 (lr Zf.enc x0 (gg g1 (xb Zf.enc Zz (rr (Z1u Zo) (gg g2 ee))))) (ih h)) λg1 h=>rtK h (lr Zf.enc x0 (gg g1 ee))
theorem Yg4 {x0:List Zf} {x1:Int} {r:Int} (h:Z4w x0 x1=some r):Zu Tryz.prog Mo (Yfv x0 x1 r):=
 Zs Tryz.func9 (itK h (λg1 h=>rtK h (lr Zf.enc x0 (gg g1 ee))) λg1 h=>Zj [] 13 (lr Zf.enc x0 (gg g1 ee)) (Yit h))
abbrev Ywh (x0:Zl) (x1:Int) (r:Int):Y:=(122,[.agg (Zl.enc x0),il x1],il r,[.undef,.undef])
theorem Yxf {x0:Zl} {x1:Int} {r:Int} (h:Zxk x0 x1=some r):Zu Tryz.prog Mo (Ywh x0 x1 r):=
 Zs Tryz.func122 (bnK h λr0 Zo h=>itK h (λg1 h=>rtK h (rr (Z1u Zo) (gg g1 ee))) λg1 h=>rtK h (rr (Z1u Zo) (gg g1 ee)))
abbrev Ybj (x0:List Zl) (x1:Int) (r:Int):Y:=(58,[.tr (x0.map Zl.enc),il x1],il r,[.undef,.undef])
theorem Yhl {x0:List Zl} {x1:Int} {r:Int}:∀{m:Nat} {v0:Int} {v1:Int},Zle x0 x1 m v0 v1=some r->CS (Ybj x0 x1 r) Tryz.f58 [1,1,1,0,1,0] [(0,.tr (x0.map Zl.enc)),(1,il v0),(5,il v1)] []:=by
 intro m
 induction m with
 | zero=>intro v0 v1 h;cases h
 | succ m ih=>exactλ{v0} {v1} h=>itK h (λg1 h=>bnK h λa0 Zz h=>bnK h λr0 Zo h=>have p1 {q p} (k:Scr q p):=(lr Zl.enc x0 (gg g1 (xb Zl.enc Zz (rr (Yxf Zo) k))));itK h (λg2 h=>rtK h (p1 (gg g2 ee))) λg2 h=>Zj [] 16 (p1 (gg g2 ee)) (ih h)) λg1 h=>rtK h (lr Zl.enc x0 (gg g1 ee))
theorem Yca {x0:List Zl} {x1:Int} {r:Int} (h:Z2u x0 x1=some r):Zu Tryz.prog Mo (Ybj x0 x1 r):=
 Zs Tryz.func58 (itK h (λg1 h=>rtK h (lr Zl.enc x0 (gg g1 ee))) λg1 h=>Zj [] 13 (lr Zl.enc x0 (gg g1 ee)) (Yhl h))
abbrev Zeq (x0:Zi) (x1:Int) (r:Int):Y:=(21,[.agg (Zi.enc x0),il x1],il r,[.undef,.undef])
theorem Z7j {x0:Zi} {x1:Int} {r:Int} (h:Zs7 x0 x1=some r):Zu Tryz.prog Mo (Zeq x0 x1 r):=
 Zs Tryz.func21 (bnK h λr0 Zo h=>itK h (λg1 h=>rtK h (rr (Yca Zo) (gg g1 ee))) λg1 h=>bnK h λr1 Zw h=>have p1 {q p} (k:Scr q p):=(rr (Yca Zo) (gg g1 (rr (Kz Zw) k)));itK h (λg2 h=>rtK h (p1 (gg g2 ee))) λg2 h=>bnK h λr2 Z6 h=>itK h (λg3 h=>rtK h (p1 (gg g2 (rr (Kz Z6) (gg g3 ee))))) λg3 h=>rtK h (p1 (gg g2 (rr (Kz Z6) (gg g3 ee)))))
abbrev Y1x (x0:Zb) (x1:Int) (r:Int):Y:=(133,[.agg (Zb.enc x0),il x1],il r,[.undef,.undef])
theorem Yj6 {x0:Zb} {x1:Int} {r:Int} (h:Z04 x0 x1=some r):Zu Tryz.prog Mo (Y1x x0 x1 r):=
 Zs Tryz.func133 (bnK h λr0 Zo h=>itK h (λg1 h=>rtK h (rr (Yg4 Zo) (gg g1 ee))) λg1 h=>rtK h (rr (Yg4 Zo) (gg g1 ee)))
abbrev Yep (x0:List Zb) (x1:Int) (r:Int):Y:=(82,[.tr (x0.map Zb.enc),il x1],il r,[.undef,.undef])
theorem Yil {x0:List Zb} {x1:Int} {r:Int}:∀{m:Nat} {v0:Int} {v1:Int},Zn0 x0 x1 m v0 v1=some r->CS (Yep x0 x1 r) Tryz.f82 [1,1,1,0,1,0] [(0,.tr (x0.map Zb.enc)),(1,il v0),(5,il v1)] []:=by
 intro m
 induction m with
 | zero=>intro v0 v1 h;cases h
 | succ m ih=>exactλ{v0} {v1} h=>itK h (λg1 h=>bnK h λa0 Zz h=>bnK h λr0 Zo h=>itK h (λg2 h=>rtK h (lr Zb.enc x0 (gg g1 (xb Zb.enc Zz (rr (Yj6 Zo) (gg g2 ee)))))) λg2 h=>Zj [] 16 (lr Zb.enc x0 (gg g1 (xb Zb.enc Zz (rr (Yj6 Zo) (gg g2 ee))))) (ih h)) λg1 h=>rtK h (lr Zb.enc x0 (gg g1 ee))
theorem Yxg {x0:List Zb} {x1:Int} {r:Int} (h:Z5w x0 x1=some r):Zu Tryz.prog Mo (Yep x0 x1 r):=
 Zs Tryz.func82 (itK h (λg1 h=>rtK h (lr Zb.enc x0 (gg g1 ee))) λg1 h=>Zj [] 13 (lr Zb.enc x0 (gg g1 ee)) (Yil h))
abbrev Ylr (x0:List Zc) (x1:Int) (r:Int):Y:=(83,[.tr (x0.map Zc.enc),il x1],il r,[.undef,.undef])
theorem Ylw {x0:List Zc} {x1:Int} {r:Int} (h:Z6s x0 x1=some r):Zu Tryz.prog Mo (Ylr x0 x1 r):=
 Zs Tryz.func83 (itK h (λg1 h=>rtK h (lr Zc.enc x0 (gg g1 ee))) λg1 h=>rtK h (lr Zc.enc x0 (gg g1 ee)))
abbrev Y1s (x0:Zn) (x1:Int) (r:Int):Y:=(134,[.agg (Zn.enc x0),il x1],il r,[.undef,.undef])
theorem Yj0 {x0:Zn} {x1:Int} {r:Int} (h:Ykk x0 x1=some r):Zu Tryz.prog Mo (Y1s x0 x1 r):=
 Zs Tryz.func134 (bnK h λr0 Zo h=>itK h (λg1 h=>rtK h (rr (Kz Zo) (gg g1 ee))) λg1 h=>bnK h λr1 Zw h=>itK h (λg2 h=>rtK h (rr (Kz Zo) (gg g1 (rr (Kz Zw) (gg g2 ee))))) λg2 h=>rtK h (rr (Kz Zo) (gg g1 (rr (Kz Zw) (gg g2 ee)))))
abbrev Ytx (x0:Zh) (x1:Int) (r:Int):Y:=(84,[.agg (Zh.enc x0),il x1],il r,[.undef,.undef])
theorem Z28 {x0:Zh} {x1:Int} {r:Int} (h:Z3b x0 x1=some r):Zu Tryz.prog Mo (Ytx x0 x1 r):=
 Zs Tryz.func84 (bnK h λr0 Zo h=>itK h (λg1 h=>rtK h (rr (Kz Zo) (gg g1 ee))) λg1 h=>bnK h λr1 Zw h=>itK h (λg2 h=>rtK h (rr (Kz Zo) (gg g1 (rr (Yj0 Zw) (gg g2 ee))))) λg2 h=>rtK h (rr (Kz Zo) (gg g1 (rr (Yj0 Zw) (gg g2 ee)))))
abbrev Yto (x0:List Zm) (x1:Int) (r:Int):Y:=(85,[.tr (x0.map Zm.enc),il x1],il r,[.undef,.undef])
theorem Yb7 {x0:List Zm} {x1:Int} {r:Int} (h:Yb2 x0 x1=some r):Zu Tryz.prog Mo (Yto x0 x1 r):=
 Zs Tryz.func85 (itK h (λg1 h=>rtK h (lr Zm.enc x0 (gg g1 ee))) λg1 h=>rtK h (lr Zm.enc x0 (gg g1 ee)))
abbrev Zd6 (x0:Za) (x1:Int) (r:Int):Y:=(30,[.agg (Za.enc x0),il x1],il r,[.undef,.undef])
theorem Z7a {x0:Za} {x1:Int} {r:Int} (h:Zv3 x0 x1=some r):Zu Tryz.prog Mo (Zd6 x0 x1 r):=
 Zs Tryz.func30 (bnK h λr0 Zo h=>have p1 {q p} (k:Scr q p):=(rr (Yx0 Zo) k);itK h (λg1 h=>rtK h (p1 (gg g1 ee))) λg1 h=>bnK h λr1 Zw h=>have p2 {q p} (k:Scr q p):=(p1 (gg g1 (rr (Yxg Zw) k)));itK h (λg2 h=>rtK h (p2 (gg g2 ee))) λg2 h=>bnK h λr2 Z6 h=>have p3 {q p} (k:Scr q p):=(p2 (gg g2 (rr (Ylw Z6) k)));itK h (λg3 h=>rtK h (p3 (gg g3 ee))) λg3 h=>bnK h λr3 Y7 h=>have p4 {q p} (k:Scr q p):=(p3 (gg g3 (rr (Kz Y7) k)));itK h (λg4 h=>rtK h (p4 (gg g4 ee))) λg4 h=>bnK h λr4 Q5 h=>itK h (λg5 h=>rtK h (p4 (gg g4 (rr (Z28 Q5) (gg g5 ee))))) λg5 h=>bnK h λr5 hr5 h=>itK h (λg6 h=>rtK h (p4 (gg g4 (rr (Z28 Q5) (gg g5 (rr (Yb7 hr5) (gg g6 ee))))))) λg6 h=>rtK h (p4 (gg g4 (rr (Z28 Q5) (gg g5 (rr (Yb7 hr5) (gg g6 ee)))))))
abbrev Ysz (x0:Zd) (r:Zd):Y:=(110,[.agg (Zd.enc x0)],.agg (Zd.enc r),[.undef])
theorem Ytm {x0:Zd} {r:Zd} (h:Z23 x0=some r):Zu Tryz.prog Mo (Ysz x0 r):=
 Zs Tryz.func110 (rtK h ee)
abbrev Z70 (x0:List Zd) (r:List Zd):Y:=(47,[.tr (x0.map Zd.enc)],.own 150 (r.map Zd.enc),[.undef])
theorem Yds {x0:List Zd} {r:List Zd}:∀{m:Nat} {v0:List Zd} {v1:Int},Zjt x0 m v0 v1=some r->CS (Z70 x0 r) Tryz.f47 [1,1,0,1,0] [(0,.tr (x0.map Zd.enc)),(3,.sl (1,1) 0 (v0.map Zd.enc).length),(4,il v1)] [rx 1 150 (v0.map Zd.enc)]:=by
 intro m
 induction m with
 | zero=>intro v0 v1 h;cases h
 | succ m ih=>exactλ{v0} {v1} h=>itK h (λg1 h=>bnK h λa0 Zz h=>bnK h λr0 Zo h=>bnK h λa1 Yv h=>bnK h λy0 Wa h=>Zj [((1,1),(1,1))] 11 (lr Zd.enc x0 (gg g1 (xb Zd.enc Zz (rr (Ytm Zo) (xp Zd.enc Yv Wa (tp (.num (y0.map Zd.enc).length 0 0 []) (ob (Qi Zd.enc Wa) ee))))))) (ih h)) λg1 h=>rtK h (lr Zd.enc x0 (gg g1 (kk 1 (oe Zd.enc v0 ee))))
theorem Yo1 {x0:List Zd} {r:List Zd} (h:Zrn x0=some r):Zu Tryz.prog Mo (Z70 x0 r):=
 Zs Tryz.func47 (bnK h λm0 hm0 h=>Zj [((1,1),(2,2048))] 8 (lr Zd.enc x0 (tp (.mk ((x0.length:Int):Int).toNat (m0.map Zd.enc)) (ob (mkn hm0) (ob (mkn hm0) (ob (mkl hm0) (ob (mkr Zd.enc hm0) (ln Zd.enc m0 ee))))))) (Yds h))
abbrev Ywv (x0:Zk) (r:Zk):Y:=(11,[.agg (Zk.enc x0)],.agg [.own 150 (r.masters.map Zd.enc),il r.quantum,il r.maxWait,il r.maxRetry,il r.maxSplit,il r.lockMost],[.undef])
theorem Yvw {x0:Zk} {r:Zk} (h:Zxm x0=some r):Zu Tryz.prog Mo (Ywv x0 r):=
 Zs Tryz.func11 (bnK h λr0 Zo h=>rtK h (rr (Yo1 Zo) (kk 1 (oe Zd.enc r0 ee))))
abbrev Yeq (x0:List Int) (r:List Int):Y:=(63,[.tr (x0.map Ze)],.own 3 (r.map Ze),[.undef])
theorem Yis {x0:List Int} {r:List Int}:∀{m:Nat} {v0:List Int} {v1:Int},Znl x0 m v0 v1=some r->CS (Yeq x0 r) Tryz.f63 [1,1,0,1,0] [(0,.tr (x0.map Ze)),(3,.sl (1,1) 0 (v0.map Ze).length),(4,il v1)] [rx 1 3 (v0.map Ze)]:=by
 intro m
 induction m with
 | zero=>intro v0 v1 h;cases h
 | succ m ih=>exactλ{v0} {v1} h=>itK h (λg1 h=>bnK h λa0 Zz h=>bnK h λa1 Yv h=>bnK h λy0 Wa h=>Zj [((1,1),(1,1))] 11 (lr Ze x0 (gg g1 (xb Ze Zz (xp Ze Yv Wa (tp (.num (y0.map Ze).length 0 0 []) (ob (Qi Ze Wa) ee)))))) (ih h)) λg1 h=>rtK h (lr Ze x0 (gg g1 (kk 1 (oe Ze v0 ee))))
theorem Zju {x0:List Int} {r:List Int} (h:Zcu x0=some r):Zu Tryz.prog Mo (Yeq x0 r):=
 Zs Tryz.func63 (bnK h λm0 hm0 h=>Zj [((1,1),(2,2048))] 8 (lr Ze x0 (tp (.mk ((x0.length:Int):Int).toNat (m0.map Ze)) (ob (mkn hm0) (ob (mkn hm0) (ob (mkl hm0) (ob (mkr Ze hm0) (ln Ze m0 ee))))))) (Yis h))
abbrev Y0b (x0:Zf) (r:Zf):Y:=(48,[.agg (Zf.enc x0)],.agg [bl r.write,il r.addr,il r.size,il r.burst,bl r.lock,.own 3 (r.data_.map Ze)],[.undef])
theorem Ykd {x0:Zf} {r:Zf} (h:Zq2 x0=some r):Zu Tryz.prog Mo (Y0b x0 r):=
 Zs Tryz.func48 (bnK h λr0 Zo h=>rtK h (rr (Zju Zo) (kk 1 (oe Ze r0 ee))))
abbrev Yhk (x0:List Zf) (r:List Zf):Y:=(12,[.tr (x0.map Zf.enc)],.own 104 (r.map Zf.enc),[.undef])
theorem Yiy {x0:List Zf} {r:List Zf}:∀{m:Nat} {v0:List Zf} {v1:Int},Znw x0 m v0 v1=some r->CS (Yhk x0 r) Tryz.f12 [1,1,0,1,0] [(0,.tr (x0.map Zf.enc)),(3,.sl (1,1) 0 (v0.map Zf.enc).length),(4,il v1)] [rx 1 104 (v0.map Zf.enc)]:=by
 intro m
 induction m with
 | zero=>intro v0 v1 h;cases h
 | succ m ih=>exactλ{v0} {v1} h=>itK h (λg1 h=>bnK h λa0 Zz h=>bnK h λr0 Zo h=>bnK h λa1 Yv h=>bnK h λy0 Wa h=>Zj [((1,1),(1,1))] 11 (lr Zf.enc x0 (gg g1 (xb Zf.enc Zz (rr (Ykd Zo) (xq Zf.enc Yv y0 (kk 1 (tp (.num (y0.map Zf.enc).length 0 0 []) (oe Ze r0.data_ (ob (Zt8 Zf.enc Wa) (ob (Qi Zf.enc Wa) ee)))))))))) (ih h)) λg1 h=>rtK h (lr Zf.enc x0 (gg g1 (kk 1 (oe Zf.enc v0 ee))))
theorem Yxz {x0:List Zf} {r:List Zf} (h:Zx8 x0=some r):Zu Tryz.prog Mo (Yhk x0 r):=
 Zs Tryz.func12 (bnK h λm0 hm0 h=>Zj [((1,1),(2,2048))] 8 (lr Zf.enc x0 (tp (.mk ((x0.length:Int):Int).toNat (m0.map Zf.enc)) (ob (mkn hm0) (ob (mkn hm0) (ob (mkl hm0) (ob (mkr Zf.enc hm0) (ln Zf.enc m0 ee))))))) (Yiy h))
abbrev Yx8 (x0:Zl) (r:Zl):Y:=(123,[.agg (Zl.enc x0)],.agg [il r.at_,il r.who,bl r.req.write,il r.req.addr,il r.req.size,il r.req.burst,bl r.req.lock,.own 3 (r.req.data_.map Ze)],[.undef])
theorem Yyh {x0:Zl} {r:Zl} (h:Zr0 x0=some r):Zu Tryz.prog Mo (Yx8 x0 r):=
 Zs Tryz.func123 (bnK h λr0 Zo h=>rtK h (rr (Ykd Zo) (kk 1 (oe Ze r0.data_ ee))))
abbrev Yb0 (x0:List Zl) (r:List Zl):Y:=(62,[.tr (x0.map Zl.enc)],.own 106 (r.map Zl.enc),[.undef])
theorem Yer {x0:List Zl} {r:List Zl}:∀{m:Nat} {v0:List Zl} {v1:Int},Zlv x0 m v0 v1=some r->CS (Yb0 x0 r) Tryz.f62 [1,1,0,1,0] [(0,.tr (x0.map Zl.enc)),(3,.sl (1,1) 0 (v0.map Zl.enc).length),(4,il v1)] [rx 1 106 (v0.map Zl.enc)]:=by
 intro m
 induction m with
 | zero=>intro v0 v1 h;cases h
 | succ m ih=>exactλ{v0} {v1} h=>itK h (λg1 h=>bnK h λa0 Zz h=>bnK h λr0 Zo h=>bnK h λa1 Yv h=>bnK h λy0 Wa h=>Zj [((1,1),(1,1))] 11 (lr Zl.enc x0 (gg g1 (xb Zl.enc Zz (rr (Yyh Zo) (xq Zl.enc Yv y0 (kk 1 (tp (.num (y0.map Zl.enc).length 0 0 []) (oe Ze r0.req.data_ (ob (Zt8 Zl.enc Wa) (ob (Qi Zl.enc Wa) ee)))))))))) (ih h)) λg1 h=>rtK h (lr Zl.enc x0 (gg g1 (kk 1 (oe Zl.enc v0 ee))))
theorem Ytw {x0:List Zl} {r:List Zl} (h:Zvt x0=some r):Zu Tryz.prog Mo (Yb0 x0 r):=
 Zs Tryz.func62 (bnK h λm0 hm0 h=>Zj [((1,1),(2,2048))] 8 (lr Zl.enc x0 (tp (.mk ((x0.length:Int):Int).toNat (m0.map Zl.enc)) (ob (mkn hm0) (ob (mkn hm0) (ob (mkl hm0) (ob (mkr Zl.enc hm0) (ln Zl.enc m0 ee))))))) (Yer h))
abbrev Qy (x0:Zi) (r:Zi):Y:=(23,[.agg (Zi.enc x0)],.agg (Zi.ow r),[.undef])
theorem Zrd {x0:Zi} {r:Zi} (h:Zs2 x0=some r):Zu Tryz.prog Mo (Qy x0 r):=
 Zs Tryz.func23 (bnK h λr0 Zo h=>bnK h λr1 Zw h=>bnK h λr2 Z6 h=>rtK h (rr (Ytw Zo) (rr (Zju Zw) (rr (Zju Z6) (kk 3 (oe Zl.enc r0 (oe Ze r1 (oe Ze r2 ee))))))))
abbrev Y0h (x0:Zb) (r:Zb):Y:=(153,[.agg (Zb.enc x0)],.agg [.own 104 (r.queue.map Zf.enc),il r.beat,il r.done,il r.tries,bl r.parted,bl r.broken],[.undef])
theorem Y1k {x0:Zb} {r:Zb} (h:Z1p x0=some r):Zu Tryz.prog Mo (Y0h x0 r):=
 Zs Tryz.func153 (bnK h λr0 Zo h=>rtK h (rr (Yxz Zo) (kk 1 (oe Zf.enc r0 ee))))
abbrev Yfy (x0:List Zb) (r:List Zb):Y:=(89,[.tr (x0.map Zb.enc)],.own 156 (r.map Zb.enc),[.undef])
theorem Yjj {x0:List Zb} {r:List Zb}:∀{m:Nat} {v0:List Zb} {v1:Int},Zn3 x0 m v0 v1=some r->CS (Yfy x0 r) Tryz.f89 [1,1,0,1,0] [(0,.tr (x0.map Zb.enc)),(3,.sl (1,1) 0 (v0.map Zb.enc).length),(4,il v1)] [rx 1 156 (v0.map Zb.enc)]:=by
 intro m
 induction m with
 | zero=>intro v0 v1 h;cases h
 | succ m ih=>exactλ{v0} {v1} h=>itK h (λg1 h=>bnK h λa0 Zz h=>bnK h λr0 Zo h=>bnK h λa1 Yv h=>bnK h λy0 Wa h=>Zj [((1,1),(1,1))] 11 (lr Zb.enc x0 (gg g1 (xb Zb.enc Zz (rr (Y1k Zo) (xq Zb.enc Yv y0 (kk 1 (tp (.num (y0.map Zb.enc).length 0 0 []) (oe Zf.enc r0.queue (ob (Zt8 Zb.enc Wa) (ob (Qi Zb.enc Wa) ee)))))))))) (ih h)) λg1 h=>rtK h (lr Zb.enc x0 (gg g1 (kk 1 (oe Zb.enc v0 ee))))
theorem Ywo {x0:List Zb} {r:List Zb} (h:Zx3 x0=some r):Zu Tryz.prog Mo (Yfy x0 r):=
 Zs Tryz.func89 (bnK h λm0 hm0 h=>Zj [((1,1),(2,2048))] 8 (lr Zb.enc x0 (tp (.mk ((x0.length:Int):Int).toNat (m0.map Zb.enc)) (ob (mkn hm0) (ob (mkn hm0) (ob (mkl hm0) (ob (mkr Zb.enc hm0) (ln Zb.enc m0 ee))))))) (Yjj h))
abbrev Y1i (x0:Z2) (r:Z2):Y:=(90,[.agg (Z2.enc x0)],.agg (Z2.enc r),[.undef])
theorem Yz2 {x0:Z2} {r:Z2} (h:Z89 x0=some r):Zu Tryz.prog Mo (Y1i x0 r):=
 Zs Tryz.func90 (rtK h ee)
abbrev Yps (x0:Zc) (r:Zc):Y:=(154,[.agg (Zc.enc x0)],.agg (Zc.enc r),[.undef])
theorem Yow {x0:Zc} {r:Zc} (h:Zze x0=some r):Zu Tryz.prog Mo (Yps x0 r):=
 Zs Tryz.func154 (rtK h ee)
abbrev Z6v (x0:List Zc) (r:List Zc):Y:=(91,[.tr (x0.map Zc.enc)],.own 158 (r.map Zc.enc),[.undef])
theorem Yay {x0:List Zc} {r:List Zc}:∀{m:Nat} {v0:List Zc} {v1:Int},Zhc x0 m v0 v1=some r->CS (Z6v x0 r) Tryz.f91 [1,1,0,1,0] [(0,.tr (x0.map Zc.enc)),(3,.sl (1,1) 0 (v0.map Zc.enc).length),(4,il v1)] [rx 1 158 (v0.map Zc.enc)]:=by
 intro m
 induction m with
 | zero=>intro v0 v1 h;cases h
 | succ m ih=>exactλ{v0} {v1} h=>itK h (λg1 h=>bnK h λa0 Zz h=>bnK h λr0 Zo h=>bnK h λa1 Yv h=>bnK h λy0 Wa h=>Zj [((1,1),(1,1))] 11 (lr Zc.enc x0 (gg g1 (xb Zc.enc Zz (rr (Yow Zo) (xp Zc.enc Yv Wa (tp (.num (y0.map Zc.enc).length 0 0 []) (ob (Qi Zc.enc Wa) ee))))))) (ih h)) λg1 h=>rtK h (lr Zc.enc x0 (gg g1 (kk 1 (oe Zc.enc v0 ee))))
theorem Ymb {x0:List Zc} {r:List Zc} (h:Zp1 x0=some r):Zu Tryz.prog Mo (Z6v x0 r):=
 Zs Tryz.func91 (bnK h λm0 hm0 h=>Zj [((1,1),(2,2048))] 8 (lr Zc.enc x0 (tp (.mk ((x0.length:Int):Int).toNat (m0.map Zc.enc)) (ob (mkn hm0) (ob (mkn hm0) (ob (mkl hm0) (ob (mkr Zc.enc hm0) (ln Zc.enc m0 ee))))))) (Yay h))
abbrev Yxr (x0:Zg) (r:Zg):Y:=(92,[.agg (Zg.enc x0)],.agg (Zg.enc r),[.undef])
theorem Ygf {x0:Zg} {r:Zg} (h:Zr3 x0=some r):Zu Tryz.prog Mo (Yxr x0 r):=
 Zs Tryz.func92 (rtK h ee)
abbrev Y0o (x0:Zn) (r:Zn):Y:=(155,[.agg (Zn.enc x0)],.agg (Zn.ow r),[.undef])
theorem Y09 {x0:Zn} {r:Zn} (h:Z7q x0=some r):Zu Tryz.prog Mo (Y0o x0 r):=
 Zs Tryz.func155 (bnK h λr0 Zo h=>bnK h λr1 Zw h=>rtK h (rr (Zju Zo) (rr (Zju Zw) (kk 2 (oe Ze r0 (oe Ze r1 ee))))))
abbrev Yt7 (x0:Zh) (r:Zh):Y:=(93,[.agg (Zh.enc x0)],.agg (Zh.ow r),[.undef])
theorem Ytd {x0:Zh} {r:Zh} (h:Zu4 x0=some r):Zu Tryz.prog Mo (Yt7 x0 r):=
 Zs Tryz.func93 (bnK h λr0 Zo h=>bnK h λr1 Zw h=>rtK h (rr (Zju Zo) (rr (Y09 Zw) (kk 3 (oe Ze r0 (Zn.so r1 ee))))))
abbrev Yv7 (x0:Zm) (r:Zm):Y:=(156,[.agg (Zm.enc x0)],.agg (Zm.enc r),[.undef])
theorem Ywn {x0:Zm} {r:Zm} (h:Z6h x0=some r):Zu Tryz.prog Mo (Yv7 x0 r):=
 Zs Tryz.func156 (rtK h ee)
abbrev Ycv (x0:List Zm) (r:List Zm):Y:=(94,[.tr (x0.map Zm.enc)],.own 113 (r.map Zm.enc),[.undef])
theorem Yez {x0:List Zm} {r:List Zm}:∀{m:Nat} {v0:List Zm} {v1:Int},Zk7 x0 m v0 v1=some r->CS (Ycv x0 r) Tryz.f94 [1,1,0,1,0] [(0,.tr (x0.map Zm.enc)),(3,.sl (1,1) 0 (v0.map Zm.enc).length),(4,il v1)] [rx 1 113 (v0.map Zm.enc)]:=by
 intro m
 induction m with
 | zero=>intro v0 v1 h;cases h
 | succ m ih=>exactλ{v0} {v1} h=>itK h (λg1 h=>bnK h λa0 Zz h=>bnK h λr0 Zo h=>bnK h λa1 Yv h=>bnK h λy0 Wa h=>Zj [((1,1),(1,1))] 11 (lr Zm.enc x0 (gg g1 (xb Zm.enc Zz (rr (Ywn Zo) (xp Zm.enc Yv Wa (tp (.num (y0.map Zm.enc).length 0 0 []) (ob (Qi Zm.enc Wa) ee))))))) (ih h)) λg1 h=>rtK h (lr Zm.enc x0 (gg g1 (kk 1 (oe Zm.enc v0 ee))))
theorem Yr8 {x0:List Zm} {r:List Zm} (h:Zvu x0=some r):Zu Tryz.prog Mo (Ycv x0 r):=
 Zs Tryz.func94 (bnK h λm0 hm0 h=>Zj [((1,1),(2,2048))] 8 (lr Zm.enc x0 (tp (.mk ((x0.length:Int):Int).toNat (m0.map Zm.enc)) (ob (mkn hm0) (ob (mkn hm0) (ob (mkl hm0) (ob (mkr Zm.enc hm0) (ln Zm.enc m0 ee))))))) (Yez h))
abbrev Zax (x0:Za) (r:Za):Y:=(32,[.agg (Za.enc x0)],.agg (Za.ow r),[.undef])
theorem Z0y {x0:Za} {r:Za} (h:Z1e x0=some r):Zu Tryz.prog Mo (Zax x0 r):=
 Zs Tryz.func32 (bnK h λr0 Zo h=>bnK h λr1 Zw h=>bnK h λr2 Z6 h=>bnK h λr3 Y7 h=>bnK h λr4 Q5 h=>bnK h λr5 hr5 h=>bnK h λr6 hr6 h=>bnK h λr7 hr7 h=>bnK h λr8 hr8 h=>rtK h (rr (Yvw Zo) (rr (Ywo Zw) (rr (Yz2 Z6) (rr (Ymb Y7) (rr (Zju Q5) (rr (Ygf hr5) (rr (Ygf hr6) (rr (Ytd hr7) (rr (Yr8 hr8) (kk 8 (oe Zd.enc r0.masters (oe Zb.enc r1 (oe Zc.enc r3 (oe Ze r4 (Zh.so r7 (oe Zm.enc r8 ee)))))))))))))))))
abbrev Y3l (x0:Int) (x1:Int) (x2:Int) (r:Bool):Y:=(61,[il x0,il x1,il x2],bl r,[.undef,.undef,.undef])
theorem Z4 {x0:Int} {x1:Int} {x2:Int} {r:Bool} (h:Z5 x0 x1 x2=some r):Zu Tryz.prog Mo (Y3l x0 x1 x2 r):=
 Zs Tryz.func61 (itK h (λg1 h=>rtK h (gg g1 (kk 3 ee))) λg1 h=>rtK h (gg g1 (kk 3 ee)))
abbrev Yfk (x0:Zk) (r:Int):Y:=(178,[.agg (Zk.enc x0)],il r,[.undef])
theorem Z3o {x0:Zk} {r:Int} {v0:Bool} (h:Znn x0 v0=some r):CS (Yfk x0 r) Tryz.f178 [1,0,1] [(1,.ptr (1,1) 0 0),(12,bl v0)] [bx 1 (Zk.enc x0)]:=
 itK h (λg1 h=>rtK h (gg g1 ee)) λg1 h=>rtK h (gg g1 ee)
theorem Zrk {x0:Zk} {r:Int} (h:Zis x0=some r):Zu Tryz.prog Mo (Yfk x0 r):=
 Zs Tryz.func178 (bnK h λr0 Zo h=>itK h (λg1 h=>Zj [((1,1),(1,0))] 5 (rr (Z4 Zo) (gg g1 (kk 4 ee))) (Z3o h)) λg1 h=>bnK h λr1 Zw h=>Zj [((1,1),(1,0))] 5 (rr (Z4 Zo) (gg g1 (kk 2 (rr (Z4 Zw) (kk 2 ee))))) (Z3o h))
abbrev Ywf (x0:Zk) (r:Int):Y:=(102,[.agg (Zk.enc x0)],il r,[.undef])
theorem Yfw {x0:Zk} {r:Int} (h:Zf5 x0=some r):Zu Tryz.prog Mo (Ywf x0 r):=
 Zs Tryz.func102 (bnK h λr0 Zo h=>itK h (λg1 h=>rtK h (rr (Zrk Zo) (gg g1 (kk 5 ee)))) λg1 h=>bnK h λr1 Zw h=>itK h (λg2 h=>rtK h (rr (Zrk Zo) (gg g1 (kk 2 (rr (Z4 Zw) (kk 2 (gg g2 ee))))))) λg2 h=>bnK h λr2 Z6 h=>rtK h (rr (Zrk Zo) (gg g1 (kk 2 (rr (Z4 Zw) (kk 2 (gg g2 (rr (Zrk Z6) ee))))))))
abbrev Ypv (x0:Zk) (r:Bool):Y:=(103,[.agg (Zk.enc x0)],bl r,[.undef])
theorem Yom {x0:Zk} {r:Bool} (h:Zrb x0=some r):Zu Tryz.prog Mo (Ypv x0 r):=
 Zs Tryz.func103 (bnK h λr0 Zo h=>itK h (λg1 h=>bnK h λr1 Zw h=>have p1 {q p} (k:Scr q p):=(rr (Z4 Zo) (gg g1 (kk 1 (rr (Zrk Zw) (kk 2 k)))));itK h (λg2 h=>bnK h λr2 Z6 h=>itK h (λg3 h=>bnK h λr3 Y7 h=>rtK h (p1 (gg g2 (kk 2 (rr (Z4 Z6) (kk 1 (gg g3 (kk 2 (rr (Z4 Y7) (kk 1 ee)))))))))) λg3 h=>rtK h (p1 (gg g2 (kk 2 (rr (Z4 Z6) (kk 1 (gg g3 (kk 3 ee)))))))) λg2 h=>rtK h (p1 (gg g2 (kk 7 ee)))) λg1 h=>rtK h (rr (Z4 Zo) (gg g1 (kk 11 ee))))
abbrev Z4z (x0:Zk) (r:Bool):Y:=(44,[.agg (Zk.enc x0)],bl r,[.undef])
theorem Yiv {x0:Zk} {r:Bool}:∀{m:Nat} {v0:Int} {v1:Int},Zav x0 m v0 v1=some r->CS (Z4z x0 r) Tryz.f44 [1,1,1,0,1,0] [(1,.ptr (1,1) 0 0),(3,il v0),(5,il v1)] [bx 1 (Zk.enc x0)]:=by
 intro m
 induction m with
 | zero=>intro v0 v1 h;cases h
 | succ m ih=>exactλ{v0} {v1} h=>have p1 {q p} (k:Scr q p):=(lr Zd.enc x0.masters k);itK h (λg1 h=>bnK h λa0 Zz h=>bnK h λr0 Zo h=>have p2 {q p} (k:Scr q p):=(p1 (gg g1 (xb Zd.enc Zz (rr (Z4 Zo) k))));itK h (λg2 h=>rtK h (p2 (gg g2 (kk 11 ee)))) λg2 h=>have p3 {q p} (k:Scr q p):=(p2 (gg g2 (kk 3 k)));itK h (λg3 h=>itK h (λg4 h=>rtK h (p3 (gg g3 (kk 3 (gg g4 (kk 13 ee)))))) λg4 h=>have p4 {q p} (k:Scr q p):=(p3 (gg g3 (kk 3 (gg g4 (kk 7 k)))));itK h (λg5 h=>rtK h (p4 (gg g5 (kk 5 ee)))) λg5 h=>itK h (λg6 h=>bnK h λr1 Zw h=>bnK h λr2 Z6 h=>have p5 {q p} (k:Scr q p):=(p4 (gg g5 (kk 2 (gg g6 (kk 5 (rr (Yfw Zw) (kk 2 (rr (Z4 Z6) (kk 2 k)))))))));itK h (λg7 h=>rtK h (p5 (gg g7 (kk 9 ee)))) λg7 h=>bnK h λr3 Y7 h=>itK h (λg8 h=>rtK h (p5 (gg g7 (kk 2 (rr (Z4 Y7) (kk 6 (gg g8 ee))))))) λg8 h=>Zj [((1,1),(1,1))] 16 (p5 (gg g7 (kk 2 (rr (Z4 Y7) (kk 6 (gg g8 ee)))))) (ih h)) λg6 h=>Zj [((1,1),(1,1))] 16 (p4 (gg g5 (kk 2 (gg g6 (kk 14 ee))))) (ih h)) λg3 h=>itK h (λg4 h=>bnK h λr1 Zw h=>bnK h λr2 Z6 h=>have p6 {q p} (k:Scr q p):=(p3 (gg g3 (kk 10 (gg g4 (kk 5 (rr (Yfw Zw) (kk 2 (rr (Z4 Z6) (kk 2 k)))))))));itK h (λg5 h=>rtK h (p6 (gg g5 (kk 9 ee)))) λg5 h=>bnK h λr3 Y7 h=>itK h (λg6 h=>rtK h (p6 (gg g5 (kk 2 (rr (Z4 Y7) (kk 6 (gg g6 ee))))))) λg6 h=>Zj [((1,1),(1,1))] 16 (p6 (gg g5 (kk 2 (rr (Z4 Y7) (kk 6 (gg g6 ee)))))) (ih h)) λg4 h=>Zj [((1,1),(1,1))] 16 (p3 (gg g3 (kk 10 (gg g4 (kk 14 ee))))) (ih h)) λg1 h=>bnK h λr4 Q5 h=>itK h (λg2 h=>bnK h λr5 hr5 h=>rtK h (p1 (gg g1 (lr Zd.enc x0.masters (rr (Z4 Q5) (gg g2 (kk 1 (rr (Yom hr5) (kk 1 ee))))))))) λg2 h=>rtK h (p1 (gg g1 (lr Zd.enc x0.masters (rr (Z4 Q5) (gg g2 (kk 2 ee))))))
theorem Yif {x0:Zk} {r:Bool}:∀{m:Nat} {v0:Int} {v2:Int},Zns x0 m v0 v2=some r->CS (Z4z x0 r) Tryz.f44 [1,1,0,1,0] [(1,.ptr (1,1) 0 0),(3,il v0),(4,il v2)] [bx 1 (Zk.enc x0)]:=by
 intro m
 induction m with
 | zero=>intro v0 v2 h;cases h
 | succ m ih=>exactλ{v0} {v2} h=>itK h (λg1 h=>bnK h λa1 Yv h=>itK h (λg2 h=>Zj [((1,1),(1,1))] 14 (lr Zd.enc x0.masters (gg g1 (xb Zd.enc Yv (gg g2 ee)))) (ih h)) λg2 h=>Zj [((1,1),(1,1))] 14 (lr Zd.enc x0.masters (gg g1 (xb Zd.enc Yv (gg g2 ee)))) (ih h)) λg1 h=>Zj [((1,1),(1,1))] 13 (lr Zd.enc x0.masters (gg g1 ee)) (Yiv h)
theorem Zi4 {x0:Zk} {r:Bool} (h:Zin x0=some r):Zu Tryz.prog Mo (Z4z x0 r):=
 Zs Tryz.func44 (Zj [((1,1),(1,0))] 8 ee (Yif h))
abbrev Yri (x0:Int) (r:Int):Y:=(106,[il x0],il r,[.undef])
theorem Zec {x0:Int} {r:Int} (h:Za5 x0=some r):Zu Tryz.prog Mo (Yri x0 r):=
 Zs Tryz.func106 (bnK h λr0 Zo h=>itK h (λg1 h=>rtK h (rr (Z4 Zo) (gg g1 ee))) λg1 h=>bnK h λa0 Zz h=>rtK h (rr (Z4 Zo) (gg g1 (xd Ze Zz ee))))
abbrev Ysc (x0:Int) (r:Int):Y:=(180,[il x0],il r,[.undef])
theorem Jk {x0:Int} {r:Int} (h:Jo x0=some r):Zu Tryz.prog Mo (Ysc x0 r):=
 Zs Tryz.func180 (bnK h λr0 Zo h=>itK h (λg1 h=>rtK h (rr (Z4 Zo) (gg g1 ee))) λg1 h=>bnK h λn0 hn0 h=>rtK h (rr (Z4 Zo) (gg g1 (tp (.obl) (ob (nn0 hn0) ee)))))
abbrev Yrs (x0:Int) (x1:Int) (r:Bool):Y:=(196,[il x0,il x1],bl r,[.undef,.undef])
theorem Zo0 {x0:Int} {x1:Int} {r:Bool} (h:Za7 x0 x1=some r):Zu Tryz.prog Mo (Yrs x0 x1 r):=
 Zs Tryz.func196 (bnK h λr0 Zo h=>itK h (λg1 h=>itK h (λg2 h=>bnK h λr1 Zw h=>bnK h λn0 hn0 h=>rtK h (rr (Jk Zo) (gg g1 (kk 2 (gg g2 (kk 2 (rr (Jk Zw) (kk 1 (tp (.obl) (kk 2 (ob (nz0 hn0) ee))))))))))) λg2 h=>rtK h (rr (Jk Zo) (gg g1 (kk 2 (gg g2 (kk 5 ee)))))) λg1 h=>rtK h (rr (Jk Zo) (gg g1 (kk 8 ee))))
abbrev Zzn (x0:Int) (x1:Int) (x2:Int) (r:Int):Y:=(236,[il x0,il x1,il x2],il r,[.undef,.undef,.undef])
theorem Z0d {x0:Int} {x1:Int} {x2:Int} {r:Int} {v0:Int} {v1:Bool} (h:Zjp x0 x1 x2 v0 v1=some r):CS (Zzn x0 x1 x2 r) Tryz.f236 [1,1,1,0,1] [(0,il x0),(7,il v0),(34,bl v1)] []:=
 itK h (λg1 h=>rtK h (gg g1 ee)) λg1 h=>rtK h (gg g1 ee)
theorem Zp9 {x0:Int} {x1:Int} {x2:Int} {r:Int} {v0:Int} {v2:Bool} (h:Ze4 x0 x1 x2 v0 v2=some r):CS (Zzn x0 x1 x2 r) Tryz.f236 [1,1,0,1] [(0,il x0),(2,il x2),(7,il v0),(23,bl v2)] []:=
 itK h (λg1 h=>rtK h (gg g1 ee)) λg1 h=>itK h (λg2 h=>bnK h λn0 hn0 h=>Zj [] 5 (gg g1 (gg g2 (kk 5 (tp (.obl) (kk 2 (ob (nz0 hn0) ee)))))) (Z0d h)) λg2 h=>Zj [] 5 (gg g1 (gg g2 (kk 7 ee))) (Z0d h)
theorem Z9f {x0:Int} {x1:Int} {x2:Int} {r:Int} (h:Zm4 x0 x1 x2=some r):Zu Tryz.prog Mo (Zzn x0 x1 x2 r):=
 Zs Tryz.func236 (bnK h λr0 Zo h=>bnK h λr1 Zw h=>have p1 {q p} (k:Scr q p):=(rr (Jk Zo) (rr (Zo0 Zw) k));itK h (λg1 h=>Zj [] 7 (p1 (gg g1 (kk 7 ee))) (Zp9 h)) λg1 h=>bnK h λr2 Z6 h=>itK h (λg2 h=>Zj [] 7 (p1 (gg g1 (kk 1 (rr (Z4 Z6) (kk 2 (gg g2 (kk 3 ee))))))) (Zp9 h)) λg2 h=>bnK h λr3 Y7 h=>Zj [] 7 (p1 (gg g1 (kk 1 (rr (Z4 Z6) (kk 2 (gg g2 (kk 1 (rr (Zec Y7) (kk 2 ee))))))))) (Zp9 h))
abbrev Zob (x0:Int) (x1:Int) (x2:Int) (r:List Int):Y:=(179,[il x0,il x1,il x2],.own 3 (r.map Ze),[.undef,.undef,.undef])
theorem Zwk {x0:Int} {x1:Int} {x2:Int} {r:List Int} {k_L1:Int->(List Int)->Option (List Int)} (i_L1:∀{v0:Int} {v1:List Int},k_L1 v0 v1=some r->CS (Zob x0 x1 x2 r) Tryz.f179 [1,1,0,0] [(0,il v0),(1,il x1),(2,il x2),(7,.sl (1,1) 0 (v1.map Ze).length)] [rx 1 3 (v1.map Ze)]) {v0:Int} {v1:List Int} {v2:Bool} (h:Zcy x0 x1 x2 k_L1 v0 v1 v2=some r):CS (Zob x0 x1 x2 r) Tryz.f179 [1,1,0,0,0,0,1] [(0,il v0),(1,il x1),(2,il x2),(7,.sl (1,1) 0 (v1.map Ze).length),(20,bl v2)] [rx 1 3 (v1.map Ze)]:=
 itK h (λg1 h=>bnK h λz0 W0 h=>bnK h λr0 Zo h=>Zj [((1,1),(2,3072))] 7 (gg g1 (ta Ze [v0] z0 (kk 1 (oa 1 Zcb v0 (ox Ze W0 (oe Ze z0 (rr (Z9f Zo) (ln Ze z0 ee)))))))) (i_L1 h)) λg1 h=>bnK h λr1 Zw h=>itK h (λg2 h=>rtK h (gg g1 (lr Ze v1 (rr (Zec Zw) (gg g2 (kk 1 (ob (show 0=([].map Ze).length from rfl) ee))))))) λg2 h=>rtK h (gg g1 (lr Ze v1 (rr (Zec Zw) (gg g2 (kk 1 (oe Ze v1 ee))))))
theorem Z7r {x0:Int} {x1:Int} {x2:Int} {r:List Int}:∀{m:Nat} {v0:Int} {v1:List Int},Zgi x0 x1 x2 m v0 v1=some r->CS (Zob x0 x1 x2 r) Tryz.f179 [1,1,0,0] [(0,il v0),(1,il x1),(2,il x2),(7,.sl (1,1) 0 (v1.map Ze).length)] [rx 1 3 (v1.map Ze)]:=by
 intro m
 induction m with
 | zero=>intro v0 v1 h;cases h
 | succ m ih=>exactλ{v0} {v1} h=>bnK h λr2 Z6 h=>itK h (λg1 h=>bnK h λr3 Y7 h=>Zj [((1,1),(1,1))] 4 (lr Ze v1 (rr (Zec Z6) (gg g1 (kk 3 (rr (Z9f Y7) (kk 2 (ln Ze v1 ee))))))) (Zwk ih h)) λg1 h=>Zj [((1,1),(1,1))] 4 (lr Ze v1 (rr (Zec Z6) (gg g1 (kk 5 (ln Ze v1 ee))))) (Zwk ih h)
theorem Z37 {x0:Int} {x1:Int} {x2:Int} {r:List Int} (h:Zia x0 x1 x2=some r):Zu Tryz.prog Mo (Zob x0 x1 x2 r):=
 Zs Tryz.func179 (Zj [((1,1),(2,0))] 6 (tp (.num ([].map Ze).length 0 0 []) (ob (show 0=([].map Ze).length from rfl) ee)) (Z7r h))
abbrev Ycs (x0:Int) (x1:Int) (x2:Int) (r:Bool):Y:=(104,[il x0,il x1,il x2],bl r,[.undef,.undef,.undef])
theorem Yf2 {x0:Int} {x1:Int} {x2:Int} {r:Bool}:∀{m:Nat} {v0:List Int} {v1:Int},Zlh x0 x1 x2 m v0 v1=some r->CS (Ycs x0 x1 x2 r) Tryz.f104 [1,1,0,1,0] [(7,.sl (1,1) 0 (v0.map Ze).length),(8,il v1)] [rx 1 3 (v0.map Ze)]:=by
 intro m
 induction m with
 | zero=>intro v0 v1 h;cases h
 | succ m ih=>exactλ{v0} {v1} h=>itK h (λg1 h=>bnK h λa0 Zz h=>bnK h λa1 Yv h=>itK h (λg2 h=>rtK h (lr Ze v0 (gg g1 (xd Ze Zz (kk 1 (xd Ze Yv (kk 1 (gg g2 ee)))))))) λg2 h=>Zj [((1,1),(1,1))] 14 (lr Ze v0 (gg g1 (xd Ze Zz (kk 1 (xd Ze Yv (kk 1 (gg g2 (ln Ze v0 ee)))))))) (ih h)) λg1 h=>rtK h (lr Ze v0 (gg g1 (lr Ze v0 ee)))
theorem Ycl {x0:Int} {x1:Int} {x2:Int} {r:Bool} (h:Zvb x0 x1 x2=some r):Zu Tryz.prog Mo (Ycs x0 x1 x2 r):=
 Zs Tryz.func104 (bnK h λr0 Zo h=>Zj [((1,1),(2,3072))] 8 (rr (Z37 Zo) (ln Ze r0 ee)) (Yf2 h))
abbrev Yt5 (x0:Int) (r:Int):Y:=(105,[il x0],il r,[.undef])
theorem Zcw {x0:Int} {r:Int} (h:Qn x0=some r):Zu Tryz.prog Mo (Yt5 x0 r):=
 Zs Tryz.func105 (bnK h λr0 Zo h=>itK h (λg1 h=>rtK h (rr (Jk Zo) (gg g1 ee))) λg1 h=>bnK h λr1 Zw h=>bnK h λn0 hn0 h=>rtK h (rr (Jk Zo) (gg g1 (rr (Jk Zw) (tp (.obl) (ob (nn0 hn0) ee))))))
abbrev Yj9 (x0:Zf) (r:Bool):Y:=(45,[.agg (Zf.enc x0)],bl r,[.undef])
theorem Ylo {x0:Zf} {r:Bool}:∀{m:Nat} {v0:Int},Zpu x0 m v0=some r->CS (Yj9 x0 r) Tryz.f45 [1,1,0,1,0] [(1,.ptr (1,1) 0 0),(3,il v0)] [bx 1 (Zf.enc x0)]:=by
 intro m
 induction m with
 | zero=>intro v0 h;cases h
 | succ m ih=>exactλ{v0} h=>have p1 {q p} (k:Scr q p):=(lr Ze x0.data_ k);itK h (λg1 h=>bnK h λa0 Zz h=>bnK h λr0 Zo h=>bnK h λr1 Zw h=>have p2 {q p} (k:Scr q p):=(p1 (gg g1 (xb Ze Zz (rr (Zcw Zo) (rr (Z4 Zw) k)))));itK h (λg2 h=>rtK h (p2 (gg g2 ee))) λg2 h=>Zj [((1,1),(1,1))] 14 (p2 (gg g2 ee)) (ih h)) λg1 h=>have p3 {q p} (k:Scr q p):=(p1 (gg g1 (lr Ze x0.data_ k)));itK h (λg2 h=>itK h (λg3 h=>rtK h (p3 (gg g2 (kk 3 (gg g3 (kk 9 ee)))))) λg3 h=>bnK h λr2 Z6 h=>have p4 {q p} (k:Scr q p):=(p3 (gg g2 (kk 3 (gg g3 (kk 2 (lr Ze x0.data_ (kk 3 (rr (Zec Z6) (kk 2 k)))))))));itK h (λg4 h=>rtK h (p4 (gg g4 (kk 4 ee)))) λg4 h=>rtK h (p4 (gg g4 (kk 4 ee)))) λg2 h=>bnK h λr2 Z6 h=>have p5 {q p} (k:Scr q p):=(p3 (gg g2 (kk 6 (lr Ze x0.data_ (kk 3 (rr (Zec Z6) (kk 2 k)))))));itK h (λg3 h=>rtK h (p5 (gg g3 (kk 4 ee)))) λg3 h=>rtK h (p5 (gg g3 (kk 4 ee)))
theorem Z77 {x0:Zf} {r:Bool} (h:Zv5 x0=some r):Zu Tryz.prog Mo (Yj9 x0 r):=
 Zs Tryz.func45 (bnK h λr3 Y7 h=>itK h (λg1 h=>rtK h (rr (Ycl Y7) (gg g1 ee))) λg1 h=>Zj [((1,1),(1,0))] 11 (rr (Ycl Y7) (gg g1 ee)) (Ylo h))
abbrev Yxp (x0:Zk) (r:Zk):Y:=(107,[.agg (Zk.enc x0)],.agg [.own 150 (r.masters.map Zd.enc),il r.quantum,il r.maxWait,il r.maxRetry,il r.maxSplit,il r.lockMost],[.undef])
theorem Yxq {x0:Zk} {r:Zk} (h:Zx7 x0=some r):Zu Tryz.prog Mo (Yxp x0 r):=
 Zs Tryz.func107 (bnK h λz0 W0 h=>rtK h (ta Zd.enc x0.masters z0 (kk 1 (ol 4 Zd.enc_len Zd.enc_lit x0.masters (ob (apl Zd.enc W0) (ob (apm Zd.enc W0) (oe Zd.enc z0 (oe Zd.enc z0 ee))))))))
abbrev Yxl (x0:Zf) (r:Zf):Y:=(197,[.agg (Zf.enc x0)],.agg [bl r.write,il r.addr,il r.size,il r.burst,bl r.lock,.own 3 (r.data_.map Ze)],[.undef])
theorem Z49 {x0:Zf} {r:Zf} (h:Zi1 x0=some r):Zu Tryz.prog Mo (Yxl x0 r):=
 Zs Tryz.func197 (bnK h λz0 W0 h=>rtK h (ta Ze x0.data_ z0 (kk 1 (ol 1 Zcb Zqc x0.data_ (ob (apl Ze W0) (ob (apm Ze W0) (oe Ze z0 (oe Ze z0 ee))))))))
abbrev Ybg (x0:Zb) (r:Zb):Y:=(143,[.agg (Zb.enc x0)],.agg [.own 104 (r.queue.map Zf.enc),il r.beat,il r.done,il r.tries,bl r.parted,bl r.broken],[.undef])
theorem Ygi {x0:Zb} {r:Zb}:∀{m:Nat} {v0:List Zf} {v1:Int},Zlf x0 m v0 v1=some r->CS (Ybg x0 r) Tryz.f143 [1,1,0,1,0] [(1,.ptr (1,1) 0 0),(2,.ptr (1,2) 0 0),(3,.sl (1,4) 0 (v0.map Zf.enc).length),(4,il v1)] [bx 1 (Zb.enc x0),rx 3 104 ([].map Zf.enc),bx 2 [.sl (1,3) 0 ([].map Zf.enc).length,il 0,il 0,il 0,bl false,bl false],rx 4 104 (v0.map Zf.enc)]:=by
 intro m
 induction m with
 | zero=>intro v0 v1 h;cases h
 | succ m ih=>exactλ{v0} {v1} h=>itK h (λg1 h=>bnK h λa0 Zz h=>bnK h λr0 Zo h=>bnK h λz0 W0 h=>Zj (ffi 1 3++[((1,4),(3,8192))]) 11 (lr Zf.enc x0.queue (gg g1 (xb Zf.enc Zz (rr (Z49 Zo) (kk 1 (ta Zf.enc [r0] z0 (kk 1 (oe Ze r0.data_ (oa 6 Zf.enc_len r0 (ox Zf.enc W0 (ln Zf.enc z0 (oe Zf.enc z0 (ln Zf.enc [] ee))))))))))))) (ih h)) λg1 h=>rtK h (lr Zf.enc x0.queue (gg g1 (kk 1 (oe Zf.enc v0 ee))))
theorem Zd9 {x0:Zb} {r:Zb} (h:Zd3 x0=some r):Zu Tryz.prog Mo (Ybg x0 r):=
 Zs Tryz.func143 (Zj [((1,1),(1,0)),((1,2),(1,1024)),((1,4),(2,0))] 8 (tp (.num ([].map Zf.enc).length 0 0 []) (ob (show 0=([].map Zf.enc).length from rfl) ee)) (Ygi h))
abbrev Yyi (x0:Zn) (r:Zn):Y:=(198,[.agg (Zn.enc x0)],.agg (Zn.ow r),[.undef])
theorem Ygw {x0:Zn} {r:Zn} (h:Zse x0=some r):Zu Tryz.prog Mo (Yyi x0 r):=
 Zs Tryz.func198 (bnK h λz0 W0 h=>bnK h λz1 hz1 h=>rtK h (ta Ze x0.regs z0 (ta Ze x0.fifo z1 (kk 2 (ol 1 Zcb Zqc x0.regs (ob (apl Ze W0) (ob (apm Ze W0) (oe Ze z0 (ol 1 Zcb Zqc x0.fifo (ob (apl Ze hz1) (ob (apm Ze hz1) (oe Ze z1 (oe Ze z0 (oe Ze z1 ee))))))))))))))
abbrev Ywd (x0:Zh) (r:Zh):Y:=(144,[.agg (Zh.enc x0)],.agg (Zh.ow r),[.undef])
theorem Yff {x0:Zh} {r:Zh} (h:Zs0 x0=some r):Zu Tryz.prog Mo (Ywd x0 r):=
 Zs Tryz.func144 (bnK h λz0 W0 h=>bnK h λr0 Zo h=>rtK h (ta Ze x0.mem z0 (ol 1 Zcb Zqc x0.mem (ob (apl Ze W0) (ob (apm Ze W0) (oe Ze z0 (rr (Ygw Zo) (kk 3 (oe Ze z0 (Zn.so r0 ee))))))))))
abbrev Ybm (x0:Za) (r:Za):Y:=(87,[.agg (Za.enc x0)],.agg (Za.ow r),[.undef])
theorem Yfx {x0:Za} {r:Za}:∀{m:Nat} {vb0:Za} {v0:Int},Zfs x0 m vb0 v0=some r->CS (Ybm x0 r) Tryz.f87 [1,1,1,1,0,1,0] [(1,.ptr (1,1) 0 0),(2,.ptr (1,2) 0 0),(3,.ptr (1,11) 0 0),(4,il v0)] ([bx 1 (Za.enc x0)]++Za.bk Za.z0 3++[bx 2 (Za.rl Za.z0 3),rx 12 150 (vb0.conf.masters.map Zd.enc),rx 13 156 (vb0.m.map Zb.enc),bx 11 [.sl (1,12) 0 (vb0.conf.masters.map Zd.enc).length,il vb0.conf.quantum,il vb0.conf.maxWait,il vb0.conf.maxRetry,il vb0.conf.maxSplit,il vb0.conf.lockMost,il vb0.now,.sl (1,13) 0 (vb0.m.map Zb.enc).length,il vb0.arb.at_,il vb0.arb.credit,.tr (vb0.buckets.map Zc.enc),.tr (vb0.splits.map Ze),il vb0.holder,il vb0.held,il vb0.last,bl vb0.addr.live,il vb0.addr.who,il vb0.addr.beat,bl vb0.addr.first,il vb0.addr.by_,il vb0.addr.left,il vb0.addr.resp,bl vb0.addr.second,bl vb0.data_.live,il vb0.data_.who,il vb0.data_.beat,bl vb0.data_.first,il vb0.data_.by_,il vb0.data_.left,il vb0.data_.resp,bl vb0.data_.second,.tr (vb0.model.mem.map Ze),.tr (vb0.model.dev.regs.map Ze),il vb0.model.dev.timer,.tr (vb0.model.dev.fifo.map Ze),il vb0.picks,.tr (vb0.log.map Zm.enc)]]):=by
 intro m
 induction m with
 | zero=>intro vb0 v0 h;cases h
 | succ m ih=>exactλ{vb0} {v0} h=>itK h (λg1 h=>bnK h λa0 Zz h=>bnK h λr0 Zo h=>bnK h λz0 W0 h=>Zj (ffi 1 12++[((1,13),(4,4096))]) 13 (lr Zb.enc x0.m (gg g1 (xb Zb.enc Zz (rr (Zd9 Zo) (kk 1 (ta Zb.enc [r0] z0 (kk 1 (oe Zf.enc r0.queue (oa 6 Zb.enc_len r0 (ox Zb.enc W0 (oe Zb.enc z0 (Za.sc Za.z0 (ln Zd.enc vb0.conf.masters (ln Zb.enc z0 ee)))))))))))))) (ih h)) λg1 h=>bnK h λz1 hz1 h=>bnK h λz2 hz2 h=>bnK h λr1 Zw h=>bnK h λz3 hz3 h=>rtK h (lr Zb.enc x0.m (gg g1 (ta Zc.enc x0.buckets z1 (ta Ze x0.splits z2 (ol 2 Zc.enc_len Zc.enc_lit x0.buckets (ob (apl Zc.enc hz1) (ob (apm Zc.enc hz1) (oe Zc.enc z1 (ol 1 Zcb Zqc x0.splits (ob (apl Ze hz2) (ob (apm Ze hz2) (oe Ze z2 (rr (Yff Zw) (ta Zm.enc x0.log z3 (kk 8 (ol 7 Zm.enc_len Zm.enc_lit x0.log (ob (apl Zm.enc hz3) (ob (apm Zm.enc hz3) (oe Zm.enc z3 (oe Zd.enc vb0.conf.masters (oe Zb.enc vb0.m (oe Zc.enc z1 (oe Ze z2 (Zh.so r1 (oe Zm.enc z3 ee)))))))))))))))))))))))))
theorem Ybl {x0:Za} {r:Za} (h:Zpi x0=some r):Zu Tryz.prog Mo (Ybm x0 r):=
 Zs Tryz.func87 (bnK h λr2 Z6 h=>Zj [((1,1),(1,0)),((1,2),(1,1024)),((1,11),(2,1024)),((1,12),(3,2048)),((1,13),(4,0))] 12 (rr (Yxq Z6) (ln Zd.enc r2.masters (tp (.num ([].map Zb.enc).length 0 0 []) (ob (show 0=([].map Zb.enc).length from rfl) ee)))) (Yfx h))
abbrev Yev (x0:Zk) (x1:Int) (r:Int):Y:=(191,[.agg (Zk.enc x0),il x1],il r,[.undef,.undef])
theorem Z4a {x0:Zk} {x1:Int} {r:Int} {v0:Bool} (h:Znu x0 x1 v0=some r):CS (Yev x0 x1 r) Tryz.f191 [1,0,1] [(1,il x1),(2,.ptr (1,1) 0 0),(16,bl v0)] [bx 1 (Zk.enc x0)]:=
 itK h (λg1 h=>rtK h (gg g1 ee)) λg1 h=>bnK h λa0 Zz h=>rtK h (gg g1 (xb Zd.enc Zz ee))
theorem Z47 {x0:Zk} {x1:Int} {r:Int} (h:Zjf x0 x1=some r):Zu Tryz.prog Mo (Yev x0 x1 r):=
 Zs Tryz.func191 (bnK h λr0 Zo h=>itK h (λg1 h=>Zj [((1,1),(1,0))] 5 (rr (Zi4 Zo) (gg g1 (kk 7 ee))) (Z4a h)) λg1 h=>bnK h λr1 Zw h=>Zj [((1,1),(1,0))] 5 (rr (Zi4 Zo) (gg g1 (kk 3 (lr Zd.enc x0.masters (kk 2 (rr (Z4 Zw) (kk 2 ee))))))) (Z4a h))
abbrev Y1h (x0:Z2) (x1:Zk) (r:Bool):Y:=(135,[.agg (Z2.enc x0),.agg (Zk.enc x1)],bl r,[.undef,.undef])
theorem Zwo {x0:Z2} {x1:Zk} {r:Bool} (h:Zq4 x0 x1=some r):Zu Tryz.prog Mo (Y1h x0 x1 r):=
 Zs Tryz.func135 (bnK h λr0 Zo h=>itK h (λg1 h=>bnK h λr1 Zw h=>have p1 {q p} (k:Scr q p):=(rr (Zi4 Zo) (gg g1 (kk 4 (lr Zd.enc x1.masters (kk 2 (rr (Z4 Zw) (kk 1 k)))))));itK h (λg2 h=>bnK h λr2 Z6 h=>bnK h λr3 Y7 h=>rtK h (p1 (gg g2 (kk 5 (rr (Z47 Z6) (kk 1 (rr (Z4 Y7) (kk 1 ee)))))))) λg2 h=>rtK h (p1 (gg g2 (kk 7 ee)))) λg1 h=>rtK h (rr (Zi4 Zo) (gg g1 (kk 15 ee))))
abbrev Ybt (x0:List Int) (r:Bool):Y:=(192,[.tr (x0.map Ze)],bl r,[.undef])
theorem Yfz {x0:List Int} {r:Bool}:∀{m:Nat} {v0:Int},Zlo x0 m v0=some r->CS (Ybt x0 r) Tryz.f192 [1,0,1,0] [(0,.tr (x0.map Ze)),(3,il v0)] []:=by
 intro m
 induction m with
 | zero=>intro v0 h;cases h
 | succ m ih=>exactλ{v0} h=>itK h (λg1 h=>bnK h λa0 Zz h=>bnK h λr0 Zo h=>itK h (λg2 h=>rtK h (lr Ze x0 (gg g1 (xb Ze Zz (rr (Z4 Zo) (gg g2 ee)))))) λg2 h=>Zj [] 14 (lr Ze x0 (gg g1 (xb Ze Zz (rr (Z4 Zo) (gg g2 ee))))) (ih h)) λg1 h=>rtK h (lr Ze x0 (gg g1 (lr Ze x0 ee)))
theorem Zvi {x0:List Int} {r:Bool} (h:Zow x0=some r):Zu Tryz.prog Mo (Ybt x0 r):=
 Zs Tryz.func192 (Zj [] 6 ee (Yfz h))
abbrev Ycp (x0:List Int) (r:Bool):Y:=(242,[.tr (x0.map Ze)],bl r,[.undef])
theorem Ygh {x0:List Int} {r:Bool}:∀{m:Nat} {v0:Int},Zls x0 m v0=some r->CS (Ycp x0 r) Tryz.f242 [1,0,1,0] [(0,.tr (x0.map Ze)),(3,il v0)] []:=by
 intro m
 induction m with
 | zero=>intro v0 h;cases h
 | succ m ih=>exactλ{v0} h=>itK h (λg1 h=>bnK h λa0 Zz h=>bnK h λr0 Zo h=>bnK h λr1 Zw h=>have p1 {q p} (k:Scr q p):=(lr Ze x0 (gg g1 (xb Ze Zz (rr (Zcw Zo) (rr (Z4 Zw) k)))));itK h (λg2 h=>rtK h (p1 (gg g2 ee))) λg2 h=>Zj [] 14 (p1 (gg g2 ee)) (ih h)) λg1 h=>rtK h (lr Ze x0 (gg g1 ee))
theorem Yck {x0:List Int} {r:Bool} (h:Zpb x0=some r):Zu Tryz.prog Mo (Ycp x0 r):=
 Zs Tryz.func242 (Zj [] 6 ee (Ygh h))
abbrev Y10 (x0:Zn) (r:Bool):Y:=(193,[.agg (Zn.enc x0)],bl r,[.undef])
theorem Ykw {x0:Zn} {r:Bool} (h:Zwl x0=some r):Zu Tryz.prog Mo (Y10 x0 r):=
 Zs Tryz.func193 (itK h (λg1 h=>bnK h λr0 Zo h=>have p1 {q p} (k:Scr q p):=(lr Ze x0.regs (gg g1 (kk 2 (rr (Yck Zo) (kk 1 k)))));itK h (λg2 h=>bnK h λr1 Zw h=>bnK h λr2 Z6 h=>have p2 {q p} (k:Scr q p):=(p1 (gg g2 (kk 2 (rr (Zcw Zw) (kk 2 (rr (Z4 Z6) (kk 1 k)))))));itK h (λg3 h=>itK h (λg4 h=>bnK h λr3 Y7 h=>rtK h (p2 (gg g3 (kk 2 (lr Ze x0.fifo (kk 2 (gg g4 (kk 2 (rr (Yck Y7) (kk 1 ee)))))))))) λg4 h=>rtK h (p2 (gg g3 (kk 2 (lr Ze x0.fifo (kk 2 (gg g4 (kk 3 ee)))))))) λg3 h=>rtK h (p2 (gg g3 (kk 8 ee)))) λg2 h=>rtK h (p1 (gg g2 (kk 14 ee)))) λg1 h=>rtK h (lr Ze x0.regs (gg g1 (kk 18 ee))))
abbrev Ysw (x0:Zh) (r:Bool):Y:=(136,[.agg (Zh.enc x0)],bl r,[.undef])
theorem Ybi {x0:Zh} {r:Bool} (h:Zo9 x0=some r):Zu Tryz.prog Mo (Ysw x0 r):=
 Zs Tryz.func136 (itK h (λg1 h=>bnK h λr0 Zo h=>itK h (λg2 h=>bnK h λr1 Zw h=>rtK h (lr Ze x0.mem (gg g1 (kk 2 (rr (Zvi Zo) (kk 1 (gg g2 (kk 2 (rr (Ykw Zw) (kk 1 ee)))))))))) λg2 h=>rtK h (lr Ze x0.mem (gg g1 (kk 2 (rr (Zvi Zo) (kk 1 (gg g2 (kk 3 ee)))))))) λg1 h=>rtK h (lr Ze x0.mem (gg g1 (kk 7 ee))))
abbrev Ymu (x0:Zb) (r:Int):Y:=(243,[.agg (Zb.enc x0)],il r,[.undef])
theorem Ze5 {x0:Zb} {r:Int} (h:Zc0 x0=some r):Zu Tryz.prog Mo (Ymu x0 r):=
 Zs Tryz.func243 (itK h (λg1 h=>rtK h (lr Zf.enc x0.queue (gg g1 ee))) λg1 h=>bnK h λa0 Zz h=>bnK h λr0 Zo h=>rtK h (lr Zf.enc x0.queue (gg g1 (xb Zf.enc Zz (rr (Zec Zo) ee)))))
abbrev Z0h (x0:Zb) (r:Bool):Y:=(194,[.agg (Zb.enc x0)],bl r,[.undef])
theorem Zzj {x0:Zb} {r:Bool} {v0:Bool} (h:Zaj x0 v0=some r):CS (Z0h x0 r) Tryz.f194 [1,1,0,1] [(1,.ptr (1,1) 0 0),(26,bl v0)] [bx 1 (Zb.enc x0)]:=
 itK h (λg1 h=>rtK h (gg g1 ee)) λg1 h=>have p1 {q p} (k:Scr q p):=(gg g1 (lr Zf.enc x0.queue k));itK h (λg2 h=>itK h (λg3 h=>itK h (λg4 h=>have p2 {q p} (k:Scr q p):=(p1 (gg g2 (gg g3 (kk 3 (gg g4 (kk 3 k))))));itK h (λg5 h=>itK h (λg6 h=>rtK h (p2 (gg g5 (kk 3 (gg g6 (kk 3 ee)))))) λg6 h=>rtK h (p2 (gg g5 (kk 3 (gg g6 (kk 3 ee)))))) λg5 h=>rtK h (p2 (gg g5 (kk 7 ee)))) λg4 h=>rtK h (p1 (gg g2 (gg g3 (kk 3 (gg g4 (kk 11 ee))))))) λg3 h=>rtK h (p1 (gg g2 (gg g3 (kk 15 ee))))) λg2 h=>bnK h λr0 Zo h=>bnK h λr1 Zw h=>itK h (λg3 h=>bnK h λr2 Z6 h=>bnK h λr3 Y7 h=>rtK h (p1 (gg g2 (rr (Ze5 Zo) (rr (Z4 Zw) (gg g3 (kk 8 (rr (Ze5 Z6) (kk 2 (rr (Z4 Y7) (kk 1 ee))))))))))) λg3 h=>rtK h (p1 (gg g2 (rr (Ze5 Zo) (rr (Z4 Zw) (gg g3 (kk 11 ee))))))
theorem Yd7 {x0:Zb} {r:Bool}:∀{m:Nat} {v1:Int},Zi9 x0 m v1=some r->CS (Z0h x0 r) Tryz.f194 [1,0,1,0] [(1,.ptr (1,1) 0 0),(3,il v1)] [bx 1 (Zb.enc x0)]:=by
 intro m
 induction m with
 | zero=>intro v1 h;cases h
 | succ m ih=>exactλ{v1} h=>itK h (λg1 h=>bnK h λa0 Zz h=>bnK h λr4 Q5 h=>have p1 {q p} (k:Scr q p):=(lr Zf.enc x0.queue (gg g1 (xb Zf.enc Zz (rr (Z77 Q5) k))));itK h (λg2 h=>rtK h (p1 (gg g2 ee))) λg2 h=>Zj [((1,1),(1,1))] 14 (p1 (gg g2 ee)) (ih h)) λg1 h=>itK h (λg2 h=>Zj [((1,1),(1,1))] 12 (lr Zf.enc x0.queue (gg g1 (lr Zf.enc x0.queue (gg g2 (kk 3 ee))))) (Zzj h)) λg2 h=>Zj [((1,1),(1,1))] 12 (lr Zf.enc x0.queue (gg g1 (lr Zf.enc x0.queue (gg g2 (kk 3 ee))))) (Zzj h)
theorem J7 {x0:Zb} {r:Bool} (h:Zbo x0=some r):Zu Tryz.prog Mo (Z0h x0 r):=
 Zs Tryz.func194 (Zj [((1,1),(1,0))] 6 ee (Yd7 h))
abbrev Yzm (x0:Zb) (x1:Zk) (r:Bool):Y:=(137,[.agg (Zb.enc x0),.agg (Zk.enc x1)],bl r,[.undef,.undef])
theorem Y0e {x0:Zb} {x1:Zk} {r:Bool} (h:Z7e x0 x1=some r):Zu Tryz.prog Mo (Yzm x0 x1 r):=
 Zs Tryz.func137 (bnK h λr0 Zo h=>itK h (λg1 h=>bnK h λr1 Zw h=>have p1 {q p} (k:Scr q p):=(rr (Zi4 Zo) (gg g1 (kk 1 (rr (J7 Zw) (kk 1 k)))));itK h (λg2 h=>rtK h (p1 (gg g2 (kk 5 ee)))) λg2 h=>rtK h (p1 (gg g2 (kk 5 ee)))) λg1 h=>rtK h (rr (Zi4 Zo) (gg g1 (kk 8 ee))))
abbrev Ynv (x0:Zc) (x1:Zd) (r:Bool):Y:=(138,[.agg (Zc.enc x0),.agg (Zd.enc x1)],bl r,[.undef,.undef])
theorem Zne {x0:Zc} {x1:Zd} {r:Bool} (h:Zem x0 x1=some r):Zu Tryz.prog Mo (Ynv x0 x1 r):=
 Zs Tryz.func138 (itK h (λg1 h=>rtK h (gg g1 ee)) λg1 h=>bnK h λr0 Zo h=>itK h (λg2 h=>bnK h λr1 Zw h=>rtK h (gg g1 (rr (Z4 Zo) (gg g2 (kk 5 (rr (Z4 Zw) (kk 1 ee))))))) λg2 h=>rtK h (gg g1 (rr (Z4 Zo) (gg g2 (kk 6 ee)))))
abbrev Z2t (x0:Za) (x1:Int) (r:Int):Y:=(139,[.agg (Za.enc x0),il x1],il r,[.undef,.undef])
theorem Z00 {x0:Za} {x1:Int} {r:Int} {v0:Int} (h:Zk5 x0 x1 v0=some r):CS (Z2t x0 x1 r) Tryz.f139 [1,1,1] [(1,il x1),(2,.ptr (1,1) 0 0),(5,il v0)] [bx 1 (Za.enc x0)]:=
 itK h (λg1 h=>itK h (λg2 h=>rtK h (gg g1 (kk 5 (gg g2 ee)))) λg2 h=>rtK h (gg g1 (kk 5 (gg g2 ee)))) λg1 h=>rtK h (gg g1 (kk 6 ee))
theorem Z1x {x0:Za} {x1:Int} {r:Int} {v1:Bool} (h:Zlk x0 x1 v1=some r):CS (Z2t x0 x1 r) Tryz.f139 [1,1,0,1] [(1,il x1),(2,.ptr (1,1) 0 0),(5,il 0),(15,bl v1)] [bx 1 (Za.enc x0)]:=
 itK h (λg1 h=>Zj [((1,1),(1,1))] 2 (gg g1 ee) (Z00 h)) λg1 h=>Zj [((1,1),(1,1))] 2 (gg g1 ee) (Z00 h)
theorem Yt1 {x0:Za} {x1:Int} {r:Int} (h:Zuu x0 x1=some r):Zu Tryz.prog Mo (Z2t x0 x1 r):=
 Zs Tryz.func139 (itK h (λg1 h=>Zj [((1,1),(1,0))] 7 (gg g1 (kk 5 ee)) (Z1x h)) λg1 h=>Zj [((1,1),(1,0))] 7 (gg g1 (kk 5 ee)) (Z1x h))
abbrev Ypg (x0:Int) (r:ByteArray):Y:=(195,[il x0],ss r,[.undef])
theorem Yos {x0:Int} {r:ByteArray} (h:Zsp x0=some r):Zu Tryz.prog Mo (Ypg x0 r):=
 Zs Tryz.func195 (bnK h λr0 Zo h=>itK h (λg1 h=>rtK h (rr (Z4 Zo) (gg g1 ee))) λg1 h=>bnK h λa0 Zz h=>rtK h (rr (Z4 Zo) (gg g1 (xd encS Zz ee))))
abbrev Z3f (x0:Za) (x1:Zg) (x2:Bool) (r:Bool):Y:=(140,[.agg (Za.enc x0),.agg (Zg.enc x1),bl x2],bl r,[.undef,.undef,.undef])
theorem Wo {x0:Za} {x1:Zg} {x2:Bool} {r:Bool} {vb0:Zb} {v0:Bool} (h:Yg x0 x1 x2 vb0 v0=some r):CS (Z3f x0 x1 x2 r) Tryz.f140 [1,1,1,1,1,0,1] [(3,.ptr (1,1) 0 0),(4,.ptr (1,2) 0 0),(7,.ptr (1,3) 0 0),(101,bl v0)] [bx 1 (Za.enc x0),bx 2 (Zg.enc x1),bx 3 (Zb.enc vb0)]:=
 itK h (λg1 h=>rtK h (gg g1 ee)) λg1 h=>itK h (λg2 h=>bnK h λr0 Zo h=>have p1 {q p} (k:Scr q p):=(gg g1 (gg g2 (kk 6 (rr (Z4 Zo) (kk 1 k)))));itK h (λg3 h=>bnK h λr1 Zw h=>have p2 {q p} (k:Scr q p):=(p1 (gg g3 (kk 2 (rr (Yos Zw) (kk 2 k)))));itK h (λg4 h=>itK h (λg5 h=>rtK h (p2 (gg g4 (kk 3 (gg g5 (kk 7 ee)))))) λg5 h=>itK h (λg6 h=>rtK h (p2 (gg g4 (kk 3 (gg g5 (kk 3 (gg g6 (kk 7 ee)))))))) λg6 h=>rtK h (p2 (gg g4 (kk 3 (gg g5 (kk 3 (gg g6 (kk 7 ee)))))))) λg4 h=>rtK h (p2 (gg g4 (kk 5 ee)))) λg3 h=>rtK h (p1 (gg g3 (kk 10 ee)))) λg2 h=>rtK h (gg g1 (gg g2 (kk 18 ee)))
theorem Zre {x0:Za} {x1:Zg} {x2:Bool} {r:Bool} {v1:Bool} (h:Q3 x0 x1 x2 v1=some r):CS (Z3f x0 x1 x2 r) Tryz.f140 [1,1,0,1] [(2,bl x2),(3,.ptr (1,1) 0 0),(4,.ptr (1,2) 0 0),(36,bl v1)] [bx 1 (Za.enc x0),bx 2 (Zg.enc x1)]:=
 itK h (λg1 h=>rtK h (gg g1 ee)) λg1 h=>bnK h λa0 Zz h=>have p1 {q p} (k:Scr q p):=(gg g1 (xb Zb.enc Zz k));itK h (λg2 h=>itK h (λg3 h=>itK h (λg4 h=>itK h (λg5 h=>rtK h (p1 (gg g2 (gg g3 (kk 3 (gg g4 (kk 3 (gg g5 (kk 3 ee))))))))) λg5 h=>rtK h (p1 (gg g2 (gg g3 (kk 3 (gg g4 (kk 3 (gg g5 (kk 3 ee))))))))) λg4 h=>rtK h (p1 (gg g2 (gg g3 (kk 3 (gg g4 (kk 7 ee))))))) λg3 h=>rtK h (p1 (gg g2 (gg g3 (kk 11 ee))))) λg2 h=>itK h (λg3 h=>have p2 {q p} (k:Scr q p):=(p1 (gg g2 (gg g3 (kk 6 k))));itK h (λg4 h=>Zj [((1,1),(1,1)),((1,2),(1,2)),((1,3),(2,6144))] 12 (p2 (gg g4 (kk 10 ee))) (Wo h)) λg4 h=>itK h (λg5 h=>have p3 {q p} (k:Scr q p):=(p2 (gg g4 (kk 3 (gg g5 (kk 2 k)))));itK h (λg6 h=>Zj [((1,1),(1,1)),((1,2),(1,2)),((1,3),(2,6144))] 12 (p3 (gg g6 (kk 14 ee))) (Wo h)) λg6 h=>itK h (λg7 h=>Zj [((1,1),(1,1)),((1,2),(1,2)),((1,3),(2,6144))] 12 (p3 (gg g6 (kk 9 (gg g7 (kk 4 ee))))) (Wo h)) λg7 h=>itK h (λg8 h=>Zj [((1,1),(1,1)),((1,2),(1,2)),((1,3),(2,6144))] 12 (p3 (gg g6 (kk 9 (gg g7 (kk 2 (gg g8 (kk 5 ee))))))) (Wo h)) λg8 h=>Zj [((1,1),(1,1)),((1,2),(1,2)),((1,3),(2,6144))] 12 (p3 (gg g6 (kk 9 (gg g7 (kk 2 (gg g8 (kk 5 ee))))))) (Wo h)) λg5 h=>itK h (λg6 h=>Zj [((1,1),(1,1)),((1,2),(1,2)),((1,3),(2,6144))] 12 (p2 (gg g4 (kk 3 (gg g5 (kk 9 (gg g6 (kk 5 ee))))))) (Wo h)) λg6 h=>Zj [((1,1),(1,1)),((1,2),(1,2)),((1,3),(2,6144))] 12 (p2 (gg g4 (kk 3 (gg g5 (kk 9 (gg g6 (kk 5 ee))))))) (Wo h)) λg3 h=>have p4 {q p} (k:Scr q p):=(p1 (gg g2 (gg g3 (kk 10 k))));itK h (λg4 h=>itK h (λg5 h=>Zj [((1,1),(1,1)),((1,2),(1,2)),((1,3),(2,6144))] 12 (p4 (gg g4 (kk 2 (gg g5 (kk 14 ee))))) (Wo h)) λg5 h=>itK h (λg6 h=>Zj [((1,1),(1,1)),((1,2),(1,2)),((1,3),(2,6144))] 12 (p4 (gg g4 (kk 2 (gg g5 (kk 9 (gg g6 (kk 4 ee))))))) (Wo h)) λg6 h=>itK h (λg7 h=>Zj [((1,1),(1,1)),((1,2),(1,2)),((1,3),(2,6144))] 12 (p4 (gg g4 (kk 2 (gg g5 (kk 9 (gg g6 (kk 2 (gg g7 (kk 5 ee))))))))) (Wo h)) λg7 h=>Zj [((1,1),(1,1)),((1,2),(1,2)),((1,3),(2,6144))] 12 (p4 (gg g4 (kk 2 (gg g5 (kk 9 (gg g6 (kk 2 (gg g7 (kk 5 ee))))))))) (Wo h)) λg4 h=>itK h (λg5 h=>Zj [((1,1),(1,1)),((1,2),(1,2)),((1,3),(2,6144))] 12 (p4 (gg g4 (kk 9 (gg g5 (kk 5 ee))))) (Wo h)) λg5 h=>Zj [((1,1),(1,1)),((1,2),(1,2)),((1,3),(2,6144))] 12 (p4 (gg g4 (kk 9 (gg g5 (kk 5 ee))))) (Wo h)
theorem Yb5 {x0:Za} {x1:Zg} {x2:Bool} {r:Bool} (h:Zcp x0 x1 x2=some r):Zu Tryz.prog Mo (Z3f x0 x1 x2 r):=
 Zs Tryz.func140 (itK h (λg1 h=>rtK h (gg g1 ee)) λg1 h=>bnK h λr2 Z6 h=>have p1 {q p} (k:Scr q p):=(gg g1 (lr Zb.enc x0.m (rr (Z4 Z6) k)));itK h (λg2 h=>Zj [((1,1),(1,0)),((1,2),(1,1024))] 10 (p1 (gg g2 (kk 12 ee))) (Zre h)) λg2 h=>bnK h λr3 Y7 h=>itK h (λg3 h=>Zj [((1,1),(1,0)),((1,2),(1,1024))] 10 (p1 (gg g2 (kk 2 (rr (Z4 Y7) (kk 2 (gg g3 (kk 7 ee))))))) (Zre h)) λg3 h=>bnK h λa1 Yv h=>Zj [((1,1),(1,0)),((1,2),(1,1024))] 10 (p1 (gg g2 (kk 2 (rr (Z4 Y7) (kk 2 (gg g3 (kk 4 (xb Ze Yv (kk 3 ee))))))))) (Zre h))
abbrev Z2z (x0:Za) (r:Bool):Y:=(141,[.agg (Za.enc x0)],bl r,[.undef])
theorem Z17 {x0:Za} {r:Bool} {v0:Bool} (h:Zbq x0 v0=some r):CS (Z2z x0 r) Tryz.f141 [1,1,1,0,1] [(1,.ptr (1,1) 0 0),(67,bl v0)] [bx 1 (Za.enc x0)]:=
 itK h (λg1 h=>rtK h (gg g1 ee)) λg1 h=>bnK h λa0 Zz h=>have p1 {q p} (k:Scr q p):=(gg g1 (xb Zb.enc Zz (lr Zf.enc a0.queue k)));itK h (λg2 h=>bnK h λa1 Yv h=>have p2 {q p} (k:Scr q p):=(p1 (gg g2 (kk 2 (xb Zf.enc Yv (kk 3 k)))));itK h (λg3 h=>itK h (λg4 h=>bnK h λa2 Ks h=>rtK h (p2 (gg g3 (kk 3 (gg g4 (kk 4 (xb Ze Ks (kk 3 ee)))))))) λg4 h=>rtK h (p2 (gg g3 (kk 3 (gg g4 (kk 7 ee)))))) λg3 h=>rtK h (p2 (gg g3 (kk 11 ee)))) λg2 h=>rtK h (p1 (gg g2 (kk 17 ee)))
theorem Ygb {x0:Za} {r:Bool}:∀{m:Nat} {v1:Int},Zsa x0 m v1=some r->CS (Z2z x0 r) Tryz.f141 [1,0,1,0] [(1,.ptr (1,1) 0 0),(3,il v1)] [bx 1 (Za.enc x0)]:=by
 intro m
 induction m with
 | zero=>intro v1 h;cases h
 | succ m ih=>exactλ{v1} h=>have p1 {q p} (k:Scr q p):=(lr Zb.enc x0.m k);itK h (λg1 h=>bnK h λa3 ha3 h=>have p2 {q p} (k:Scr q p):=(p1 (gg g1 (xb Zb.enc ha3 k)));itK h (λg2 h=>bnK h λa4 ha4 h=>have p3 {q p} (k:Scr q p):=(p2 (gg g2 (kk 3 (xb Zb.enc ha3 (kk 3 (xb Zf.enc ha4 (kk 3 k)))))));itK h (λg3 h=>have p4 {q p} (k:Scr q p):=(p3 (gg g3 (kk 3 (xb Zb.enc ha3 (kk 4 k)))));itK h (λg4 h=>itK h (λg5 h=>rtK h (p4 (gg g4 (kk 4 (gg g5 ee))))) λg5 h=>Zj [((1,1),(1,1))] 14 (p4 (gg g4 (kk 4 (gg g5 ee)))) (ih h)) λg4 h=>Zj [((1,1),(1,1))] 14 (p4 (gg g4 (kk 5 ee))) (ih h)) λg3 h=>Zj [((1,1),(1,1))] 14 (p3 (gg g3 (kk 13 ee))) (ih h)) λg2 h=>Zj [((1,1),(1,1))] 14 (p2 (gg g2 (kk 23 ee))) (ih h)) λg1 h=>itK h (λg2 h=>rtK h (p1 (gg g1 (gg g2 ee)))) λg2 h=>bnK h λr0 Zo h=>itK h (λg3 h=>Zj [((1,1),(1,1))] 17 (p1 (gg g1 (gg g2 (lr Zb.enc x0.m (rr (Z4 Zo) (gg g3 (kk 7 ee))))))) (Z17 h)) λg3 h=>bnK h λr1 Zw h=>Zj [((1,1),(1,1))] 17 (p1 (gg g1 (gg g2 (lr Zb.enc x0.m (rr (Z4 Zo) (gg g3 (kk 5 (rr (Z4 Zw) (kk 2 ee))))))))) (Z17 h)
theorem Ybz {x0:Za} {r:Bool} (h:Zox x0=some r):Zu Tryz.prog Mo (Z2z x0 r):=
 Zs Tryz.func141 (Zj [((1,1),(1,0))] 6 ee (Ygb h))
abbrev Yhc (x0:Za) (r:Bool):Y:=(142,[.agg (Za.enc x0)],bl r,[.undef])
theorem Yjc {x0:Za} {r:Bool}:∀{m:Nat} {v0:Int},Zn2 x0 m v0=some r->CS (Yhc x0 r) Tryz.f142 [1,0,1,0] [(1,.ptr (1,1) 0 0),(3,il v0)] [bx 1 (Za.enc x0)]:=by
 intro m
 induction m with
 | zero=>intro v0 h;cases h
 | succ m ih=>exactλ{v0} h=>have p1 {q p} (k:Scr q p):=(lr Zm.enc x0.log k);itK h (λg1 h=>bnK h λa0 Zz h=>bnK h λr0 Zo h=>have p2 {q p} (k:Scr q p):=(p1 (gg g1 (xb Zm.enc Zz (rr (Z4 Zo) k))));itK h (λg2 h=>rtK h (p2 (gg g2 (kk 40 ee)))) λg2 h=>have p3 {q p} (k:Scr q p):=(p2 (gg g2 (kk 2 k)));itK h (λg3 h=>bnK h λa1 Yv h=>have p4 {q p} (k:Scr q p):=(p3 (gg g3 (kk 6 (xb Zm.enc Yv (kk 6 k)))));itK h (λg4 h=>rtK h (p4 (gg g4 (kk 35 ee)))) λg4 h=>bnK h λr1 Zw h=>have p5 {q p} (k:Scr q p):=(p4 (gg g4 (kk 4 (lr Zb.enc x0.m (kk 2 (rr (Z4 Zw) (kk 2 k)))))));itK h (λg5 h=>rtK h (p5 (gg g5 (kk 26 ee)))) λg5 h=>bnK h λr2 Z6 h=>have p6 {q p} (k:Scr q p):=(p5 (gg g5 (kk 4 (rr (Zo0 Z6) (kk 2 k)))));itK h (λg6 h=>rtK h (p6 (gg g6 (kk 19 ee)))) λg6 h=>bnK h λr3 Y7 h=>have p7 {q p} (k:Scr q p):=(p6 (gg g6 (kk 2 (rr (Z4 Y7) (kk 2 k)))));itK h (λg7 h=>rtK h (p7 (gg g7 (kk 14 ee)))) λg7 h=>bnK h λr4 Q5 h=>bnK h λr5 hr5 h=>have p8 {q p} (k:Scr q p):=(p7 (gg g7 (kk 4 (rr (Zcw Q5) (kk 2 (rr (Z4 hr5) (kk 2 k)))))));itK h (λg8 h=>rtK h (p8 (gg g8 (kk 5 ee)))) λg8 h=>bnK h λr6 hr6 h=>itK h (λg9 h=>rtK h (p8 (gg g8 (kk 2 (rr (Z4 hr6) (kk 2 (gg g9 ee))))))) λg9 h=>Zj [((1,1),(1,1))] 16 (p8 (gg g8 (kk 2 (rr (Z4 hr6) (kk 2 (gg g9 ee)))))) (ih h)) λg3 h=>bnK h λr1 Zw h=>have p9 {q p} (k:Scr q p):=(p3 (gg g3 (kk 17 (lr Zb.enc x0.m (kk 2 (rr (Z4 Zw) (kk 2 k)))))));itK h (λg4 h=>rtK h (p9 (gg g4 (kk 26 ee)))) λg4 h=>bnK h λr2 Z6 h=>have p10 {q p} (k:Scr q p):=(p9 (gg g4 (kk 4 (rr (Zo0 Z6) (kk 2 k)))));itK h (λg5 h=>rtK h (p10 (gg g5 (kk 19 ee)))) λg5 h=>bnK h λr3 Y7 h=>have p11 {q p} (k:Scr q p):=(p10 (gg g5 (kk 2 (rr (Z4 Y7) (kk 2 k)))));itK h (λg6 h=>rtK h (p11 (gg g6 (kk 14 ee)))) λg6 h=>bnK h λr4 Q5 h=>bnK h λr5 hr5 h=>have p12 {q p} (k:Scr q p):=(p11 (gg g6 (kk 4 (rr (Zcw Q5) (kk 2 (rr (Z4 hr5) (kk 2 k)))))));itK h (λg7 h=>rtK h (p12 (gg g7 (kk 5 ee)))) λg7 h=>bnK h λr6 hr6 h=>itK h (λg8 h=>rtK h (p12 (gg g7 (kk 2 (rr (Z4 hr6) (kk 2 (gg g8 ee))))))) λg8 h=>Zj [((1,1),(1,1))] 16 (p12 (gg g7 (kk 2 (rr (Z4 hr6) (kk 2 (gg g8 ee)))))) (ih h)) λg1 h=>rtK h (p1 (gg g1 ee))
theorem Yx7 {x0:Za} {r:Bool} (h:Zto x0=some r):Zu Tryz.prog Mo (Yhc x0 r):=
 Zs Tryz.func142 (Zj [((1,1),(1,0))] 6 ee (Yjc h))
abbrev Z7f (x0:Za) (r:Bool):Y:=(86,[.agg (Za.enc x0)],bl r,[.undef])
theorem Ylk {x0:Za} {r:Bool}:∀{m:Nat} {v0:Int},Zp4 x0 m v0=some r->CS (Z7f x0 r) Tryz.f86 [1,1,1,0,1,0] [(1,.ptr (1,1) 0 0),(3,il (x0.conf.masters.length:Int)),(4,il v0)] [bx 1 (Za.enc x0)]:=by
 intro m
 induction m with
 | zero=>intro v0 h;cases h
 | succ m ih=>exactλ{v0} h=>itK h (λg1 h=>bnK h λa0 Zz h=>bnK h λr0 Zo h=>have p1 {q p} (k:Scr q p):=(gg g1 (xb Zb.enc Zz (rr (Y0e Zo) k)));itK h (λg2 h=>rtK h (p1 (gg g2 (kk 43 ee)))) λg2 h=>bnK h λa1 Yv h=>bnK h λa2 Ks h=>bnK h λr1 Zw h=>have p2 {q p} (k:Scr q p):=(p1 (gg g2 (kk 3 (xb Zc.enc Yv (kk 6 (xb Zd.enc Ks (kk 2 (rr (Zne Zw) (kk 2 k)))))))));itK h (λg3 h=>rtK h (p2 (gg g3 (kk 29 ee)))) λg3 h=>bnK h λa3 ha3 h=>bnK h λr2 Z6 h=>have p3 {q p} (k:Scr q p):=(p2 (gg g3 (kk 3 (xb Ze ha3 (kk 5 (rr (Z4 Z6) (kk 2 k)))))));itK h (λg4 h=>rtK h (p3 (gg g4 (kk 18 ee)))) λg4 h=>bnK h λr3 Y7 h=>have p4 {q p} (k:Scr q p):=(p3 (gg g4 (kk 3 (xb Zb.enc Zz (kk 6 (xb Zb.enc Zz (kk 6 (rr (Yt1 Y7) (kk 2 k)))))))));itK h (λg5 h=>rtK h (p4 (gg g5 ee))) λg5 h=>Zj [((1,1),(1,1))] 14 (p4 (gg g5 ee)) (ih h)) λg1 h=>bnK h λr4 Q5 h=>have p5 {q p} (k:Scr q p):=(gg g1 (rr (Yb5 Q5) k));itK h (λg2 h=>bnK h λr5 hr5 h=>have p6 {q p} (k:Scr q p):=(p5 (gg g2 (kk 3 (rr (Yb5 hr5) (kk 1 k)))));itK h (λg3 h=>bnK h λr6 hr6 h=>itK h (λg4 h=>bnK h λr7 hr7 h=>rtK h (p6 (gg g3 (kk 1 (rr (Ybz hr6) (kk 1 (gg g4 (kk 1 (rr (Yx7 hr7) (kk 1 ee)))))))))) λg4 h=>rtK h (p6 (gg g3 (kk 1 (rr (Ybz hr6) (kk 1 (gg g4 (kk 2 ee)))))))) λg3 h=>rtK h (p6 (gg g3 (kk 5 ee)))) λg2 h=>rtK h (p5 (gg g2 (kk 10 ee)))
theorem Jm {x0:Za} {r:Bool} {v1:Bool} (h:Wy x0 v1=some r):CS (Z7f x0 r) Tryz.f86 [1,1,0,1] [(1,.ptr (1,1) 0 0),(3,il (x0.conf.masters.length:Int)),(73,bl v1)] [bx 1 (Za.enc x0)]:=
 itK h (λg1 h=>rtK h (gg g1 ee)) λg1 h=>Zj [((1,1),(1,1))] 6 (gg g1 ee) (Ylk h)
theorem Yj8 {x0:Za} {r:Bool} (h:Znc x0=some r):Zu Tryz.prog Mo (Z7f x0 r):=
 Zs Tryz.func86 (bnK h λr8 hr8 h=>have p1 {q p} (k:Scr q p):=(lr Zd.enc x0.conf.masters (rr (Zi4 hr8) k));itK h (λg1 h=>Zj [((1,1),(1,0))] 7 (p1 (gg g1 (kk 51 ee))) (Jm h)) λg1 h=>bnK h λr9 hr9 h=>have p2 {q p} (k:Scr q p):=(p1 (gg g1 (kk 2 (rr (Z4 hr9) (kk 2 k)))));itK h (λg2 h=>Zj [((1,1),(1,0))] 7 (p2 (gg g2 (kk 46 ee))) (Jm h)) λg2 h=>have p3 {q p} (k:Scr q p):=(p2 (gg g2 (kk 2 (lr Zb.enc x0.m (kk 3 k)))));itK h (λg3 h=>Zj [((1,1),(1,0))] 7 (p3 (gg g3 (kk 40 ee))) (Jm h)) λg3 h=>have p4 {q p} (k:Scr q p):=(p3 (gg g3 (kk 2 (lr Zc.enc x0.buckets (kk 3 k)))));itK h (λg4 h=>Zj [((1,1),(1,0))] 7 (p4 (gg g4 (kk 34 ee))) (Jm h)) λg4 h=>have p5 {q p} (k:Scr q p):=(p4 (gg g4 (kk 2 (lr Ze x0.splits (kk 3 k)))));itK h (λg5 h=>Zj [((1,1),(1,0))] 7 (p5 (gg g5 (kk 28 ee))) (Jm h)) λg5 h=>bnK h λr10 hr10 h=>have p6 {q p} (k:Scr q p):=(p5 (gg g5 (kk 4 (rr (Zwo hr10) (kk 2 k)))));itK h (λg6 h=>Zj [((1,1),(1,0))] 7 (p6 (gg g6 (kk 21 ee))) (Jm h)) λg6 h=>bnK h λr11 hr11 h=>have p7 {q p} (k:Scr q p):=(p6 (gg g6 (kk 4 (rr (Z4 hr11) (kk 2 k)))));itK h (λg7 h=>Zj [((1,1),(1,0))] 7 (p7 (gg g7 (kk 14 ee))) (Jm h)) λg7 h=>bnK h λr12 hr12 h=>have p8 {q p} (k:Scr q p):=(p7 (gg g7 (kk 2 (rr (Ybi hr12) (kk 2 k)))));itK h (λg8 h=>Zj [((1,1),(1,0))] 7 (p8 (gg g8 (kk 9 ee))) (Jm h)) λg8 h=>itK h (λg9 h=>Zj [((1,1),(1,0))] 7 (p8 (gg g8 (kk 3 (gg g9 (kk 5 ee))))) (Jm h)) λg9 h=>Zj [((1,1),(1,0))] 7 (p8 (gg g8 (kk 3 (gg g9 (kk 5 ee))))) (Jm h))
abbrev Yb8 (x0:Zb) (x1:Int) (r:Int):Y:=(199,[.agg (Zb.enc x0),il x1],il r,[.undef,.undef])
theorem Z06 {x0:Zb} {x1:Int} {r:Int} {v0:Bool} (h:Zli x0 x1 v0=some r):CS (Yb8 x0 x1 r) Tryz.f199 [1,0,1] [(1,il x1),(2,.ptr (1,1) 0 0),(16,bl v0)] [bx 1 (Zb.enc x0)]:=
 itK h (λg1 h=>rtK h (gg g1 ee)) λg1 h=>bnK h λa0 Zz h=>bnK h λr0 Zo h=>bnK h λa1 Yv h=>rtK h (gg g1 (xb Zf.enc Zz (rr (Z37 Zo) (xd Ze Yv ee))))
theorem Zo4 {x0:Zb} {x1:Int} {r:Int} (h:Zgu x0 x1=some r):Zu Tryz.prog Mo (Yb8 x0 x1 r):=
 Zs Tryz.func199 (bnK h λr1 Zw h=>itK h (λg1 h=>Zj [((1,1),(1,0))] 5 (rr (J7 Zw) (gg g1 (kk 6 ee))) (Z06 h)) λg1 h=>bnK h λr2 Z6 h=>bnK h λr3 Y7 h=>Zj [((1,1),(1,0))] 5 (rr (J7 Zw) (gg g1 (kk 2 (rr (Ze5 Z6) (kk 2 (rr (Z4 Y7) (kk 2 ee))))))) (Z06 h))
abbrev Ybx (x0:Za) (r:Zp):Y:=(145,[.agg (Za.enc x0)],.agg (Zp.enc r),[.undef])
theorem Zr5 {x0:Za} {r:Zp} {vb0:Zp} (h:Zf3 x0 vb0=some r):CS (Ybx x0 r) Tryz.f145 [1,1,1] [(1,.ptr (1,1) 0 0),(2,.ptr (1,2) 0 0),(3,.ptr (1,3) 0 0)] [bx 1 (Za.enc x0),bx 2 (Zp.enc Zp.z0),bx 3 (Zp.enc vb0)]:=
 itK h (λg1 h=>bnK h λa0 Zz h=>bnK h λr0 Zo h=>rtK h (gg g1 (xb Zb.enc Zz (rr (Zo4 Zo) ee)))) λg1 h=>rtK h (gg g1 ee)
theorem Ysd {x0:Za} {r:Zp} (h:Zvm x0=some r):Zu Tryz.prog Mo (Ybx x0 r):=
 Zs Tryz.func145 (itK h (λg1 h=>bnK h λa1 Yv h=>bnK h λr1 Zw h=>itK h (λg2 h=>Zj [((1,1),(1,0)),((1,2),(1,1024)),((1,3),(2,3072))] 18 (gg g1 (xb Zb.enc Yv (rr (Zo4 Zw) (gg g2 ee)))) (Zr5 h)) λg2 h=>Zj [((1,1),(1,0)),((1,2),(1,1024)),((1,3),(2,3072))] 18 (gg g1 (xb Zb.enc Yv (rr (Zo4 Zw) (gg g2 ee)))) (Zr5 h)) λg1 h=>Zj [((1,1),(1,0)),((1,2),(1,1024)),((1,3),(2,3072))] 9 (gg g1 ee) (Zr5 h))
abbrev Ych (x0:Zi) (x1:Int) (r:List Zl):Y:=(146,[.agg (Zi.enc x0),il x1],.own 106 (r.map Zl.enc),[.undef,.undef])
theorem Ygp {x0:Zi} {x1:Int} {r:List Zl}:∀{m:Nat} {v0:List Zl} {v1:Int},Zln x0 x1 m v0 v1=some r->CS (Ych x0 x1 r) Tryz.f146 [1,1,0,1,0] [(1,il x1),(2,.ptr (1,1) 0 0),(5,.sl (1,2) 0 (v0.map Zl.enc).length),(6,il v1)] [bx 1 (Zi.enc x0),rx 2 106 (v0.map Zl.enc)]:=by
 intro m
 induction m with
 | zero=>intro v0 v1 h;cases h
 | succ m ih=>exactλ{v0} {v1} h=>itK h (λg1 h=>bnK h λa0 Zz h=>itK h (λg2 h=>bnK h λr0 Zo h=>bnK h λz0 W0 h=>Zj [((1,1),(1,1)),((1,2),(6,3072))] 18 (lr Zl.enc x0.posts (gg g1 (xb Zl.enc Zz (gg g2 (xb Zl.enc Zz (rr (Z49 Zo) (kk 1 (ta Zl.enc [{a0 with req:=r0}] z0 (kk 1 (oe Ze r0.data_ (oa 8 Zl.enc_len {a0 with req:=r0} (ox Zl.enc W0 (ln Zl.enc z0 (oe Zl.enc z0 ee)))))))))))))) (ih h)) λg2 h=>Zj [((1,1),(1,1)),((1,2),(1,2))] 14 (lr Zl.enc x0.posts (gg g1 (xb Zl.enc Zz (gg g2 (ln Zl.enc v0 ee))))) (ih h)) λg1 h=>rtK h (lr Zl.enc x0.posts (gg g1 (kk 1 (oe Zl.enc v0 ee))))
theorem Ys6 {x0:Zi} {x1:Int} {r:List Zl} (h:Zvn x0 x1=some r):Zu Tryz.prog Mo (Ych x0 x1 r):=
 Zs Tryz.func146 (Zj [((1,1),(1,0)),((1,2),(2,0))] 8 (tp (.num ([].map Zl.enc).length 0 0 []) (ob (show 0=([].map Zl.enc).length from rfl) ee)) (Ygp h))
abbrev Ya9 (x0:Zb) (x1:Zf) (r:Zb×Bool):Y:=(147,[.agg (Zb.enc x0),.agg (Zf.enc x1)],.tup [.agg [.own 104 (r.1.queue.map Zf.enc),il r.1.beat,il r.1.done,il r.1.tries,bl r.1.parted,bl r.1.broken],bl r.2],[.undef,.undef])
theorem Zrj {x0:Zb} {x1:Zf} {r:Zb×Bool} {vb0:Zb} {v0:Bool} (h:Zfv x0 x1 vb0 v0=some r):CS (Ya9 x0 x1 r) Tryz.f147 [1,1,0,1] [(3,.ptr (1,1) 0 0),(4,.ptr (1,2) 0 0),(6,.ptr (1,4) 0 0),(22,bl v0)] [bx 1 (Zf.enc x1),rx 3 104 ([].map Zf.enc),bx 2 [.sl (1,3) 0 ([].map Zf.enc).length,il 0,il 0,il 0,bl false,bl false],rx 5 104 (vb0.queue.map Zf.enc),bx 4 [.sl (1,5) 0 (vb0.queue.map Zf.enc).length,il vb0.beat,il vb0.done,il vb0.tries,bl vb0.parted,bl vb0.broken]]:=
 itK h (λg1 h=>rtK h (gg g1 (kk 1 (oe Zf.enc vb0.queue ee)))) λg1 h=>bnK h λr0 Zo h=>bnK h λz0 W0 h=>rtK h (gg g1 (rr (Z49 Zo) (kk 1 (ta Zf.enc [r0] z0 (kk 2 (oe Ze r0.data_ (oa 6 Zf.enc_len r0 (ox Zf.enc W0 (oe Zf.enc z0 (oe Zf.enc z0 ee))))))))))
theorem Ysg {x0:Zb} {x1:Zf} {r:Zb×Bool} (h:Zu6 x0 x1=some r):Zu Tryz.prog Mo (Ya9 x0 x1 r):=
 Zs Tryz.func147 (bnK h λr1 Zw h=>bnK h λr2 Z6 h=>have p1 {q p} (k:Scr q p):=(rr (Zd9 Zw) (rr (J7 Z6) k));itK h (λg1 h=>Zj [((1,1),(1,1024)),((1,2),(1,2048)),((1,4),(2,2048)),((1,5),(2,1024))] 7 (p1 (gg g1 (kk 8 (ln Zf.enc r1.queue ee)))) (Zrj h)) λg1 h=>bnK h λr3 Y7 h=>itK h (λg2 h=>Zj [((1,1),(1,1024)),((1,2),(1,2048)),((1,4),(2,2048)),((1,5),(2,1024))] 7 (p1 (gg g1 (kk 1 (rr (Z77 Y7) (kk 2 (gg g2 (kk 4 (ln Zf.enc r1.queue ee)))))))) (Zrj h)) λg2 h=>Zj [((1,1),(1,1024)),((1,2),(1,2048)),((1,4),(2,2048)),((1,5),(2,1024))] 7 (p1 (gg g1 (kk 1 (rr (Z77 Y7) (kk 2 (gg g2 (kk 2 (lr Zf.enc x0.queue (kk 2 (ln Zf.enc r1.queue ee)))))))))) (Zrj h))
abbrev Z3y (x0:Zc) (x1:Zd) (r:Zc):Y:=(148,[.agg (Zc.enc x0),.agg (Zd.enc x1)],.agg (Zc.enc r),[.undef,.undef])
theorem Zwc {x0:Zc} {x1:Zd} {r:Zc} {v0:Bool} (h:Zfu x0 x1 v0=some r):CS (Z3y x0 x1 r) Tryz.f148 [1,0,1] [(2,.ptr (1,1) 0 0),(3,.ptr (1,2) 0 0),(4,.ptr (1,3) 0 0),(13,bl v0)] [bx 1 (Zc.enc x0),bx 2 (Zd.enc x1),bx 3 (Zc.enc Zc.z0)]:=
 itK h (λg1 h=>rtK h (gg g1 ee)) λg1 h=>itK h (λg2 h=>rtK h (gg g1 (gg g2 ee))) λg2 h=>rtK h (gg g1 (gg g2 ee))
theorem Yi6 {x0:Zc} {x1:Zd} {r:Zc} (h:Zok x0 x1=some r):Zu Tryz.prog Mo (Z3y x0 x1 r):=
 Zs Tryz.func148 (itK h (λg1 h=>Zj [((1,1),(1,0)),((1,2),(1,1024)),((1,3),(1,2048))] 5 (gg g1 (kk 4 ee)) (Zwc h)) λg1 h=>bnK h λr0 Zo h=>Zj [((1,1),(1,0)),((1,2),(1,1024)),((1,3),(1,2048))] 5 (gg g1 (kk 2 (rr (Zne Zo) (kk 2 ee)))) (Zwc h))
abbrev Yb4 (x0:Zb) (r:Zb×Bool):Y:=(200,[.agg (Zb.enc x0)],.tup [.agg [.own 104 (r.1.queue.map Zf.enc),il r.1.beat,il r.1.done,il r.1.tries,bl r.1.parted,bl r.1.broken],bl r.2],[.undef])
theorem Z1t {x0:Zb} {r:Zb×Bool} {vb0:Zb} {v0:Bool} (h:Zkr x0 vb0 v0=some r):CS (Yb4 x0 r) Tryz.f200 [1,1,0,1] [(2,.ptr (1,1) 0 0),(4,.ptr (1,3) 0 0),(16,bl v0)] [rx 2 104 ([].map Zf.enc),bx 1 [.sl (1,2) 0 ([].map Zf.enc).length,il 0,il 0,il 0,bl false,bl false],rx 4 104 (vb0.queue.map Zf.enc),bx 3 [.sl (1,4) 0 (vb0.queue.map Zf.enc).length,il vb0.beat,il vb0.done,il vb0.tries,bl vb0.parted,bl vb0.broken]]:=
 itK h (λg1 h=>rtK h (gg g1 (kk 1 (oe Zf.enc vb0.queue ee)))) λg1 h=>rtK h (gg g1 (kk 1 (oe Zf.enc vb0.queue ee)))
theorem Ys0 {x0:Zb} {r:Zb×Bool} (h:Zu1 x0=some r):Zu Tryz.prog Mo (Yb4 x0 r):=
 Zs Tryz.func200 (bnK h λr0 Zo h=>bnK h λr1 Zw h=>itK h (λg1 h=>Zj [((1,1),(1,1024)),((1,3),(2,2048)),((1,4),(2,1024))] 7 (rr (Zd9 Zo) (rr (J7 Zw) (gg g1 (kk 5 (ln Zf.enc r0.queue ee))))) (Z1t h)) λg1 h=>Zj [((1,1),(1,1024)),((1,3),(2,2048)),((1,4),(2,1024))] 7 (rr (Zd9 Zo) (rr (J7 Zw) (gg g1 (kk 5 (ln Zf.enc r0.queue ee))))) (Z1t h))
abbrev Z39 (x0:Zc) (x1:Zd) (r:Zc):Y:=(201,[.agg (Zc.enc x0),.agg (Zd.enc x1)],.agg (Zc.enc r),[.undef,.undef])
theorem Zvy {x0:Zc} {x1:Zd} {r:Zc} {v0:Bool} (h:Zgg x0 x1 v0=some r):CS (Z39 x0 x1 r) Tryz.f201 [1,0,1] [(2,.ptr (1,1) 0 0),(3,.ptr (1,2) 0 0),(4,.ptr (1,3) 0 0),(11,bl v0)] [bx 1 (Zc.enc x0),bx 2 (Zd.enc x1),bx 3 (Zc.enc Zc.z0)]:=
 itK h (λg1 h=>rtK h (gg g1 ee)) λg1 h=>rtK h (gg g1 ee)
theorem Yja {x0:Zc} {x1:Zd} {r:Zc} (h:Zn1 x0 x1=some r):Zu Tryz.prog Mo (Z39 x0 x1 r):=
 Zs Tryz.func201 (itK h (λg1 h=>bnK h λr0 Zo h=>Zj [((1,1),(1,0)),((1,2),(1,1024)),((1,3),(1,2048))] 5 (gg g1 (kk 2 (rr (Zne Zo) (kk 1 ee)))) (Zvy h)) λg1 h=>Zj [((1,1),(1,0)),((1,2),(1,1024)),((1,3),(1,2048))] 5 (gg g1 (kk 3 ee)) (Zvy h))
abbrev Ybq (x0:Z2) (x1:Zk) (x2:Int) (r:Z2):Y:=(202,[.agg (Z2.enc x0),.agg (Zk.enc x1),il x2],.agg (Z2.enc r),[.undef,.undef,.undef])
theorem Z14 {x0:Z2} {x1:Zk} {x2:Int} {r:Z2} {v0:Bool} (h:Zkq x0 x1 x2 v0=some r):CS (Ybq x0 x1 x2 r) Tryz.f202 [1,0,1] [(2,il x2),(3,.ptr (1,1) 0 0),(4,.ptr (1,2) 0 0),(6,.ptr (1,3) 0 0),(15,bl v0)] [bx 1 (Z2.enc x0),bx 2 (Zk.enc x1),bx 3 (Z2.enc Z2.z0)]:=
 itK h (λg1 h=>bnK h λr0 Zo h=>rtK h (gg g1 (rr (Z47 Zo) ee))) λg1 h=>rtK h (gg g1 ee)
theorem Yta {x0:Z2} {x1:Zk} {x2:Int} {r:Z2} (h:Zvc x0 x1 x2=some r):Zu Tryz.prog Mo (Ybq x0 x1 x2 r):=
 Zs Tryz.func202 (bnK h λr1 Zw h=>itK h (λg1 h=>Zj [((1,1),(1,0)),((1,2),(1,1024)),((1,3),(1,2048))] 5 (rr (Zwo Zw) (gg g1 (kk 4 ee))) (Z14 h)) λg1 h=>Zj [((1,1),(1,0)),((1,2),(1,1024)),((1,3),(1,2048))] 5 (rr (Zwo Zw) (gg g1 (kk 4 ee))) (Z14 h))
abbrev Yr2 (x0:Za) (x1:Zg) (r:Za):Y:=(149,[.agg (Za.ow x0),.agg (Zg.enc x1)],.agg (Za.ow r),[.undef,.undef])
theorem Z2r {x0:Za} {x1:Zg} {r:Za} (h:Zkd x0 x1=some r):Zu Tryz.prog Mo (Yr2 x0 x1 r):=
 Zs Tryz.func149 (bnK h λa0 Zz h=>bnK h λr0 Zo h=>bnK h λy0 Wa h=>have p1 {q p} (k:Scr q p):=(xd Zb.enc Zz (rr (Ys0 Zo) (xq Zb.enc Zz y0 (kk 1 (oe Zf.enc r0.1.queue (ob (Zt8 Zb.enc Wa) k))))));itK h (λg1 h=>bnK h λa1 Yv h=>bnK h λa2 Ks h=>bnK h λr1 Zw h=>bnK h λy1 hy1 h=>rtK h (p1 (gg g1 (xd Zc.enc Yv (xd Zd.enc Ks (rr (Yja Zw) (xp Zc.enc Yv hy1 (kk 8 (oe Zd.enc x0.conf.masters (ob (Qi Zb.enc Wa) (ob (Qi Zc.enc hy1) (oe Ze x0.splits (Zh.so x0.model (oe Zm.enc x0.log ee)))))))))))))) λg1 h=>itK h (λg2 h=>bnK h λr2 Z6 h=>rtK h (p1 (gg g1 (gg g2 (kk 1 (oe Zd.enc x0.conf.masters (rr (Yta Z6) (kk 8 (oe Zd.enc x0.conf.masters (ob (Qi Zb.enc Wa) (oe Zc.enc x0.buckets (oe Ze x0.splits (Zh.so x0.model (oe Zm.enc x0.log ee)))))))))))))) λg2 h=>rtK h (p1 (gg g1 (gg g2 (kk 8 (oe Zd.enc x0.conf.masters (ob (Qi Zb.enc Wa) (oe Zc.enc x0.buckets (oe Ze x0.splits (Zh.so x0.model (oe Zm.enc x0.log ee)))))))))))
abbrev Yoi (x0:List Int) (x1:Int) (r:Int):Y:=(244,[.tr (x0.map Ze),il x1],il r,[.undef,.undef])
theorem Z7w {x0:List Int} {x1:Int} {r:Int} {v0:Bool} (h:Zy0 x0 x1 v0=some r):CS (Yoi x0 x1 r) Tryz.f244 [1,0,1] [(0,.tr (x0.map Ze)),(1,il x1),(11,bl v0)] []:=
 itK h (λg1 h=>rtK h (gg g1 ee)) λg1 h=>bnK h λn0 hn0 h=>bnK h λa0 Zz h=>rtK h (gg g1 (lr Ze x0 (tp (.obl) (ob (nz0 hn0) (xb Ze Zz ee)))))
theorem Zza {x0:List Int} {x1:Int} {r:Int} (h:Zyo x0 x1=some r):Zu Tryz.prog Mo (Yoi x0 x1 r):=
 Zs Tryz.func244 (itK h (λg1 h=>Zj [] 5 (lr Ze x0 (gg g1 (kk 2 ee))) (Z7w h)) λg1 h=>Zj [] 5 (lr Ze x0 (gg g1 (kk 2 ee))) (Z7w h))
abbrev Ytz (x0:Zk) (x1:Zi) (x2:Int) (r:Int):Y:=(203,[.agg (Zk.enc x0),.agg (Zi.enc x1),il x2],il r,[.undef,.undef,.undef])
theorem Yrr {x0:Zk} {x1:Zi} {x2:Int} {r:Int} (h:Zuw x0 x1 x2=some r):Zu Tryz.prog Mo (Ytz x0 x1 x2 r):=
 Zs Tryz.func203 (bnK h λr0 Zo h=>rtK h (rr (Zza Zo) ee))
abbrev Yon (x0:Zf) (x1:Int) (r:Int):Y:=(205,[.agg (Zf.enc x0),il x1],il r,[.undef,.undef])
theorem Z7u {x0:Zf} {x1:Int} {r:Int} (h:Zl8 x0 x1=some r):Zu Tryz.prog Mo (Yon x0 x1 r):=
 Zs Tryz.func205 (itK h (λg1 h=>rtK h (gg g1 ee)) λg1 h=>bnK h λa0 Zz h=>rtK h (gg g1 (xb Ze Zz ee)))
abbrev Ybb (x0:Int) (r:Int):Y:=(211,[il x0],il r,[.undef])
theorem Z1i {x0:Int} {r:Int} {v0:Bool} (h:Zrw x0 v0=some r):CS (Ybb x0 r) Tryz.f211 [1,0,0,1] [(0,il x0),(3,bl v0)] []:=
 itK h (λg1 h=>rtK h (gg g1 ee)) λg1 h=>itK h (λg2 h=>rtK h (gg g1 (gg g2 ee))) λg2 h=>itK h (λg3 h=>rtK h (gg g1 (gg g2 (gg g3 ee)))) λg3 h=>rtK h (gg g1 (gg g2 (gg g3 ee)))
theorem Z3d {x0:Int} {r:Int} (h:Zvs x0=some r):Zu Tryz.prog Mo (Ybb x0 r):=
 Zs Tryz.func211 (itK h (λg1 h=>Zj [] 6 (gg g1 (kk 2 ee)) (Z1i h)) λg1 h=>Zj [] 6 (gg g1 (kk 2 ee)) (Z1i h))
abbrev Yv4 (x0:List Int) (x1:Int) (x2:Int) (r:Bool):Y:=(263,[.tr (x0.map Ze),il x1,il x2],bl r,[.undef,.undef,.undef])
theorem Z5n {x0:List Int} {x1:Int} {x2:Int} {r:Bool} (h:Zs4 x0 x1 x2=some r):Zu Tryz.prog Mo (Yv4 x0 x1 x2 r):=
 Zs Tryz.func263 (bnK h λr0 Zo h=>itK h (λg1 h=>bnK h λr1 Zw h=>have p1 {q p} (k:Scr q p):=(rr (Zvi Zo) (gg g1 (kk 2 (rr (Zo0 Zw) (kk 1 k)))));itK h (λg2 h=>bnK h λr2 Z6 h=>rtK h (p1 (gg g2 (kk 2 (lr Ze x0 (kk 2 (rr (Jk Z6) (kk 3 ee)))))))) λg2 h=>rtK h (p1 (gg g2 (kk 7 ee)))) λg1 h=>rtK h (rr (Zvi Zo) (gg g1 (kk 11 ee))))
abbrev Z4u (x0:List Int) (x1:Int) (x2:Int) (x3:Int) (r:List Int×Bool):Y:=(245,[.tr (x0.map Ze),il x1,il x2,il x3],.tup [.own 3 (r.1.map Ze),bl r.2],[.undef,.undef,.undef,.undef])
theorem Yjr {x0:List Int} {x1:Int} {x2:Int} {x3:Int} {r:List Int×Bool}:∀{m:Nat} {v0:Int} {v1:List Int} {v2:Int},Zn9 x0 x1 x2 x3 m v0 v1 v2=some r->CS (Z4u x0 x1 x2 x3 r) Tryz.f245 [1,1,1,0,1,0] [(1,il x1),(2,il x2),(3,il v0),(10,.sl (1,1) 0 (v1.map Ze).length),(11,il v2)] [rx 1 3 (v1.map Ze)]:=by
 intro m
 induction m with
 | zero=>intro v0 v1 v2 h;cases h
 | succ m ih=>exactλ{v0} {v1} {v2} h=>bnK h λr0 Zo h=>itK h (λg1 h=>bnK h λa0 Zz h=>bnK h λy0 Wa h=>Zj [((1,1),(1,1))] 13 (rr (Jk Zo) (gg g1 (kk 1 (xp Ze Zz Wa (kk 1 (tp (.num (y0.map Ze).length 0 0 []) (ob (Qi Ze Wa) ee))))))) (ih h)) λg1 h=>rtK h (rr (Jk Zo) (gg g1 (kk 1 (oe Ze v1 ee))))
theorem Z38 {x0:List Int} {x1:Int} {x2:Int} {x3:Int} {r:List Int×Bool} {v1:List Int} {v3:Bool} (h:Zoa x0 x1 x2 x3 v1 v3=some r):CS (Z4u x0 x1 x2 x3 r) Tryz.f245 [1,1,0,1] [(1,il x1),(2,il x2),(3,il x3),(10,.sl (1,1) 0 (v1.map Ze).length),(27,bl v3)] [rx 1 3 (v1.map Ze)]:=
 itK h (λg1 h=>rtK h (gg g1 (kk 1 (oe Ze v1 ee)))) λg1 h=>Zj [((1,1),(1,1))] 6 (gg g1 (ln Ze v1 ee)) (Yjr h)
theorem Yv8 {x0:List Int} {x1:Int} {x2:Int} {x3:Int} {r:List Int×Bool} (h:Zx5 x0 x1 x2 x3=some r):Zu Tryz.prog Mo (Z4u x0 x1 x2 x3 r):=
 Zs Tryz.func245 (bnK h λz0 W0 h=>bnK h λr1 Zw h=>have p1 {q p} (k:Scr q p):=(ta Ze x0 z0 (ol 1 Zcb Zqc x0 (ob (apl Ze W0) (ob (apm Ze W0) (oe Ze z0 (rr (Z5n Zw) k))))));itK h (λg1 h=>Zj [((1,1),(2,2048))] 7 (p1 (gg g1 (kk 6 (ln Ze z0 ee)))) (Z38 h)) λg1 h=>bnK h λr2 Z6 h=>bnK h λr3 Y7 h=>Zj [((1,1),(2,2048))] 7 (p1 (gg g1 (kk 2 (rr (Zcw Z6) (kk 2 (rr (Z4 Y7) (kk 2 (ln Ze z0 ee)))))))) (Z38 h))
abbrev Zq1 (x0:Zn) (x1:Bool) (x2:Int) (x3:Int) (r:Zn×Int×Bool):Y:=(247,[.agg (Zn.enc x0),bl x1,il x2,il x3],.tup [.agg (Zn.ow r.1),il r.2.1,bl r.2.2],[.undef,.undef,.undef,.undef])
theorem Zw0 {x0:Zn} {x1:Bool} {x2:Int} {x3:Int} {r:Zn×Int×Bool} {vb0:Zn} {v0:Bool} (h:Zjx x0 x1 x2 x3 vb0 v0=some r):CS (Zq1 x0 x1 x2 x3 r) Tryz.f247 [1,1,1,0,0,1,1,1,1,1,1,1,1,1,1,1] [(8,.ptr (1,1) 0 0),(11,.ptr (1,4) 0 0),(101,bl v0)] (Zn.bk Zn.z0 2++[bx 1 (Zn.rl Zn.z0 2)]++Zn.bk vb0 5++[bx 4 (Zn.rl vb0 5)]):=
 itK h (λg1 h=>bnK h λa0 Zz h=>bnK h λs0 hs0 h=>rtK h (gg g1 (xd Ze Zz (tp (.num (1:Int).toNat ((vb0.fifo.length:Int):Int).toNat (((vb0.fifo.length:Int):Int).toNat - (1:Int).toNat) []) (kk 2 (tp (.mk 0 (s0.map Ze)) (oe Ze vb0.fifo (ob (sln hs0).1 (ob (Yjs Ze vb0.fifo) (ob (sll Ze hs0) (ob (alr 1 Zcb vb0.fifo) (ob (Eq.refl (((vb0.fifo.length:Int):Int).toNat - (1:Int).toNat)) (oe Ze vb0.regs (ob (sla Ze hs0) (ob (slr Ze hs0) ee))))))))))))))) λg1 h=>rtK h (gg g1 (kk 2 (Zn.so vb0 ee)))
theorem Zw2 {x0:Zn} {x1:Bool} {x2:Int} {x3:Int} {r:Zn×Int×Bool} {vb0:Zn} {v1:Bool} (h:Zj2 x0 x1 x2 x3 vb0 v1=some r):CS (Zq1 x0 x1 x2 x3 r) Tryz.f247 [1,1,1,0,0,1,1,1,1,1,1,1,1,1] [(1,bl x1),(2,il x2),(3,il x3),(8,.ptr (1,1) 0 0),(11,.ptr (1,4) 0 0),(81,bl v1)] (Zn.bk Zn.z0 2++[bx 1 (Zn.rl Zn.z0 2)]++Zn.bk vb0 5++[bx 4 (Zn.rl vb0 5)]):=
 itK h (λg1 h=>bnK h λz0 W0 h=>rtK h (gg g1 (ta Ze [x3] z0 (kk 3 (oa 1 Zcb x3 (ox Ze W0 (oe Ze z0 (oe Ze vb0.regs (oe Ze z0 ee))))))))) λg1 h=>itK h (λg2 h=>itK h (λg3 h=>Zj (ffi 1 6) 3 (gg g1 (gg g2 (kk 2 (gg g3 (kk 2 (lr Ze vb0.fifo (kk 2 (Zn.sc Zn.z0 (Zn.sc vb0 ee))))))))) (Zw0 h)) λg3 h=>Zj (ffi 1 6) 3 (gg g1 (gg g2 (kk 2 (gg g3 (kk 4 (Zn.sc Zn.z0 (Zn.sc vb0 ee))))))) (Zw0 h)) λg2 h=>Zj (ffi 1 6) 3 (gg g1 (gg g2 (kk 7 (Zn.sc Zn.z0 (Zn.sc vb0 ee))))) (Zw0 h)
theorem Z6y {x0:Zn} {x1:Bool} {x2:Int} {x3:Int} {r:Zn×Int×Bool} {vb0:Zn} {v2:Bool} (h:Zpx x0 x1 x2 x3 vb0 v2=some r):CS (Zq1 x0 x1 x2 x3 r) Tryz.f247 [1,1,1,0,0,1,1,1,1,1] [(1,bl x1),(2,il x2),(3,il x3),(8,.ptr (1,1) 0 0),(11,.ptr (1,4) 0 0),(59,bl v2)] (Zn.bk Zn.z0 2++[bx 1 (Zn.rl Zn.z0 2)]++Zn.bk vb0 5++[bx 4 (Zn.rl vb0 5)]):=
 itK h (λg1 h=>rtK h (gg g1 (kk 2 (Zn.so vb0 ee)))) λg1 h=>itK h (λg2 h=>bnK h λr0 Zo h=>bnK h λn0 hn0 h=>rtK h (gg g1 (gg g2 (rr (Zcw Zo) (tp (.obl) (kk 2 (ob (nz0 hn0) (Zn.so vb0 ee)))))))) λg2 h=>itK h (λg3 h=>itK h (λg4 h=>Zj (ffi 1 6) 6 (gg g1 (gg g2 (gg g3 (kk 1 (gg g4 (kk 2 (lr Ze vb0.fifo (kk 2 (Zn.sc Zn.z0 (Zn.sc vb0 ee)))))))))) (Zw2 h)) λg4 h=>Zj (ffi 1 6) 6 (gg g1 (gg g2 (gg g3 (kk 1 (gg g4 (kk 4 (Zn.sc Zn.z0 (Zn.sc vb0 ee)))))))) (Zw2 h)) λg3 h=>Zj (ffi 1 6) 6 (gg g1 (gg g2 (gg g3 (kk 6 (Zn.sc Zn.z0 (Zn.sc vb0 ee)))))) (Zw2 h)
theorem Z6x {x0:Zn} {x1:Bool} {x2:Int} {x3:Int} {r:Zn×Int×Bool} {vb0:Zn} {v3:Bool} (h:Zp0 x0 x1 x2 x3 vb0 v3=some r):CS (Zq1 x0 x1 x2 x3 r) Tryz.f247 [1,1,1,0,0,1] [(1,bl x1),(2,il x2),(3,il x3),(8,.ptr (1,1) 0 0),(11,.ptr (1,4) 0 0),(35,bl v3)] (Zn.bk Zn.z0 2++[bx 1 (Zn.rl Zn.z0 2)]++Zn.bk vb0 5++[bx 4 (Zn.rl vb0 5)]):=
 itK h (λg1 h=>bnK h λa1 Yv h=>bnK h λy0 Wa h=>rtK h (gg g1 (kk 1 (xp Ze Yv Wa (kk 2 (ob (Qi Ze Wa) (oe Ze vb0.fifo ee))))))) λg1 h=>bnK h λr1 Zw h=>itK h (λg2 h=>bnK h λa2 Ks h=>rtK h (gg g1 (rr (Z4 Zw) (gg g2 (kk 1 (xd Ze Ks (kk 2 (Zn.so vb0 ee)))))))) λg2 h=>itK h (λg3 h=>Zj (ffi 1 6) 6 (gg g1 (rr (Z4 Zw) (gg g2 (gg g3 (kk 1 (Zn.sc Zn.z0 (Zn.sc vb0 ee))))))) (Z6y h)) λg3 h=>Zj (ffi 1 6) 6 (gg g1 (rr (Z4 Zw) (gg g2 (gg g3 (kk 1 (Zn.sc Zn.z0 (Zn.sc vb0 ee))))))) (Z6y h)
theorem Zp6 {x0:Zn} {x1:Bool} {x2:Int} {x3:Int} {r:Zn×Int×Bool} {vb0:Zn} {v4:Bool} (h:Zac x0 x1 x2 x3 vb0 v4=some r):CS (Zq1 x0 x1 x2 x3 r) Tryz.f247 [1,1,0,1] [(1,bl x1),(2,il x2),(3,il x3),(8,.ptr (1,1) 0 0),(11,.ptr (1,4) 0 0),(33,bl v4)] (Zn.bk Zn.z0 2++[bx 1 (Zn.rl Zn.z0 2)]++Zn.bk vb0 5++[bx 4 (Zn.rl vb0 5)]):=
 itK h (λg1 h=>rtK h (gg g1 (kk 2 (Zn.so vb0 ee)))) λg1 h=>bnK h λr2 Z6 h=>itK h (λg2 h=>Zj (ffi 1 6) 6 (gg g1 (rr (Z4 Z6) (gg g2 (kk 1 (Zn.sc Zn.z0 (Zn.sc vb0 ee)))))) (Z6x h)) λg2 h=>Zj (ffi 1 6) 6 (gg g1 (rr (Z4 Z6) (gg g2 (kk 1 (Zn.sc Zn.z0 (Zn.sc vb0 ee)))))) (Z6x h)
theorem Ykm {x0:Zn} {x1:Bool} {x2:Int} {x3:Int} {r:Zn×Int×Bool} (h:Z1f x0 x1 x2 x3=some r):Zu Tryz.prog Mo (Zq1 x0 x1 x2 x3 r):=
 Zs Tryz.func247 (bnK h λr3 Y7 h=>bnK h λr4 Q5 h=>have p1 {q p} (k:Scr q p):=(rr (Ygw Y7) (rr (Ykw Q5) k));itK h (λg1 h=>Zj ([((1,1),(1,1024)),((1,4),(2,2048))]++Zn.ff 5 2 1024) 7 (p1 (gg g1 (kk 7 (Zn.sc r3 ee)))) (Zp6 h)) λg1 h=>itK h (λg2 h=>Zj ([((1,1),(1,1024)),((1,4),(2,2048))]++Zn.ff 5 2 1024) 7 (p1 (gg g1 (kk 4 (gg g2 (kk 3 (Zn.sc r3 ee)))))) (Zp6 h)) λg2 h=>itK h (λg3 h=>bnK h λr5 hr5 h=>bnK h λr6 hr6 h=>Zj ([((1,1),(1,1024)),((1,4),(2,2048))]++Zn.ff 5 2 1024) 7 (p1 (gg g1 (kk 4 (gg g2 (kk 1 (gg g3 (kk 1 (rr (Zcw hr5) (kk 2 (rr (Z4 hr6) (kk 4 (Zn.sc r3 ee)))))))))))) (Zp6 h)) λg3 h=>Zj ([((1,1),(1,1024)),((1,4),(2,2048))]++Zn.ff 5 2 1024) 7 (p1 (gg g1 (kk 4 (gg g2 (kk 1 (gg g3 (kk 7 (Zn.sc r3 ee)))))))) (Zp6 h))
abbrev Yfn (x0:List Int) (x1:Int) (x2:Int) (r:Int×Bool):Y:=(246,[.tr (x0.map Ze),il x1,il x2],.tup [il r.1,bl r.2],[.undef,.undef,.undef])
theorem Yiz {x0:List Int} {x1:Int} {x2:Int} {r:Int×Bool}:∀{m:Nat} {v0:Int} {v1:Int},Zoj x0 x1 x2 m v0 v1=some r->CS (Yfn x0 x1 x2 r) Tryz.f246 [1,1,1,0,1,0] [(0,.tr (x0.map Ze)),(1,il x1),(8,il v0),(9,il v1)] []:=by
 intro m
 induction m with
 | zero=>intro v0 v1 h;cases h
 | succ m ih=>exactλ{v0} {v1} h=>itK h (λg1 h=>bnK h λa0 Zz h=>Zj [] 11 (gg g1 (xb Ze Zz ee)) (ih h)) λg1 h=>rtK h (gg g1 ee)
theorem Yxa {x0:List Int} {x1:Int} {x2:Int} {r:Int×Bool} (h:Zx0 x0 x1 x2=some r):Zu Tryz.prog Mo (Yfn x0 x1 x2 r):=
 Zs Tryz.func246 (bnK h λr0 Zo h=>itK h (λg1 h=>rtK h (rr (Z5n Zo) (gg g1 ee))) λg1 h=>bnK h λr1 Zw h=>Zj [] 13 (rr (Z5n Zo) (gg g1 (rr (Jk Zw) ee))) (Yiz h))
abbrev Zvk (x0:Zh) (x1:Bool) (x2:Int) (x3:Int) (x4:Int) (r:Zh×Int×Int):Y:=(204,[.agg (Zh.enc x0),bl x1,il x2,il x3,il x4],.tup [.agg (Zh.ow r.1),il r.2.1,il r.2.2],[.undef,.undef,.undef,.undef,.undef])
theorem Z1w {x0:Zh} {x1:Bool} {x2:Int} {x3:Int} {x4:Int} {r:Zh×Int×Int} {vb0:Zh} {vb1:Zn} {v0:Int} {v1:Bool} (h:Zlt x0 x1 x2 x3 x4 vb0 vb1 v0 v1=some r):CS (Zvk x0 x1 x2 x3 x4 r) Tryz.f204 [1,1,1,0,1,0,1,1,1,0,1,1] [(10,.ptr (1,1) 0 0),(13,.ptr (1,5) 0 0),(16,.ptr (1,9) 0 0),(17,il v0),(87,bl v1)] (Zh.bk Zh.z0 2++[bx 1 (Zh.rl Zh.z0 2)]++Zh.bk vb0 6++[bx 5 (Zh.rl vb0 6)]++Zn.bk vb1 10++[bx 9 (Zn.rl vb1 10)]):=
 itK h (λg1 h=>rtK h (gg g1 (kk 3 (oe Ze vb0.mem (Zn.so vb1 ee))))) λg1 h=>rtK h (gg g1 (kk 3 (Zh.so vb0 ee)))
theorem Z18 {x0:Zh} {x1:Bool} {x2:Int} {x3:Int} {x4:Int} {r:Zh×Int×Int} {vb2:Zh} {v2:Int} {v3:Bool} (h:Zla x0 x1 x2 x3 x4 vb2 v2 v3=some r):CS (Zvk x0 x1 x2 x3 x4 r) Tryz.f204 [1,1,1,0,1,0,1] [(1,bl x1),(2,il x2),(3,il x3),(4,il x4),(5,.ptr (1,1) 0 0),(10,.ptr (1,2) 0 0),(13,.ptr (1,6) 0 0),(43,il v2),(44,bl v3)] ([bx 1 (Zh.enc x0)]++Zh.bk Zh.z0 3++[bx 2 (Zh.rl Zh.z0 3)]++Zh.bk vb2 7++[bx 6 (Zh.rl vb2 7)]):=
 itK h (λg1 h=>itK h (λg2 h=>bnK h λr0 Zo h=>rtK h (gg g1 (gg g2 (rr (Yv8 Zo) (kk 3 (oe Ze r0.1 (Zn.so vb2.dev ee))))))) λg2 h=>bnK h λr1 Zw h=>rtK h (gg g1 (gg g2 (rr (Yxa Zw) (kk 3 (Zh.so vb2 ee)))))) λg1 h=>itK h (λg2 h=>bnK h λr2 Z6 h=>itK h (λg3 h=>Zj ([((1,1),(1,2)),((1,2),(1,3)),((1,3),(1,4)),((1,4),(1,5)),((1,5),(1,6)),((1,6),(1,7)),((1,7),(1,8)),((1,8),(1,9)),((1,9),(3,11264))]++Zn.ff 10 3 6144) 8 (gg g1 (gg g2 (rr (Ykm Z6) (gg g3 (kk 1 (Zh.sc Zh.z0 (Zh.sc vb2 (Zn.sc r2.1 ee)))))))) (Z1w h)) λg3 h=>Zj ([((1,1),(1,2)),((1,2),(1,3)),((1,3),(1,4)),((1,4),(1,5)),((1,5),(1,6)),((1,6),(1,7)),((1,7),(1,8)),((1,8),(1,9)),((1,9),(3,11264))]++Zn.ff 10 3 6144) 8 (gg g1 (gg g2 (rr (Ykm Z6) (gg g3 (kk 1 (Zh.sc Zh.z0 (Zh.sc vb2 (Zn.sc r2.1 ee)))))))) (Z1w h)) λg2 h=>rtK h (gg g1 (gg g2 (kk 3 (Zh.so vb2 ee))))
theorem Zlx {x0:Zh} {x1:Bool} {x2:Int} {x3:Int} {x4:Int} {r:Zh×Int×Int} {vb2:Zh} {v4:Bool} (h:Kx x0 x1 x2 x3 x4 vb2 v4=some r):CS (Zvk x0 x1 x2 x3 x4 r) Tryz.f204 [1,1,0,1] [(1,bl x1),(2,il x2),(3,il x3),(4,il x4),(5,.ptr (1,1) 0 0),(10,.ptr (1,2) 0 0),(13,.ptr (1,6) 0 0),(40,bl v4)] ([bx 1 (Zh.enc x0)]++Zh.bk Zh.z0 3++[bx 2 (Zh.rl Zh.z0 3)]++Zh.bk vb2 7++[bx 6 (Zh.rl vb2 7)]):=
 itK h (λg1 h=>rtK h (gg g1 (kk 3 (Zh.so vb2 ee)))) λg1 h=>bnK h λr3 Y7 h=>itK h (λg2 h=>Zj (ffi 1 9) 11 (gg g1 (rr (Z3d Y7) (gg g2 (Zh.sc Zh.z0 (Zh.sc vb2 ee))))) (Z18 h)) λg2 h=>Zj (ffi 1 9) 11 (gg g1 (rr (Z3d Y7) (gg g2 (Zh.sc Zh.z0 (Zh.sc vb2 ee))))) (Z18 h)
theorem Ybv {x0:Zh} {x1:Bool} {x2:Int} {x3:Int} {x4:Int} {r:Zh×Int×Int} (h:Zo3 x0 x1 x2 x3 x4=some r):Zu Tryz.prog Mo (Zvk x0 x1 x2 x3 x4 r):=
 Zs Tryz.func204 (bnK h λr4 Q5 h=>bnK h λr5 hr5 h=>have p1 {q p} (k:Scr q p):=(rr (Yff Q5) (rr (Ybi hr5) k));itK h (λg1 h=>Zj ([((1,1),(1,0)),((1,2),(1,1024)),((1,6),(2,2048))]++Zh.ff 7 2 1024) 7 (p1 (gg g1 (kk 8 (Zh.sc r4 ee)))) (Zlx h)) λg1 h=>bnK h λr6 hr6 h=>have p2 {q p} (k:Scr q p):=(p1 (gg g1 (kk 2 (rr (Zo0 hr6) (kk 2 k)))));itK h (λg2 h=>Zj ([((1,1),(1,0)),((1,2),(1,1024)),((1,6),(2,2048))]++Zh.ff 7 2 1024) 7 (p2 (gg g2 (kk 3 (Zh.sc r4 ee)))) (Zlx h)) λg2 h=>itK h (λg3 h=>bnK h λr7 hr7 h=>bnK h λr8 hr8 h=>Zj ([((1,1),(1,0)),((1,2),(1,1024)),((1,6),(2,2048))]++Zh.ff 7 2 1024) 7 (p2 (gg g2 (kk 1 (gg g3 (kk 2 (rr (Zcw hr7) (kk 2 (rr (Z4 hr8) (kk 4 (Zh.sc r4 ee)))))))))) (Zlx h)) λg3 h=>Zj ([((1,1),(1,0)),((1,2),(1,1024)),((1,6),(2,2048))]++Zh.ff 7 2 1024) 7 (p2 (gg g2 (kk 1 (gg g3 (kk 8 (Zh.sc r4 ee)))))) (Zlx h))
abbrev Ygu (x0:Zb) (r:Zb×Bool):Y:=(206,[.agg (Zb.enc x0)],.tup [.agg [.own 104 (r.1.queue.map Zf.enc),il r.1.beat,il r.1.done,il r.1.tries,bl r.1.parted,bl r.1.broken],bl r.2],[.undef])
theorem Z3p {x0:Zb} {r:Zb×Bool} {vb0:Zb} {v0:Bool} (h:Zng x0 vb0 v0=some r):CS (Ygu x0 r) Tryz.f206 [1,1,0,1] [(1,.ptr (1,1) 0 0),(2,.ptr (1,2) 0 0),(4,.ptr (1,4) 0 0),(16,bl v0)] [bx 1 (Zb.enc x0),rx 3 104 ([].map Zf.enc),bx 2 [.sl (1,3) 0 ([].map Zf.enc).length,il 0,il 0,il 0,bl false,bl false],rx 5 104 (vb0.queue.map Zf.enc),bx 4 [.sl (1,5) 0 (vb0.queue.map Zf.enc).length,il vb0.beat,il vb0.done,il vb0.tries,bl vb0.parted,bl vb0.broken]]:=
 itK h (λg1 h=>rtK h (gg g1 (kk 1 (oe Zf.enc vb0.queue ee)))) λg1 h=>bnK h λr0 Zo h=>itK h (λg2 h=>bnK h λs0 hs0 h=>rtK h (gg g1 (rr (Ze5 Zo) (gg g2 (tp (.num (1:Int).toNat ((vb0.queue.length:Int):Int).toNat (((vb0.queue.length:Int):Int).toNat - (1:Int).toNat) []) (kk 1 (tp (.mk 0 (s0.map Zf.enc)) (oe Zf.enc vb0.queue (ob (sln hs0).1 (ob (Yjs Zf.enc vb0.queue) (ob (sll Zf.enc hs0) (ob (alr 6 Zf.enc_len vb0.queue) (ob (Eq.refl (((vb0.queue.length:Int):Int).toNat - (1:Int).toNat)) (ob (sla Zf.enc hs0) (ob (slr Zf.enc hs0) ee))))))))))))))) λg2 h=>rtK h (gg g1 (rr (Ze5 Zo) (gg g2 (kk 1 (oe Zf.enc vb0.queue ee)))))
theorem Ywx {x0:Zb} {r:Zb×Bool} (h:Zx4 x0=some r):Zu Tryz.prog Mo (Ygu x0 r):=
 Zs Tryz.func206 (bnK h λr1 Zw h=>bnK h λr2 Z6 h=>itK h (λg1 h=>Zj [((1,1),(1,0)),((1,2),(1,1024)),((1,4),(2,2048)),((1,5),(2,1024))] 7 (rr (Zd9 Zw) (rr (J7 Z6) (gg g1 (kk 5 (ln Zf.enc r1.queue ee))))) (Z3p h)) λg1 h=>Zj [((1,1),(1,0)),((1,2),(1,1024)),((1,4),(2,2048)),((1,5),(2,1024))] 7 (rr (Zd9 Zw) (rr (J7 Z6) (gg g1 (kk 5 (ln Zf.enc r1.queue ee))))) (Z3p h))
abbrev Z6r (x0:Za) (x1:Zi) (r:Za):Y:=(150,[.agg (Za.ow x0),.agg (Zi.enc x1)],.agg (Za.ow r),[.undef,.undef])
theorem Zxd {x0:Za} {x1:Zi} {r:Za} {vb0:Za} {vb1:Zb} {vb2:Zm} (h:Zds x0 x1 vb0 vb1 vb2=some r):CS (Z6r x0 x1 r) Tryz.f150 [1,1,1,1,1,1,1,1] [(2,.ptr (1,1) 0 0),(4,.ptr (1,10) 0 0),(5,.ptr (1,19) 0 0),(6,.ptr (1,20) 0 0),(8,.ptr (1,21) 0 0)] (Za.bk vb0 2++[bx 1 (Za.rl vb0 2)]++Za.bk Za.z0 11++[bx 10 (Za.rl Za.z0 11),bx 19 (Zg.enc x0.data_),bx 20 (Zb.enc vb1),bx 21 (Zm.enc vb2)]):=
 bnK h λz0 W0 h=>bnK h λr0 Zo h=>bnK h λa0 Zz h=>bnK h λy0 Wa h=>have p1 {q p} (k:Scr q p):=(ta Zm.enc [vb2] z0 (kk 1 (oa 7 Zm.enc_len vb2 (ox Zm.enc W0 (oe Zm.enc z0 (rr (Ywx Zo) (xq Zb.enc Zz y0 (kk 1 (oe Zf.enc r0.1.queue (ob (Zt8 Zb.enc Wa) k))))))))));itK h (λg1 h=>itK h (λg2 h=>rtK h (p1 (gg g1 (kk 3 (gg g2 (kk 8 (oe Zd.enc vb0.conf.masters (ob (Qi Zb.enc Wa) (oe Zc.enc vb0.buckets (oe Ze vb0.splits (Zh.so vb0.model (oe Zm.enc z0 ee)))))))))))) λg2 h=>rtK h (p1 (gg g1 (kk 3 (gg g2 (kk 8 (oe Zd.enc vb0.conf.masters (ob (Qi Zb.enc Wa) (oe Zc.enc vb0.buckets (oe Ze vb0.splits (Zh.so vb0.model (oe Zm.enc z0 ee)))))))))))) λg1 h=>rtK h (p1 (gg g1 (kk 12 (oe Zd.enc vb0.conf.masters (ob (Qi Zb.enc Wa) (oe Zc.enc vb0.buckets (oe Ze vb0.splits (Zh.so vb0.model (oe Zm.enc z0 ee)))))))))
theorem Yl6 {x0:Za} {x1:Zi} {r:Za} (h:Zp5 x0 x1=some r):Zu Tryz.prog Mo (Z6r x0 x1 r):=
 Zs Tryz.func150 (bnK h λa1 Yv h=>itK h (λg1 h=>bnK h λy1 hy1 h=>bnK h λr1 Zw h=>rtK h (xd Zb.enc Yv (gg g1 (xp Zb.enc Yv hy1 (kk 8 (oe Zd.enc x0.conf.masters (ob (Qi Zb.enc hy1) (oe Zc.enc x0.buckets (oe Ze x0.splits (Zh.so x0.model (oe Zm.enc x0.log (rr (Z2r Zw) (kk 8 (Za.so r1 ee)))))))))))))) λg1 h=>itK h (λg2 h=>bnK h λy2 hy2 h=>bnK h λr2 Z6 h=>bnK h λa2 Ks h=>bnK h λy3 hy3 h=>bnK h λr3 Y7 h=>rtK h (xd Zb.enc Yv (gg g1 (gg g2 (xp Zb.enc Yv hy2 (kk 1 (oe Zd.enc x0.conf.masters (rr (Yrr Z6) (xp Ze Ks hy3 (kk 8 (oe Zd.enc x0.conf.masters (ob (Qi Zb.enc hy2) (oe Zc.enc x0.buckets (ob (Qi Ze hy3) (Zh.so x0.model (oe Zm.enc x0.log (rr (Z2r Y7) (kk 8 (Za.so r3 ee))))))))))))))))))) λg2 h=>bnK h λa3 ha3 h=>bnK h λr4 Q5 h=>have p1 {q p} (k:Scr q p):=(xd Zb.enc Yv (gg g1 (gg g2 (xb Zf.enc ha3 (rr (Zo4 Q5) k)))));itK h (λg3 h=>bnK h λr5 hr5 h=>bnK h λr6 hr6 h=>Zj [((1,1),(1,0)),((1,2),(0,0)),((1,3),(0,7)),((1,4),(0,10)),((1,5),(0,11)),((1,6),(11,12288)),((1,7),(11,12289)),((1,8),(11,12291)),((1,9),(0,36)),((1,10),(1,2048)),((1,19),(2,2048)),((1,20),(4,6144)),((1,21),(9,15360))] 29 (p1 (gg g3 (rr (Z7u hr5) (kk 3 (Zh.so x0.model (rr (Ybv hr6) (Za.sc {x0 with data_:=Zg.z0,model:=r6.1} ee))))))) (Zxd h)) λg3 h=>Zj ([((1,1),(1,0))]++Za.ff 2 0 0++[((1,10),(1,2048)),((1,19),(2,2048)),((1,20),(4,6144)),((1,21),(9,15360))]) 29 (p1 (gg g3 (Za.sc {x0 with data_:=Zg.z0} ee))) (Zxd h))
abbrev Yw3 (x0:Zi) (x1:Int) (r:Int):Y:=(212,[.agg (Zi.enc x0),il x1],il r,[.undef,.undef])
theorem Yw2 {x0:Zi} {x1:Int} {r:Int} (h:Zxr x0 x1=some r):Zu Tryz.prog Mo (Yw3 x0 x1 r):=
 Zs Tryz.func212 (bnK h λr0 Zo h=>itK h (λg1 h=>rtK h (rr (Zza Zo) (gg g1 (kk 3 ee)))) λg1 h=>itK h (λg2 h=>rtK h (rr (Zza Zo) (gg g1 (kk 2 (gg g2 ee))))) λg2 h=>rtK h (rr (Zza Zo) (gg g1 (kk 2 (gg g2 ee)))))
abbrev Yvq (x0:Zk) (x1:Zi) (x2:Int) (r:Int):Y:=(213,[.agg (Zk.enc x0),.agg (Zi.enc x1),il x2],il r,[.undef,.undef,.undef])
theorem Ywy {x0:Zk} {x1:Zi} {x2:Int} {r:Int} (h:Zxv x0 x1 x2=some r):Zu Tryz.prog Mo (Yvq x0 x1 x2 r):=
 Zs Tryz.func213 (bnK h λr0 Zo h=>rtK h (rr (Zza Zo) ee))
abbrev Za9 (x0:Za) (x1:Zi) (r:Za):Y:=(152,[.agg (Za.ow x0),.agg (Zi.enc x1)],.agg (Za.ow r),[.undef,.undef])
end Go.Proofs.YtagdmghmblplbaaGreat.Ev
