/- A part of the proof of FnExactRunOut: see the text YtagdmghmblplbaaGreatLawFnExactRunOut for what is proved and its conditions. Conditions here: those in each line. -/
import Derived.Test.YtagdmghmblplbaaGreatA4
set_option linter.unusedSimpArgs false
set_option linter.unusedVariables false
set_option linter.unusedSectionVars false
namespace Go.Proofs.YtagdmghmblplbaaGreat.Ev
open Go Go.Proofs
variable [Anchor]
def Mo:Ys:=⟨λf=>(List.lookup f [(17,[.iov,.rd]),(18,[.iov,.rd]),(19,[.iov,.rd]),(27,[.iov,.rd]),(28,[.iov,.rd]),(40,[.iov,.rd]),(56,[.iov,.rd]),(57,[.iov,.rd]),(73,[.iov,.rd]),(74,[.iov,.rd]),(75,[.iov,.rd]),(76,[.iov,.rd]),(129,[.iov,.rd]),(173,[.io]),(226,[.io]),(228,[.io]),(233,[.io]),(175,[.io]),(97,[.io]),(172,[.io,.rd,.io]),(149,[.mv]),(150,[.mv]),(152,[.mv]),(151,[.mv]),(251,[.mv,.rd])]).getD [],λ_=>false⟩
abbrev Y:=FuncId×List V×V×List V
abbrev RF (fn:Func) (y:Y):Ex->St->Prop:=Yd7 Tryz.prog Mo y.1 fn y.2.1 y.2.2
theorem Yym {P:Program} (hm:P.follows .mixedOrders=true) (h:P.funcs.toList.all (λfn=>(match fn.body with|some c=>Ki fn.ntmps c|none=>true)&&!(fn.name == "runtime.NumGoroutine"))=true):Yn P:=by
 rw[ZZk] at h;refine⟨hm,λf fn c hf hc=>?_,λf fn hf=>?_⟩
 .have:=h fn (Array.mem_toList_iff.2 (Veg hf))
  rw[hc] at this;simp only[ZZg] at this;exact this.1
 .have:=h fn (Array.mem_toList_iff.2 (Veg hf))
  simp only[ZZg,Vb1] at this;exact this.2
theorem fOk:Yn Tryz.prog:=Yym (by kernel_rfl) (by kernel_rfl)
theorem bnK {α β:Type} {x:Option α} {f:α->Option β} {b:β} {G:Prop} (h:x.bind f=some b) (k:∀a,x=some a->f a=some b->G):G:=by
 obtain⟨a,h1,h2⟩:=Y3u h;exact k a h1 h2
theorem itK {β:Type} {t:Bool} {x y:Option β} {b:β} {G:Prop} (h:(if t=true then x else y)=some b) (k1:t=true->x=some b->G) (k2:t=false->y=some b->G):G:=by
 rcases Y3i h with⟨h1,h2⟩|⟨h1,h2⟩
 .exact k1 h1 h2
 .exact k2 h1 h2
theorem rtQ {α:Type} {F:α->Y} {fn:Func} {a r:α} {p:Prop} {stk:List It} {s:St} (h:some a=some r) (q:List O) (hp:p) (e:Z8z (runK Tryz.prog Mo (F a).1 fn (F a).2.1 100000 stk s q)=some (p,(F a).2.2):=by kernel_rfl):SX Tryz.prog (RF fn (F r)) stk .normal s:=by
 cases h;exact Yvz fOk 100000 q hp e
theorem rtK {α:Type} {F:α->Y} {fn:Func} {a r:α} {p:Prop} {stk:List It} {s:St} {q:List O} (h:some a=some r) (hp:Scr q p) (e:Z8z (runK Tryz.prog Mo (F a).1 fn (F a).2.1 100000 stk s q)=some (p,(F a).2.2):=by kernel_rfl):SX Tryz.prog (RF fn (F r)) stk .normal s:=by
 cases h;exact Yvz fOk 100000 q hp e
theorem cutQ {y:Y} {fn:Func} {stk k2:List It} {s:St} {p:Prop} {l:List (Nat×V)} {h:List (Id×Blk)} {ep:Nat} (f:List (Id×Id)) (n:Nat) (q:List O) (hp:p) (hn:SX Tryz.prog (RF fn y) k2 .normal (mkS l h ep))
  (e:Z8z (cutK Tryz.prog Mo f l h n stk s q)=some (p,(k2,Yd8 f l h)):=by kernel_rfl) (hb:(isC k2&&cutB f l h ep)=true:=by kernel_rfl):SX Tryz.prog (RF fn y) stk .normal s:=Ywi (M:=Mo) fOk f n q hp hn e hb
theorem Zj {y:Y} {fn:Func} {stk k2:List It} {s:St} {p:Prop} {l:List (Nat×V)} {h:List (Id×Blk)} {ep:Nat} {q:List O} (f:List (Id×Id)) (n:Nat) (hp:Scr q p) (hn:SX Tryz.prog (RF fn y) k2 .normal (mkS l h ep))
  (e:Z8z (cutK Tryz.prog Mo f l h n stk s q)=some (p,(k2,Yd8 f l h)):=by kernel_rfl) (hb:(isC k2&&cutB f l h ep)=true:=by kernel_rfl):SX Tryz.prog (RF fn y) stk .normal s:=Ywi (M:=Mo) fOk f n q hp hn e hb
theorem Zr {α:Type} {F:α->Y} {fn:Func} {r:α} (hfn:Tryz.prog.funcs[(F r).1]?=some fn) (h:SX Tryz.prog (RF fn (F r)) [.c (Xl fn)] .normal (entS Mo (F r).1 (F r).2.1)) (hc:fn.body=some (Xl fn):=by kernel_rfl) (hs:(St.enters ⟨λ_=>.undef,λ_=>none,0⟩ 0 (Mo.modes (F r).1) (F r).2.1).isSome=true:=by kernel_rfl):
  Zu Tryz.prog Mo (F r):=Y4w fOk hfn hc hs h
abbrev CS (y:Y) (fn:Func) (p:List Nat) (l:List (Nat×V)) (h:List (Id×Blk)):Prop:=SX Tryz.prog (RF fn y) (at_ p (Xl fn) []) .normal (mkS l h 1)
abbrev Yrb (x0:List Zd) (x1:Int) (r:Int):Y:=(42,[.tr (x0.map Zd.enc),il x1],il r,[.undef,.undef])
theorem Z99 {x0:List Zd} {x1:Int} {r:Int} (h:Z8l x0 x1=some r):Zu Tryz.prog Mo (Yrb x0 x1 r):=
 Zr Tryz.func42 (itK h (λg1 h=>rtK h (lr Zd.enc x0 (gg g1 ee))) λg1 h=>rtK h (lr Zd.enc x0 (gg g1 ee)))
abbrev Yxj (x0:Zk) (x1:Int) (r:Int):Y:=(8,[.agg (Zk.enc x0),il x1],il r,[.undef,.undef])
theorem Yyx {x0:Zk} {x1:Int} {r:Int} (h:Z5c x0 x1=some r):Zu Tryz.prog Mo (Yxj x0 x1 r):=
 Zr Tryz.func8 (bnK h λr0 Zn h=>itK h (λg1 h=>rtK h (rr (Z99 Zn) (gg g1 ee))) λg1 h=>rtK h (rr (Z99 Zn) (gg g1 ee)))
abbrev Yw1 (x0:List Int) (x1:Int) (r:Int):Y:=(59,[.tr (x0.map Ze),il x1],il r,[.undef,.undef])
theorem K0 {x0:List Int} {x1:Int} {r:Int} (h:Zgv x0 x1=some r):Zu Tryz.prog Mo (Yw1 x0 x1 r):=
 Zr Tryz.func59 (itK h (λg1 h=>rtK h (lr Ze x0 (gg g1 ee))) λg1 h=>rtK h (lr Ze x0 (gg g1 ee)))
abbrev Y0m (x0:Zg) (x1:Int) (r:Int):Y:=(43,[.agg (Zg.enc x0),il x1],il r,[.undef,.undef])
theorem Z2v {x0:Zg} {x1:Int} {r:Int} (h:Zw2 x0 x1=some r):Zu Tryz.prog Mo (Y0m x0 x1 r):=
 Zr Tryz.func43 (bnK h λr0 Zn h=>itK h (λg1 h=>rtK h (rr (K0 Zn) (gg g1 ee))) λg1 h=>rtK h (rr (K0 Zn) (gg g1 ee)))
abbrev Yg6 (x0:List Zg) (x1:Int) (r:Int):Y:=(9,[.tr (x0.map Zg.enc),il x1],il r,[.undef,.undef])
theorem Yki {x0:List Zg} {x1:Int} {r:Int}:∀{m:Nat} {v0:Int} {v1:Int},Zot x0 x1 m v0 v1=some r->CS (Yg6 x0 x1 r) Tryz.f9 [1,1,1,0,1,0] [(0,.tr (x0.map Zg.enc)),(1,il v0),(5,il v1)] []:=by
 intro m
 induction m with
 | zero=>intro v0 v1 h;cases h
 | succ m ih=>exactλ{v0} {v1} h=>itK h (λg1 h=>bnK h λa0 Zz h=>bnK h λr0 Zn h=>itK h (λg2 h=>rtK h (lr Zg.enc x0 (gg g1 (xb Zg.enc Zz (rr (Z2v Zn) (gg g2 ee)))))) λg2 h=>Zj [] 16 (lr Zg.enc x0 (gg g1 (xb Zg.enc Zz (rr (Z2v Zn) (gg g2 ee))))) (ih h)) λg1 h=>rtK h (lr Zg.enc x0 (gg g1 ee))
theorem Yih {x0:List Zg} {x1:Int} {r:Int} (h:Z6v x0 x1=some r):Zu Tryz.prog Mo (Yg6 x0 x1 r):=
 Zr Tryz.func9 (itK h (λg1 h=>rtK h (lr Zg.enc x0 (gg g1 ee))) λg1 h=>Zj [] 13 (lr Zg.enc x0 (gg g1 ee)) (Yki h))
abbrev Yw6 (x0:Zl) (x1:Int) (r:Int):Y:=(122,[.agg (Zl.enc x0),il x1],il r,[.undef,.undef])
theorem Yxv {x0:Zl} {x1:Int} {r:Int} (h:Zyj x0 x1=some r):Zu Tryz.prog Mo (Yw6 x0 x1 r):=
 Zr Tryz.func122 (bnK h λr0 Zn h=>itK h (λg1 h=>rtK h (rr (Z2v Zn) (gg g1 ee))) λg1 h=>rtK h (rr (Z2v Zn) (gg g1 ee)))
abbrev Yb3 (x0:List Zl) (x1:Int) (r:Int):Y:=(58,[.tr (x0.map Zl.enc),il x1],il r,[.undef,.undef])
theorem Ygo {x0:List Zl} {x1:Int} {r:Int}:∀{m:Nat} {v0:Int} {v1:Int},Zmi x0 x1 m v0 v1=some r->CS (Yb3 x0 x1 r) Tryz.f58 [1,1,1,0,1,0] [(0,.tr (x0.map Zl.enc)),(1,il v0),(5,il v1)] []:=by
 intro m
 induction m with
 | zero=>intro v0 v1 h;cases h
 | succ m ih=>exactλ{v0} {v1} h=>itK h (λg1 h=>bnK h λa0 Zz h=>bnK h λr0 Zn h=>have p1 {q p} (k:Scr q p):=(lr Zl.enc x0 (gg g1 (xb Zl.enc Zz (rr (Yxv Zn) k))));itK h (λg2 h=>rtK h (p1 (gg g2 ee))) λg2 h=>Zj [] 16 (p1 (gg g2 ee)) (ih h)) λg1 h=>rtK h (lr Zl.enc x0 (gg g1 ee))
theorem Yb1 {x0:List Zl} {x1:Int} {r:Int} (h:Z32 x0 x1=some r):Zu Tryz.prog Mo (Yb3 x0 x1 r):=
 Zr Tryz.func58 (itK h (λg1 h=>rtK h (lr Zl.enc x0 (gg g1 ee))) λg1 h=>Zj [] 13 (lr Zl.enc x0 (gg g1 ee)) (Ygo h))
abbrev Zes (x0:Zf) (x1:Int) (r:Int):Y:=(21,[.agg (Zf.enc x0),il x1],il r,[.undef,.undef])
theorem Z94 {x0:Zf} {x1:Int} {r:Int} (h:Zs7 x0 x1=some r):Zu Tryz.prog Mo (Zes x0 x1 r):=
 Zr Tryz.func21 (bnK h λr0 Zn h=>itK h (λg1 h=>rtK h (rr (Yb1 Zn) (gg g1 ee))) λg1 h=>bnK h λr1 Zw h=>have p1 {q p} (k:Scr q p):=(rr (Yb1 Zn) (gg g1 (rr (K0 Zw) k)));itK h (λg2 h=>rtK h (p1 (gg g2 ee))) λg2 h=>bnK h λr2 Z6 h=>itK h (λg3 h=>rtK h (p1 (gg g2 (rr (K0 Z6) (gg g3 ee))))) λg3 h=>rtK h (p1 (gg g2 (rr (K0 Z6) (gg g3 ee)))))
abbrev Y1r (x0:Zb) (x1:Int) (r:Int):Y:=(133,[.agg (Zb.enc x0),il x1],il r,[.undef,.undef])
theorem Yk7 {x0:Zb} {x1:Int} {r:Int} (h:Z1x x0 x1=some r):Zu Tryz.prog Mo (Y1r x0 x1 r):=
 Zr Tryz.func133 (bnK h λr0 Zn h=>itK h (λg1 h=>rtK h (rr (Yih Zn) (gg g1 ee))) λg1 h=>rtK h (rr (Yih Zn) (gg g1 ee)))
abbrev Yfz (x0:List Zb) (x1:Int) (r:Int):Y:=(82,[.tr (x0.map Zb.enc),il x1],il r,[.undef,.undef])
theorem Yka {x0:List Zb} {x1:Int} {r:Int}:∀{m:Nat} {v0:Int} {v1:Int},Zob x0 x1 m v0 v1=some r->CS (Yfz x0 x1 r) Tryz.f82 [1,1,1,0,1,0] [(0,.tr (x0.map Zb.enc)),(1,il v0),(5,il v1)] []:=by
 intro m
 induction m with
 | zero=>intro v0 v1 h;cases h
 | succ m ih=>exactλ{v0} {v1} h=>itK h (λg1 h=>bnK h λa0 Zz h=>bnK h λr0 Zn h=>itK h (λg2 h=>rtK h (lr Zb.enc x0 (gg g1 (xb Zb.enc Zz (rr (Yk7 Zn) (gg g2 ee)))))) λg2 h=>Zj [] 16 (lr Zb.enc x0 (gg g1 (xb Zb.enc Zz (rr (Yk7 Zn) (gg g2 ee))))) (ih h)) λg1 h=>rtK h (lr Zb.enc x0 (gg g1 ee))
theorem Yzr {x0:List Zb} {x1:Int} {r:Int} (h:Z55 x0 x1=some r):Zu Tryz.prog Mo (Yfz x0 x1 r):=
 Zr Tryz.func82 (itK h (λg1 h=>rtK h (lr Zb.enc x0 (gg g1 ee))) λg1 h=>Zj [] 13 (lr Zb.enc x0 (gg g1 ee)) (Yka h))
abbrev Yms (x0:List Zc) (x1:Int) (r:Int):Y:=(83,[.tr (x0.map Zc.enc),il x1],il r,[.undef,.undef])
theorem Ynn {x0:List Zc} {x1:Int} {r:Int} (h:Z7g x0 x1=some r):Zu Tryz.prog Mo (Yms x0 x1 r):=
 Zr Tryz.func83 (itK h (λg1 h=>rtK h (lr Zc.enc x0 (gg g1 ee))) λg1 h=>rtK h (lr Zc.enc x0 (gg g1 ee)))
abbrev Y04 (x0:Zo) (x1:Int) (r:Int):Y:=(134,[.agg (Zo.enc x0),il x1],il r,[.undef,.undef])
theorem Ylo {x0:Zo} {x1:Int} {r:Int} (h:Yle x0 x1=some r):Zu Tryz.prog Mo (Y04 x0 x1 r):=
 Zr Tryz.func134 (bnK h λr0 Zn h=>itK h (λg1 h=>rtK h (rr (K0 Zn) (gg g1 ee))) λg1 h=>bnK h λr1 Zw h=>itK h (λg2 h=>rtK h (rr (K0 Zn) (gg g1 (rr (K0 Zw) (gg g2 ee))))) λg2 h=>rtK h (rr (K0 Zn) (gg g1 (rr (K0 Zw) (gg g2 ee)))))
abbrev Yux (x0:Zi) (x1:Int) (r:Int):Y:=(84,[.agg (Zi.enc x0),il x1],il r,[.undef,.undef])
theorem Z26 {x0:Zi} {x1:Int} {r:Int} (h:Z30 x0 x1=some r):Zu Tryz.prog Mo (Yux x0 x1 r):=
 Zr Tryz.func84 (bnK h λr0 Zn h=>itK h (λg1 h=>rtK h (rr (K0 Zn) (gg g1 ee))) λg1 h=>bnK h λr1 Zw h=>itK h (λg2 h=>rtK h (rr (K0 Zn) (gg g1 (rr (Ylo Zw) (gg g2 ee))))) λg2 h=>rtK h (rr (K0 Zn) (gg g1 (rr (Ylo Zw) (gg g2 ee)))))
abbrev Ytq (x0:List Zm) (x1:Int) (r:Int):Y:=(85,[.tr (x0.map Zm.enc),il x1],il r,[.undef,.undef])
theorem Yde {x0:List Zm} {x1:Int} {r:Int} (h:Ycy x0 x1=some r):Zu Tryz.prog Mo (Ytq x0 x1 r):=
 Zr Tryz.func85 (itK h (λg1 h=>rtK h (lr Zm.enc x0 (gg g1 ee))) λg1 h=>rtK h (lr Zm.enc x0 (gg g1 ee)))
abbrev Zei (x0:Za) (x1:Int) (r:Int):Y:=(30,[.agg (Za.enc x0),il x1],il r,[.undef,.undef])
theorem Z9m {x0:Za} {x1:Int} {r:Int} (h:Zwu x0 x1=some r):Zu Tryz.prog Mo (Zei x0 x1 r):=
 Zr Tryz.func30 (bnK h λr0 Zn h=>have p1 {q p} (k:Scr q p):=(rr (Yyx Zn) k);itK h (λg1 h=>rtK h (p1 (gg g1 ee))) λg1 h=>bnK h λr1 Zw h=>have p2 {q p} (k:Scr q p):=(p1 (gg g1 (rr (Yzr Zw) k)));itK h (λg2 h=>rtK h (p2 (gg g2 ee))) λg2 h=>bnK h λr2 Z6 h=>have p3 {q p} (k:Scr q p):=(p2 (gg g2 (rr (Ynn Z6) k)));itK h (λg3 h=>rtK h (p3 (gg g3 ee))) λg3 h=>bnK h λr3 Y2 h=>have p4 {q p} (k:Scr q p):=(p3 (gg g3 (rr (K0 Y2) k)));itK h (λg4 h=>rtK h (p4 (gg g4 ee))) λg4 h=>bnK h λr4 Qh h=>itK h (λg5 h=>rtK h (p4 (gg g4 (rr (Z26 Qh) (gg g5 ee))))) λg5 h=>bnK h λr5 hr5 h=>itK h (λg6 h=>rtK h (p4 (gg g4 (rr (Z26 Qh) (gg g5 (rr (Yde hr5) (gg g6 ee))))))) λg6 h=>rtK h (p4 (gg g4 (rr (Z26 Qh) (gg g5 (rr (Yde hr5) (gg g6 ee)))))))
abbrev Ytj (x0:Zd) (r:Zd):Y:=(110,[.agg (Zd.enc x0)],.agg (Zd.enc r),[.undef])
theorem Yvs {x0:Zd} {r:Zd} (h:Z3c x0=some r):Zu Tryz.prog Mo (Ytj x0 r):=
 Zr Tryz.func110 (rtK h ee)
abbrev Z8e (x0:List Zd) (r:List Zd):Y:=(47,[.tr (x0.map Zd.enc)],.own 150 (r.map Zd.enc),[.undef])
theorem Ye7 {x0:List Zd} {r:List Zd}:∀{m:Nat} {v0:List Zd} {v1:Int},Zi9 x0 m v0 v1=some r->CS (Z8e x0 r) Tryz.f47 [1,1,0,1,0] [(0,.tr (x0.map Zd.enc)),(3,.sl (1,1) 0 (v0.map Zd.enc).length),(4,il v1)] [rx 1 150 (v0.map Zd.enc)]:=by
 intro m
 induction m with
 | zero=>intro v0 v1 h;cases h
 | succ m ih=>exactλ{v0} {v1} h=>itK h (λg1 h=>bnK h λa0 Zz h=>bnK h λr0 Zn h=>bnK h λa1 Yv h=>bnK h λy0 Wb h=>Zj [((1,1),(1,1))] 11 (lr Zd.enc x0 (gg g1 (xb Zd.enc Zz (rr (Yvs Zn) (xp Zd.enc Yv Wb (tp (.num (y0.map Zd.enc).length 0 0 []) (ob (Qm Zd.enc Wb) ee))))))) (ih h)) λg1 h=>rtK h (lr Zd.enc x0 (gg g1 (kk 1 (oe Zd.enc v0 ee))))
theorem Yoa {x0:List Zd} {r:List Zd} (h:Zsq x0=some r):Zu Tryz.prog Mo (Z8e x0 r):=
 Zr Tryz.func47 (bnK h λm0 hm0 h=>Zj [((1,1),(2,2048))] 8 (lr Zd.enc x0 (tp (.mk ((x0.length:Int):Int).toNat (m0.map Zd.enc)) (ob (mkn hm0) (ob (mkn hm0) (ob (mkl hm0) (ob (mkr Zd.enc hm0) (ln Zd.enc m0 ee))))))) (Ye7 h))
abbrev Yxu (x0:Zk) (r:Zk):Y:=(11,[.agg (Zk.enc x0)],.agg [.own 150 (r.masters.map Zd.enc),il r.quantum,il r.maxWait,il r.maxRetry,il r.maxSplit,il r.lockMost],[.undef])
theorem Yzn {x0:Zk} {r:Zk} (h:Zyq x0=some r):Zu Tryz.prog Mo (Yxu x0 r):=
 Zr Tryz.func11 (bnK h λr0 Zn h=>rtK h (rr (Yoa Zn) (kk 1 (oe Zd.enc r0 ee))))
abbrev Yfp (x0:List Int) (r:List Int):Y:=(63,[.tr (x0.map Ze)],.own 3 (r.map Ze),[.undef])
theorem Yjh {x0:List Int} {r:List Int}:∀{m:Nat} {v0:List Int} {v1:Int},Zpc x0 m v0 v1=some r->CS (Yfp x0 r) Tryz.f63 [1,1,0,1,0] [(0,.tr (x0.map Ze)),(3,.sl (1,1) 0 (v0.map Ze).length),(4,il v1)] [rx 1 3 (v0.map Ze)]:=by
 intro m
 induction m with
 | zero=>intro v0 v1 h;cases h
 | succ m ih=>exactλ{v0} {v1} h=>itK h (λg1 h=>bnK h λa0 Zz h=>bnK h λa1 Yv h=>bnK h λy0 Wb h=>Zj [((1,1),(1,1))] 11 (lr Ze x0 (gg g1 (xb Ze Zz (xp Ze Yv Wb (tp (.num (y0.map Ze).length 0 0 []) (ob (Qm Ze Wb) ee)))))) (ih h)) λg1 h=>rtK h (lr Ze x0 (gg g1 (kk 1 (oe Ze v0 ee))))
theorem Zj9 {x0:List Int} {r:List Int} (h:Zcy x0=some r):Zu Tryz.prog Mo (Yfp x0 r):=
 Zr Tryz.func63 (bnK h λm0 hm0 h=>Zj [((1,1),(2,2048))] 8 (lr Ze x0 (tp (.mk ((x0.length:Int):Int).toNat (m0.map Ze)) (ob (mkn hm0) (ob (mkn hm0) (ob (mkl hm0) (ob (mkr Ze hm0) (ln Ze m0 ee))))))) (Yjh h))
abbrev Y16 (x0:Zg) (r:Zg):Y:=(48,[.agg (Zg.enc x0)],.agg [bl r.write,il r.addr,il r.size,il r.burst,bl r.lock,.own 3 (r.data_.map Ze)],[.undef])
theorem Yl6 {x0:Zg} {r:Zg} (h:Zrq x0=some r):Zu Tryz.prog Mo (Y16 x0 r):=
 Zr Tryz.func48 (bnK h λr0 Zn h=>rtK h (rr (Zj9 Zn) (kk 1 (oe Ze r0 ee))))
abbrev Ygl (x0:List Zg) (r:List Zg):Y:=(12,[.tr (x0.map Zg.enc)],.own 104 (r.map Zg.enc),[.undef])
theorem Ykn {x0:List Zg} {r:List Zg}:∀{m:Nat} {v0:List Zg} {v1:Int},Zom x0 m v0 v1=some r->CS (Ygl x0 r) Tryz.f12 [1,1,0,1,0] [(0,.tr (x0.map Zg.enc)),(3,.sl (1,1) 0 (v0.map Zg.enc).length),(4,il v1)] [rx 1 104 (v0.map Zg.enc)]:=by
 intro m
 induction m with
 | zero=>intro v0 v1 h;cases h
 | succ m ih=>exactλ{v0} {v1} h=>itK h (λg1 h=>bnK h λa0 Zz h=>bnK h λr0 Zn h=>bnK h λa1 Yv h=>bnK h λy0 Wb h=>Zj [((1,1),(1,1))] 11 (lr Zg.enc x0 (gg g1 (xb Zg.enc Zz (rr (Yl6 Zn) (xq Zg.enc Yv y0 (kk 1 (tp (.num (y0.map Zg.enc).length 0 0 []) (oe Ze r0.data_ (ob (Zu5 Zg.enc Wb) (ob (Qm Zg.enc Wb) ee)))))))))) (ih h)) λg1 h=>rtK h (lr Zg.enc x0 (gg g1 (kk 1 (oe Zg.enc v0 ee))))
theorem Yxa {x0:List Zg} {r:List Zg} (h:Zyp x0=some r):Zu Tryz.prog Mo (Ygl x0 r):=
 Zr Tryz.func12 (bnK h λm0 hm0 h=>Zj [((1,1),(2,2048))] 8 (lr Zg.enc x0 (tp (.mk ((x0.length:Int):Int).toNat (m0.map Zg.enc)) (ob (mkn hm0) (ob (mkn hm0) (ob (mkl hm0) (ob (mkr Zg.enc hm0) (ln Zg.enc m0 ee))))))) (Ykn h))
abbrev Yzg (x0:Zl) (r:Zl):Y:=(123,[.agg (Zl.enc x0)],.agg [il r.at_,il r.who,bl r.req.write,il r.req.addr,il r.req.size,il r.req.burst,bl r.req.lock,.own 3 (r.req.data_.map Ze)],[.undef])
theorem Yyv {x0:Zl} {r:Zl} (h:Zth x0=some r):Zu Tryz.prog Mo (Yzg x0 r):=
 Zr Tryz.func123 (bnK h λr0 Zn h=>rtK h (rr (Yl6 Zn) (kk 1 (oe Ze r0.data_ ee))))
abbrev Ydf (x0:List Zl) (r:List Zl):Y:=(62,[.tr (x0.map Zl.enc)],.own 106 (r.map Zl.enc),[.undef])
theorem Ygk {x0:List Zl} {r:List Zl}:∀{m:Nat} {v0:List Zl} {v1:Int},Zlq x0 m v0 v1=some r->CS (Ydf x0 r) Tryz.f62 [1,1,0,1,0] [(0,.tr (x0.map Zl.enc)),(3,.sl (1,1) 0 (v0.map Zl.enc).length),(4,il v1)] [rx 1 106 (v0.map Zl.enc)]:=by
 intro m
 induction m with
 | zero=>intro v0 v1 h;cases h
 | succ m ih=>exactλ{v0} {v1} h=>itK h (λg1 h=>bnK h λa0 Zz h=>bnK h λr0 Zn h=>bnK h λa1 Yv h=>bnK h λy0 Wb h=>Zj [((1,1),(1,1))] 11 (lr Zl.enc x0 (gg g1 (xb Zl.enc Zz (rr (Yyv Zn) (xq Zl.enc Yv y0 (kk 1 (tp (.num (y0.map Zl.enc).length 0 0 []) (oe Ze r0.req.data_ (ob (Zu5 Zl.enc Wb) (ob (Qm Zl.enc Wb) ee)))))))))) (ih h)) λg1 h=>rtK h (lr Zl.enc x0 (gg g1 (kk 1 (oe Zl.enc v0 ee))))
theorem Yvd {x0:List Zl} {r:List Zl} (h:Zvv x0=some r):Zu Tryz.prog Mo (Ydf x0 r):=
 Zr Tryz.func62 (bnK h λm0 hm0 h=>Zj [((1,1),(2,2048))] 8 (lr Zl.enc x0 (tp (.mk ((x0.length:Int):Int).toNat (m0.map Zl.enc)) (ob (mkn hm0) (ob (mkn hm0) (ob (mkl hm0) (ob (mkr Zl.enc hm0) (ln Zl.enc m0 ee))))))) (Ygk h))
abbrev Q3 (x0:Zf) (r:Zf):Y:=(23,[.agg (Zf.enc x0)],.agg (Zf.ow r),[.undef])
theorem Ztk {x0:Zf} {r:Zf} (h:Ztq x0=some r):Zu Tryz.prog Mo (Q3 x0 r):=
 Zr Tryz.func23 (bnK h λr0 Zn h=>bnK h λr1 Zw h=>bnK h λr2 Z6 h=>rtK h (rr (Yvd Zn) (rr (Zj9 Zw) (rr (Zj9 Z6) (kk 3 (oe Zl.enc r0 (oe Ze r1 (oe Ze r2 ee))))))))
abbrev Y1k (x0:Zb) (r:Zb):Y:=(153,[.agg (Zb.enc x0)],.agg [.own 104 (r.queue.map Zg.enc),il r.beat,il r.done,il r.tries,bl r.parted,bl r.broken],[.undef])
theorem Y2z {x0:Zb} {r:Zb} (h:Z2e x0=some r):Zu Tryz.prog Mo (Y1k x0 r):=
 Zr Tryz.func153 (bnK h λr0 Zn h=>rtK h (rr (Yxa Zn) (kk 1 (oe Zg.enc r0 ee))))
abbrev Ygq (x0:List Zb) (r:List Zb):Y:=(89,[.tr (x0.map Zb.enc)],.own 156 (r.map Zb.enc),[.undef])
theorem Yj2 {x0:List Zb} {r:List Zb}:∀{m:Nat} {v0:List Zb} {v1:Int},Zod x0 m v0 v1=some r->CS (Ygq x0 r) Tryz.f89 [1,1,0,1,0] [(0,.tr (x0.map Zb.enc)),(3,.sl (1,1) 0 (v0.map Zb.enc).length),(4,il v1)] [rx 1 156 (v0.map Zb.enc)]:=by
 intro m
 induction m with
 | zero=>intro v0 v1 h;cases h
 | succ m ih=>exactλ{v0} {v1} h=>itK h (λg1 h=>bnK h λa0 Zz h=>bnK h λr0 Zn h=>bnK h λa1 Yv h=>bnK h λy0 Wb h=>Zj [((1,1),(1,1))] 11 (lr Zb.enc x0 (gg g1 (xb Zb.enc Zz (rr (Y2z Zn) (xq Zb.enc Yv y0 (kk 1 (tp (.num (y0.map Zb.enc).length 0 0 []) (oe Zg.enc r0.queue (ob (Zu5 Zb.enc Wb) (ob (Qm Zb.enc Wb) ee)))))))))) (ih h)) λg1 h=>rtK h (lr Zb.enc x0 (gg g1 (kk 1 (oe Zb.enc v0 ee))))
theorem Yxt {x0:List Zb} {r:List Zb} (h:Zyo x0=some r):Zu Tryz.prog Mo (Ygq x0 r):=
 Zr Tryz.func89 (bnK h λm0 hm0 h=>Zj [((1,1),(2,2048))] 8 (lr Zb.enc x0 (tp (.mk ((x0.length:Int):Int).toNat (m0.map Zb.enc)) (ob (mkn hm0) (ob (mkn hm0) (ob (mkl hm0) (ob (mkr Zb.enc hm0) (ln Zb.enc m0 ee))))))) (Yj2 h))
abbrev Y0v (x0:Z2) (r:Z2):Y:=(90,[.agg (Z2.enc x0)],.agg (Z2.enc r),[.undef])
theorem Y2p {x0:Z2} {r:Z2} (h:Z8y x0=some r):Zu Tryz.prog Mo (Y0v x0 r):=
 Zr Tryz.func90 (rtK h ee)
abbrev Yq4 (x0:Zc) (r:Zc):Y:=(154,[.agg (Zc.enc x0)],.agg (Zc.enc r),[.undef])
theorem Yo0 {x0:Zc} {r:Zc} (h:Z0e x0=some r):Zu Tryz.prog Mo (Yq4 x0 r):=
 Zr Tryz.func154 (rtK h ee)
abbrev Z7k (x0:List Zc) (r:List Zc):Y:=(91,[.tr (x0.map Zc.enc)],.own 158 (r.map Zc.enc),[.undef])
theorem Ybx {x0:List Zc} {r:List Zc}:∀{m:Nat} {v0:List Zc} {v1:Int},Zhp x0 m v0 v1=some r->CS (Z7k x0 r) Tryz.f91 [1,1,0,1,0] [(0,.tr (x0.map Zc.enc)),(3,.sl (1,1) 0 (v0.map Zc.enc).length),(4,il v1)] [rx 1 158 (v0.map Zc.enc)]:=by
 intro m
 induction m with
 | zero=>intro v0 v1 h;cases h
 | succ m ih=>exactλ{v0} {v1} h=>itK h (λg1 h=>bnK h λa0 Zz h=>bnK h λr0 Zn h=>bnK h λa1 Yv h=>bnK h λy0 Wb h=>Zj [((1,1),(1,1))] 11 (lr Zc.enc x0 (gg g1 (xb Zc.enc Zz (rr (Yo0 Zn) (xp Zc.enc Yv Wb (tp (.num (y0.map Zc.enc).length 0 0 []) (ob (Qm Zc.enc Wb) ee))))))) (ih h)) λg1 h=>rtK h (lr Zc.enc x0 (gg g1 (kk 1 (oe Zc.enc v0 ee))))
theorem Ynl {x0:List Zc} {r:List Zc} (h:Zqj x0=some r):Zu Tryz.prog Mo (Z7k x0 r):=
 Zr Tryz.func91 (bnK h λm0 hm0 h=>Zj [((1,1),(2,2048))] 8 (lr Zc.enc x0 (tp (.mk ((x0.length:Int):Int).toNat (m0.map Zc.enc)) (ob (mkn hm0) (ob (mkn hm0) (ob (mkl hm0) (ob (mkr Zc.enc hm0) (ln Zc.enc m0 ee))))))) (Ybx h))
abbrev Yx0 (x0:Zh) (r:Zh):Y:=(92,[.agg (Zh.enc x0)],.agg (Zh.enc r),[.undef])
theorem Yhq {x0:Zh} {r:Zh} (h:Ztm x0=some r):Zu Tryz.prog Mo (Yx0 x0 r):=
 Zr Tryz.func92 (rtK h ee)
abbrev Y0n (x0:Zo) (r:Zo):Y:=(155,[.agg (Zo.enc x0)],.agg (Zo.ow r),[.undef])
theorem Y17 {x0:Zo} {r:Zo} (h:Z8a x0=some r):Zu Tryz.prog Mo (Y0n x0 r):=
 Zr Tryz.func155 (bnK h λr0 Zn h=>bnK h λr1 Zw h=>rtK h (rr (Zj9 Zn) (rr (Zj9 Zw) (kk 2 (oe Ze r0 (oe Ze r1 ee))))))
abbrev Yt1 (x0:Zi) (r:Zi):Y:=(93,[.agg (Zi.enc x0)],.agg (Zi.ow r),[.undef])
theorem Yub {x0:Zi} {r:Zi} (h:Zvz x0=some r):Zu Tryz.prog Mo (Yt1 x0 r):=
 Zr Tryz.func93 (bnK h λr0 Zn h=>bnK h λr1 Zw h=>rtK h (rr (Zj9 Zn) (rr (Y17 Zw) (kk 3 (oe Ze r0 (Zo.so r1 ee))))))
abbrev Yyt (x0:Zm) (r:Zm):Y:=(156,[.agg (Zm.enc x0)],.agg (Zm.enc r),[.undef])
theorem Yyy {x0:Zm} {r:Zm} (h:Z53 x0=some r):Zu Tryz.prog Mo (Yyt x0 r):=
 Zr Tryz.func156 (rtK h ee)
abbrev Ycc (x0:List Zm) (r:List Zm):Y:=(94,[.tr (x0.map Zm.enc)],.own 113 (r.map Zm.enc),[.undef])
theorem Yga {x0:List Zm} {r:List Zm}:∀{m:Nat} {v0:List Zm} {v1:Int},Zmd x0 m v0 v1=some r->CS (Ycc x0 r) Tryz.f94 [1,1,0,1,0] [(0,.tr (x0.map Zm.enc)),(3,.sl (1,1) 0 (v0.map Zm.enc).length),(4,il v1)] [rx 1 113 (v0.map Zm.enc)]:=by
 intro m
 induction m with
 | zero=>intro v0 v1 h;cases h
 | succ m ih=>exactλ{v0} {v1} h=>itK h (λg1 h=>bnK h λa0 Zz h=>bnK h λr0 Zn h=>bnK h λa1 Yv h=>bnK h λy0 Wb h=>Zj [((1,1),(1,1))] 11 (lr Zm.enc x0 (gg g1 (xb Zm.enc Zz (rr (Yyy Zn) (xp Zm.enc Yv Wb (tp (.num (y0.map Zm.enc).length 0 0 []) (ob (Qm Zm.enc Wb) ee))))))) (ih h)) λg1 h=>rtK h (lr Zm.enc x0 (gg g1 (kk 1 (oe Zm.enc v0 ee))))
theorem Yuy {x0:List Zm} {r:List Zm} (h:Zwd x0=some r):Zu Tryz.prog Mo (Ycc x0 r):=
 Zr Tryz.func94 (bnK h λm0 hm0 h=>Zj [((1,1),(2,2048))] 8 (lr Zm.enc x0 (tp (.mk ((x0.length:Int):Int).toNat (m0.map Zm.enc)) (ob (mkn hm0) (ob (mkn hm0) (ob (mkl hm0) (ob (mkr Zm.enc hm0) (ln Zm.enc m0 ee))))))) (Yga h))
abbrev Zay (x0:Za) (r:Za):Y:=(32,[.agg (Za.enc x0)],.agg (Za.ow r),[.undef])
theorem Z1z {x0:Za} {r:Za} (h:Z2n x0=some r):Zu Tryz.prog Mo (Zay x0 r):=
 Zr Tryz.func32 (bnK h λr0 Zn h=>bnK h λr1 Zw h=>bnK h λr2 Z6 h=>bnK h λr3 Y2 h=>bnK h λr4 Qh h=>bnK h λr5 hr5 h=>bnK h λr6 hr6 h=>bnK h λr7 hr7 h=>bnK h λr8 hr8 h=>rtK h (rr (Yzn Zn) (rr (Yxt Zw) (rr (Y2p Z6) (rr (Ynl Y2) (rr (Zj9 Qh) (rr (Yhq hr5) (rr (Yhq hr6) (rr (Yub hr7) (rr (Yuy hr8) (kk 8 (oe Zd.enc r0.masters (oe Zb.enc r1 (oe Zc.enc r3 (oe Ze r4 (Zi.so r7 (oe Zm.enc r8 ee)))))))))))))))))
abbrev Y34 (x0:Int) (x1:Int) (x2:Int) (r:Bool):Y:=(61,[il x0,il x1,il x2],bl r,[.undef,.undef,.undef])
theorem Z4 {x0:Int} {x1:Int} {x2:Int} {r:Bool} (h:Z5 x0 x1 x2=some r):Zu Tryz.prog Mo (Y34 x0 x1 x2 r):=
 Zr Tryz.func61 (itK h (λg1 h=>rtK h (gg g1 (kk 3 ee))) λg1 h=>rtK h (gg g1 (kk 3 ee)))
abbrev Yhc (x0:Zk) (r:Int):Y:=(178,[.agg (Zk.enc x0)],il r,[.undef])
theorem Z4m {x0:Zk} {r:Int} {v0:Bool} (h:Zoe x0 v0=some r):CS (Yhc x0 r) Tryz.f178 [1,0,1] [(1,.ptr (1,1) 0 0),(12,bl v0)] [bx 1 (Zk.enc x0)]:=
 itK h (λg1 h=>rtK h (gg g1 ee)) λg1 h=>rtK h (gg g1 ee)
theorem Zr1 {x0:Zk} {r:Int} (h:Zjt x0=some r):Zu Tryz.prog Mo (Yhc x0 r):=
 Zr Tryz.func178 (bnK h λr0 Zn h=>itK h (λg1 h=>Zj [((1,1),(1,0))] 5 (rr (Z4 Zn) (gg g1 (kk 4 ee))) (Z4m h)) λg1 h=>bnK h λr1 Zw h=>Zj [((1,1),(1,0))] 5 (rr (Z4 Zn) (gg g1 (kk 2 (rr (Z4 Zw) (kk 2 ee))))) (Z4m h))
abbrev Yx1 (x0:Zk) (r:Int):Y:=(102,[.agg (Zk.enc x0)],il r,[.undef])
theorem Yho {x0:Zk} {r:Int} (h:Zgb x0=some r):Zu Tryz.prog Mo (Yx1 x0 r):=
 Zr Tryz.func102 (bnK h λr0 Zn h=>itK h (λg1 h=>rtK h (rr (Zr1 Zn) (gg g1 (kk 5 ee)))) λg1 h=>bnK h λr1 Zw h=>itK h (λg2 h=>rtK h (rr (Zr1 Zn) (gg g1 (kk 2 (rr (Z4 Zw) (kk 2 (gg g2 ee))))))) λg2 h=>bnK h λr2 Z6 h=>rtK h (rr (Zr1 Zn) (gg g1 (kk 2 (rr (Z4 Zw) (kk 2 (gg g2 (rr (Zr1 Z6) ee))))))))
abbrev Yrl (x0:Zk) (r:Bool):Y:=(103,[.agg (Zk.enc x0)],bl r,[.undef])
theorem Ypd {x0:Zk} {r:Bool} (h:Ztx x0=some r):Zu Tryz.prog Mo (Yrl x0 r):=
 Zr Tryz.func103 (bnK h λr0 Zn h=>itK h (λg1 h=>bnK h λr1 Zw h=>have p1 {q p} (k:Scr q p):=(rr (Z4 Zn) (gg g1 (kk 1 (rr (Zr1 Zw) (kk 2 k)))));itK h (λg2 h=>bnK h λr2 Z6 h=>itK h (λg3 h=>bnK h λr3 Y2 h=>rtK h (p1 (gg g2 (kk 2 (rr (Z4 Z6) (kk 1 (gg g3 (kk 2 (rr (Z4 Y2) (kk 1 ee)))))))))) λg3 h=>rtK h (p1 (gg g2 (kk 2 (rr (Z4 Z6) (kk 1 (gg g3 (kk 3 ee)))))))) λg2 h=>rtK h (p1 (gg g2 (kk 7 ee)))) λg1 h=>rtK h (rr (Z4 Zn) (gg g1 (kk 11 ee))))
abbrev Z62 (x0:Zk) (r:Bool):Y:=(44,[.agg (Zk.enc x0)],bl r,[.undef])
theorem Yjm {x0:Zk} {r:Bool}:∀{m:Nat} {v0:Int} {v1:Int},Zax x0 m v0 v1=some r->CS (Z62 x0 r) Tryz.f44 [1,1,1,0,1,0] [(1,.ptr (1,1) 0 0),(3,il v0),(5,il v1)] [bx 1 (Zk.enc x0)]:=by
 intro m
 induction m with
 | zero=>intro v0 v1 h;cases h
 | succ m ih=>exactλ{v0} {v1} h=>have p1 {q p} (k:Scr q p):=(lr Zd.enc x0.masters k);itK h (λg1 h=>bnK h λa0 Zz h=>bnK h λr0 Zn h=>have p2 {q p} (k:Scr q p):=(p1 (gg g1 (xb Zd.enc Zz (rr (Z4 Zn) k))));itK h (λg2 h=>rtK h (p2 (gg g2 (kk 11 ee)))) λg2 h=>have p3 {q p} (k:Scr q p):=(p2 (gg g2 (kk 3 k)));itK h (λg3 h=>itK h (λg4 h=>rtK h (p3 (gg g3 (kk 3 (gg g4 (kk 13 ee)))))) λg4 h=>have p4 {q p} (k:Scr q p):=(p3 (gg g3 (kk 3 (gg g4 (kk 7 k)))));itK h (λg5 h=>rtK h (p4 (gg g5 (kk 5 ee)))) λg5 h=>itK h (λg6 h=>bnK h λr1 Zw h=>bnK h λr2 Z6 h=>have p5 {q p} (k:Scr q p):=(p4 (gg g5 (kk 2 (gg g6 (kk 5 (rr (Yho Zw) (kk 2 (rr (Z4 Z6) (kk 2 k)))))))));itK h (λg7 h=>rtK h (p5 (gg g7 (kk 9 ee)))) λg7 h=>bnK h λr3 Y2 h=>itK h (λg8 h=>rtK h (p5 (gg g7 (kk 2 (rr (Z4 Y2) (kk 6 (gg g8 ee))))))) λg8 h=>Zj [((1,1),(1,1))] 16 (p5 (gg g7 (kk 2 (rr (Z4 Y2) (kk 6 (gg g8 ee)))))) (ih h)) λg6 h=>Zj [((1,1),(1,1))] 16 (p4 (gg g5 (kk 2 (gg g6 (kk 14 ee))))) (ih h)) λg3 h=>itK h (λg4 h=>bnK h λr1 Zw h=>bnK h λr2 Z6 h=>have p6 {q p} (k:Scr q p):=(p3 (gg g3 (kk 10 (gg g4 (kk 5 (rr (Yho Zw) (kk 2 (rr (Z4 Z6) (kk 2 k)))))))));itK h (λg5 h=>rtK h (p6 (gg g5 (kk 9 ee)))) λg5 h=>bnK h λr3 Y2 h=>itK h (λg6 h=>rtK h (p6 (gg g5 (kk 2 (rr (Z4 Y2) (kk 6 (gg g6 ee))))))) λg6 h=>Zj [((1,1),(1,1))] 16 (p6 (gg g5 (kk 2 (rr (Z4 Y2) (kk 6 (gg g6 ee)))))) (ih h)) λg4 h=>Zj [((1,1),(1,1))] 16 (p3 (gg g3 (kk 10 (gg g4 (kk 14 ee))))) (ih h)) λg1 h=>bnK h λr4 Qh h=>itK h (λg2 h=>bnK h λr5 hr5 h=>rtK h (p1 (gg g1 (lr Zd.enc x0.masters (rr (Z4 Qh) (gg g2 (kk 1 (rr (Ypd hr5) (kk 1 ee))))))))) λg2 h=>rtK h (p1 (gg g1 (lr Zd.enc x0.masters (rr (Z4 Qh) (gg g2 (kk 2 ee))))))
theorem Ykw {x0:Zk} {r:Bool}:∀{m:Nat} {v0:Int} {v2:Int},Zn7 x0 m v0 v2=some r->CS (Z62 x0 r) Tryz.f44 [1,1,0,1,0] [(1,.ptr (1,1) 0 0),(3,il v0),(4,il v2)] [bx 1 (Zk.enc x0)]:=by
 intro m
 induction m with
 | zero=>intro v0 v2 h;cases h
 | succ m ih=>exactλ{v0} {v2} h=>itK h (λg1 h=>bnK h λa1 Yv h=>itK h (λg2 h=>Zj [((1,1),(1,1))] 14 (lr Zd.enc x0.masters (gg g1 (xb Zd.enc Yv (gg g2 ee)))) (ih h)) λg2 h=>Zj [((1,1),(1,1))] 14 (lr Zd.enc x0.masters (gg g1 (xb Zd.enc Yv (gg g2 ee)))) (ih h)) λg1 h=>Zj [((1,1),(1,1))] 13 (lr Zd.enc x0.masters (gg g1 ee)) (Yjm h)
theorem Zjp {x0:Zk} {r:Bool} (h:Zjm x0=some r):Zu Tryz.prog Mo (Z62 x0 r):=
 Zr Tryz.func44 (Zj [((1,1),(1,0))] 8 ee (Ykw h))
abbrev Yuk (x0:Int) (r:Int):Y:=(106,[il x0],il r,[.undef])
theorem Zed {x0:Int} {r:Int} (h:Zba x0=some r):Zu Tryz.prog Mo (Yuk x0 r):=
 Zr Tryz.func106 (bnK h λr0 Zn h=>itK h (λg1 h=>rtK h (rr (Z4 Zn) (gg g1 ee))) λg1 h=>bnK h λa0 Zz h=>rtK h (rr (Z4 Zn) (gg g1 (xd Ze Zz ee))))
abbrev Yud (x0:Int) (r:Int):Y:=(180,[il x0],il r,[.undef])
theorem Jp {x0:Int} {r:Int} (h:Jo x0=some r):Zu Tryz.prog Mo (Yud x0 r):=
 Zr Tryz.func180 (bnK h λr0 Zn h=>itK h (λg1 h=>rtK h (rr (Z4 Zn) (gg g1 ee))) λg1 h=>bnK h λn0 hn0 h=>rtK h (rr (Z4 Zn) (gg g1 (tp (.obl) (ob (nn0 hn0) ee)))))
abbrev Yt0 (x0:Int) (x1:Int) (r:Bool):Y:=(196,[il x0,il x1],bl r,[.undef,.undef])
theorem Zpr {x0:Int} {x1:Int} {r:Bool} (h:Zbb x0 x1=some r):Zu Tryz.prog Mo (Yt0 x0 x1 r):=
 Zr Tryz.func196 (bnK h λr0 Zn h=>itK h (λg1 h=>itK h (λg2 h=>bnK h λr1 Zw h=>bnK h λn0 hn0 h=>rtK h (rr (Jp Zn) (gg g1 (kk 2 (gg g2 (kk 2 (rr (Jp Zw) (kk 1 (tp (.obl) (kk 2 (ob (nz0 hn0) ee))))))))))) λg2 h=>rtK h (rr (Jp Zn) (gg g1 (kk 2 (gg g2 (kk 5 ee)))))) λg1 h=>rtK h (rr (Jp Zn) (gg g1 (kk 8 ee))))
abbrev Zze (x0:Int) (x1:Int) (x2:Int) (r:Int):Y:=(236,[il x0,il x1,il x2],il r,[.undef,.undef,.undef])
theorem Zz5 {x0:Int} {x1:Int} {x2:Int} {r:Int} {v0:Int} {v1:Bool} (h:Zkd x0 x1 x2 v0 v1=some r):CS (Zze x0 x1 x2 r) Tryz.f236 [1,1,1,0,1] [(0,il x0),(7,il v0),(34,bl v1)] []:=
 itK h (λg1 h=>rtK h (gg g1 ee)) λg1 h=>rtK h (gg g1 ee)
theorem Zq2 {x0:Int} {x1:Int} {x2:Int} {r:Int} {v0:Int} {v2:Bool} (h:Zex x0 x1 x2 v0 v2=some r):CS (Zze x0 x1 x2 r) Tryz.f236 [1,1,0,1] [(0,il x0),(2,il x2),(7,il v0),(23,bl v2)] []:=
 itK h (λg1 h=>rtK h (gg g1 ee)) λg1 h=>itK h (λg2 h=>bnK h λn0 hn0 h=>Zj [] 5 (gg g1 (gg g2 (kk 5 (tp (.obl) (kk 2 (ob (nz0 hn0) ee)))))) (Zz5 h)) λg2 h=>Zj [] 5 (gg g1 (gg g2 (kk 7 ee))) (Zz5 h)
theorem Z8b {x0:Int} {x1:Int} {x2:Int} {r:Int} (h:Znh x0 x1 x2=some r):Zu Tryz.prog Mo (Zze x0 x1 x2 r):=
 Zr Tryz.func236 (bnK h λr0 Zn h=>bnK h λr1 Zw h=>have p1 {q p} (k:Scr q p):=(rr (Jp Zn) (rr (Zpr Zw) k));itK h (λg1 h=>Zj [] 7 (p1 (gg g1 (kk 7 ee))) (Zq2 h)) λg1 h=>bnK h λr2 Z6 h=>itK h (λg2 h=>Zj [] 7 (p1 (gg g1 (kk 1 (rr (Z4 Z6) (kk 2 (gg g2 (kk 3 ee))))))) (Zq2 h)) λg2 h=>bnK h λr3 Y2 h=>Zj [] 7 (p1 (gg g1 (kk 1 (rr (Z4 Z6) (kk 2 (gg g2 (kk 1 (rr (Zed Y2) (kk 2 ee))))))))) (Zq2 h))
abbrev Zo0 (x0:Int) (x1:Int) (x2:Int) (r:List Int):Y:=(179,[il x0,il x1,il x2],.own 3 (r.map Ze),[.undef,.undef,.undef])
theorem Zwn {x0:Int} {x1:Int} {x2:Int} {r:List Int} {k_L1:Int->(List Int)->Option (List Int)} (i_L1:∀{v0:Int} {v1:List Int},k_L1 v0 v1=some r->CS (Zo0 x0 x1 x2 r) Tryz.f179 [1,1,0,0] [(0,il v0),(1,il x1),(2,il x2),(7,.sl (1,1) 0 (v1.map Ze).length)] [rx 1 3 (v1.map Ze)]) {v0:Int} {v1:List Int} {v2:Bool} (h:Zc7 x0 x1 x2 k_L1 v0 v1 v2=some r):CS (Zo0 x0 x1 x2 r) Tryz.f179 [1,1,0,0,0,0,1] [(0,il v0),(1,il x1),(2,il x2),(7,.sl (1,1) 0 (v1.map Ze).length),(20,bl v2)] [rx 1 3 (v1.map Ze)]:=
 itK h (λg1 h=>bnK h λz0 W3 h=>bnK h λr0 Zn h=>Zj [((1,1),(2,3072))] 7 (gg g1 (ta Ze [v0] z0 (kk 1 (oa 1 Zcs v0 (ox Ze W3 (oe Ze z0 (rr (Z8b Zn) (ln Ze z0 ee)))))))) (i_L1 h)) λg1 h=>bnK h λr1 Zw h=>itK h (λg2 h=>rtK h (gg g1 (lr Ze v1 (rr (Zed Zw) (gg g2 (kk 1 (ob (show 0=([].map Ze).length from rfl) ee))))))) λg2 h=>rtK h (gg g1 (lr Ze v1 (rr (Zed Zw) (gg g2 (kk 1 (oe Ze v1 ee))))))
theorem Z8k {x0:Int} {x1:Int} {x2:Int} {r:List Int}:∀{m:Nat} {v0:Int} {v1:List Int},Zgd x0 x1 x2 m v0 v1=some r->CS (Zo0 x0 x1 x2 r) Tryz.f179 [1,1,0,0] [(0,il v0),(1,il x1),(2,il x2),(7,.sl (1,1) 0 (v1.map Ze).length)] [rx 1 3 (v1.map Ze)]:=by
 intro m
 induction m with
 | zero=>intro v0 v1 h;cases h
 | succ m ih=>exactλ{v0} {v1} h=>bnK h λr2 Z6 h=>itK h (λg1 h=>bnK h λr3 Y2 h=>Zj [((1,1),(1,1))] 4 (lr Ze v1 (rr (Zed Z6) (gg g1 (kk 3 (rr (Z8b Y2) (kk 2 (ln Ze v1 ee))))))) (Zwn ih h)) λg1 h=>Zj [((1,1),(1,1))] 4 (lr Ze v1 (rr (Zed Z6) (gg g1 (kk 5 (ln Ze v1 ee))))) (Zwn ih h)
theorem Z4v {x0:Int} {x1:Int} {x2:Int} {r:List Int} (h:Ziu x0 x1 x2=some r):Zu Tryz.prog Mo (Zo0 x0 x1 x2 r):=
 Zr Tryz.func179 (Zj [((1,1),(2,0))] 6 (tp (.num ([].map Ze).length 0 0 []) (ob (show 0=([].map Ze).length from rfl) ee)) (Z8k h))
abbrev Ycb (x0:Int) (x1:Int) (x2:Int) (r:Bool):Y:=(104,[il x0,il x1,il x2],bl r,[.undef,.undef,.undef])
theorem Yib {x0:Int} {x1:Int} {x2:Int} {r:Bool}:∀{m:Nat} {v0:List Int} {v1:Int},Zls x0 x1 x2 m v0 v1=some r->CS (Ycb x0 x1 x2 r) Tryz.f104 [1,1,0,1,0] [(7,.sl (1,1) 0 (v0.map Ze).length),(8,il v1)] [rx 1 3 (v0.map Ze)]:=by
 intro m
 induction m with
 | zero=>intro v0 v1 h;cases h
 | succ m ih=>exactλ{v0} {v1} h=>itK h (λg1 h=>bnK h λa0 Zz h=>bnK h λa1 Yv h=>itK h (λg2 h=>rtK h (lr Ze v0 (gg g1 (xd Ze Zz (kk 1 (xd Ze Yv (kk 1 (gg g2 ee)))))))) λg2 h=>Zj [((1,1),(1,1))] 14 (lr Ze v0 (gg g1 (xd Ze Zz (kk 1 (xd Ze Yv (kk 1 (gg g2 (ln Ze v0 ee)))))))) (ih h)) λg1 h=>rtK h (lr Ze v0 (gg g1 (lr Ze v0 ee)))
theorem Yb8 {x0:Int} {x1:Int} {x2:Int} {r:Bool} (h:Zwh x0 x1 x2=some r):Zu Tryz.prog Mo (Ycb x0 x1 x2 r):=
 Zr Tryz.func104 (bnK h λr0 Zn h=>Zj [((1,1),(2,3072))] 8 (rr (Z4v Zn) (ln Ze r0 ee)) (Yib h))
abbrev Ytw (x0:Int) (r:Int):Y:=(105,[il x0],il r,[.undef])
theorem Zc1 {x0:Int} {r:Int} (h:Qr x0=some r):Zu Tryz.prog Mo (Ytw x0 r):=
 Zr Tryz.func105 (bnK h λr0 Zn h=>itK h (λg1 h=>rtK h (rr (Jp Zn) (gg g1 ee))) λg1 h=>bnK h λr1 Zw h=>bnK h λn0 hn0 h=>rtK h (rr (Jp Zn) (gg g1 (rr (Jp Zw) (tp (.obl) (ob (nn0 hn0) ee))))))
abbrev Yma (x0:Zg) (r:Bool):Y:=(45,[.agg (Zg.enc x0)],bl r,[.undef])
theorem Yna {x0:Zg} {r:Bool}:∀{m:Nat} {v0:Int},Zqq x0 m v0=some r->CS (Yma x0 r) Tryz.f45 [1,1,0,1,0] [(1,.ptr (1,1) 0 0),(3,il v0)] [bx 1 (Zg.enc x0)]:=by
 intro m
 induction m with
 | zero=>intro v0 h;cases h
 | succ m ih=>exactλ{v0} h=>have p1 {q p} (k:Scr q p):=(lr Ze x0.data_ k);itK h (λg1 h=>bnK h λa0 Zz h=>bnK h λr0 Zn h=>bnK h λr1 Zw h=>have p2 {q p} (k:Scr q p):=(p1 (gg g1 (xb Ze Zz (rr (Zc1 Zn) (rr (Z4 Zw) k)))));itK h (λg2 h=>rtK h (p2 (gg g2 ee))) λg2 h=>Zj [((1,1),(1,1))] 14 (p2 (gg g2 ee)) (ih h)) λg1 h=>have p3 {q p} (k:Scr q p):=(p1 (gg g1 (lr Ze x0.data_ k)));itK h (λg2 h=>itK h (λg3 h=>rtK h (p3 (gg g2 (kk 3 (gg g3 (kk 9 ee)))))) λg3 h=>bnK h λr2 Z6 h=>have p4 {q p} (k:Scr q p):=(p3 (gg g2 (kk 3 (gg g3 (kk 2 (lr Ze x0.data_ (kk 3 (rr (Zed Z6) (kk 2 k)))))))));itK h (λg4 h=>rtK h (p4 (gg g4 (kk 4 ee)))) λg4 h=>rtK h (p4 (gg g4 (kk 4 ee)))) λg2 h=>bnK h λr2 Z6 h=>have p5 {q p} (k:Scr q p):=(p3 (gg g2 (kk 6 (lr Ze x0.data_ (kk 3 (rr (Zed Z6) (kk 2 k)))))));itK h (λg3 h=>rtK h (p5 (gg g3 (kk 4 ee)))) λg3 h=>rtK h (p5 (gg g3 (kk 4 ee)))
theorem Z77 {x0:Zg} {r:Bool} (h:Zww x0=some r):Zu Tryz.prog Mo (Yma x0 r):=
 Zr Tryz.func45 (bnK h λr3 Y2 h=>itK h (λg1 h=>rtK h (rr (Yb8 Y2) (gg g1 ee))) λg1 h=>Zj [((1,1),(1,0))] 11 (rr (Yb8 Y2) (gg g1 ee)) (Yna h))
abbrev Yzf (x0:Zk) (r:Zk):Y:=(107,[.agg (Zk.enc x0)],.agg [.own 150 (r.masters.map Zd.enc),il r.quantum,il r.maxWait,il r.maxRetry,il r.maxSplit,il r.lockMost],[.undef])
theorem Yyp {x0:Zk} {r:Zk} (h:Zyf x0=some r):Zu Tryz.prog Mo (Yzf x0 r):=
 Zr Tryz.func107 (bnK h λz0 W3 h=>rtK h (ta Zd.enc x0.masters z0 (kk 1 (ol 4 Zd.enc_len Zd.enc_lit x0.masters (ob (apl Zd.enc W3) (ob (apm Zd.enc W3) (oe Zd.enc z0 (oe Zd.enc z0 ee))))))))
abbrev Yw9 (x0:Zg) (r:Zg):Y:=(197,[.agg (Zg.enc x0)],.agg [bl r.write,il r.addr,il r.size,il r.burst,bl r.lock,.own 3 (r.data_.map Ze)],[.undef])
theorem Z5t {x0:Zg} {r:Zg} (h:Zj1 x0=some r):Zu Tryz.prog Mo (Yw9 x0 r):=
 Zr Tryz.func197 (bnK h λz0 W3 h=>rtK h (ta Ze x0.data_ z0 (kk 1 (ol 1 Zcs Zqw x0.data_ (ob (apl Ze W3) (ob (apm Ze W3) (oe Ze z0 (oe Ze z0 ee))))))))
abbrev Yc8 (x0:Zb) (r:Zb):Y:=(143,[.agg (Zb.enc x0)],.agg [.own 104 (r.queue.map Zg.enc),il r.beat,il r.done,il r.tries,bl r.parted,bl r.broken],[.undef])
theorem Yhr {x0:Zb} {r:Zb}:∀{m:Nat} {v0:List Zg} {v1:Int},Zlw x0 m v0 v1=some r->CS (Yc8 x0 r) Tryz.f143 [1,1,0,1,0] [(1,.ptr (1,1) 0 0),(2,.ptr (1,2) 0 0),(3,.sl (1,4) 0 (v0.map Zg.enc).length),(4,il v1)] [bx 1 (Zb.enc x0),rx 3 104 ([].map Zg.enc),bx 2 [.sl (1,3) 0 ([].map Zg.enc).length,il 0,il 0,il 0,bl false,bl false],rx 4 104 (v0.map Zg.enc)]:=by
 intro m
 induction m with
 | zero=>intro v0 v1 h;cases h
 | succ m ih=>exactλ{v0} {v1} h=>itK h (λg1 h=>bnK h λa0 Zz h=>bnK h λr0 Zn h=>bnK h λz0 W3 h=>Zj (ffi 1 3++[((1,4),(3,8192))]) 11 (lr Zg.enc x0.queue (gg g1 (xb Zg.enc Zz (rr (Z5t Zn) (kk 1 (ta Zg.enc [r0] z0 (kk 1 (oe Ze r0.data_ (oa 6 Zg.enc_len r0 (ox Zg.enc W3 (ln Zg.enc z0 (oe Zg.enc z0 (ln Zg.enc [] ee))))))))))))) (ih h)) λg1 h=>rtK h (lr Zg.enc x0.queue (gg g1 (kk 1 (oe Zg.enc v0 ee))))
theorem Zee {x0:Zb} {r:Zb} (h:Zeh x0=some r):Zu Tryz.prog Mo (Yc8 x0 r):=
 Zr Tryz.func143 (Zj [((1,1),(1,0)),((1,2),(1,1024)),((1,4),(2,0))] 8 (tp (.num ([].map Zg.enc).length 0 0 []) (ob (show 0=([].map Zg.enc).length from rfl) ee)) (Yhr h))
abbrev Yx8 (x0:Zo) (r:Zo):Y:=(198,[.agg (Zo.enc x0)],.agg (Zo.ow r),[.undef])
theorem Ygv {x0:Zo} {r:Zo} (h:Ztg x0=some r):Zu Tryz.prog Mo (Yx8 x0 r):=
 Zr Tryz.func198 (bnK h λz0 W3 h=>bnK h λz1 hz1 h=>rtK h (ta Ze x0.regs z0 (ta Ze x0.fifo z1 (kk 2 (ol 1 Zcs Zqw x0.regs (ob (apl Ze W3) (ob (apm Ze W3) (oe Ze z0 (ol 1 Zcs Zqw x0.fifo (ob (apl Ze hz1) (ob (apm Ze hz1) (oe Ze z1 (oe Ze z0 (oe Ze z1 ee))))))))))))))
abbrev Yxg (x0:Zi) (r:Zi):Y:=(144,[.agg (Zi.enc x0)],.agg (Zi.ow r),[.undef])
theorem Yhu {x0:Zi} {r:Zi} (h:Zs5 x0=some r):Zu Tryz.prog Mo (Yxg x0 r):=
 Zr Tryz.func144 (bnK h λz0 W3 h=>bnK h λr0 Zn h=>rtK h (ta Ze x0.mem z0 (ol 1 Zcs Zqw x0.mem (ob (apl Ze W3) (ob (apm Ze W3) (oe Ze z0 (rr (Ygv Zn) (kk 3 (oe Ze z0 (Zo.so r0 ee))))))))))
abbrev Ydp (x0:Za) (r:Za):Y:=(87,[.agg (Za.enc x0)],.agg (Za.ow r),[.undef])
theorem Yik {x0:Za} {r:Za}:∀{m:Nat} {vb0:Za} {v0:Int},Zgs x0 m vb0 v0=some r->CS (Ydp x0 r) Tryz.f87 [1,1,1,1,0,1,0] [(1,.ptr (1,1) 0 0),(2,.ptr (1,2) 0 0),(3,.ptr (1,11) 0 0),(4,il v0)] ([bx 1 (Za.enc x0)]++Za.bk Za.z0 3++[bx 2 (Za.rl Za.z0 3),rx 12 150 (vb0.conf.masters.map Zd.enc),rx 13 156 (vb0.m.map Zb.enc),bx 11 [.sl (1,12) 0 (vb0.conf.masters.map Zd.enc).length,il vb0.conf.quantum,il vb0.conf.maxWait,il vb0.conf.maxRetry,il vb0.conf.maxSplit,il vb0.conf.lockMost,il vb0.now,.sl (1,13) 0 (vb0.m.map Zb.enc).length,il vb0.arb.at_,il vb0.arb.credit,.tr (vb0.buckets.map Zc.enc),.tr (vb0.splits.map Ze),il vb0.holder,il vb0.held,il vb0.last,bl vb0.addr.live,il vb0.addr.who,il vb0.addr.beat,bl vb0.addr.first,il vb0.addr.by_,il vb0.addr.left,il vb0.addr.resp,bl vb0.addr.second,bl vb0.data_.live,il vb0.data_.who,il vb0.data_.beat,bl vb0.data_.first,il vb0.data_.by_,il vb0.data_.left,il vb0.data_.resp,bl vb0.data_.second,.tr (vb0.model.mem.map Ze),.tr (vb0.model.dev.regs.map Ze),il vb0.model.dev.timer,.tr (vb0.model.dev.fifo.map Ze),il vb0.picks,.tr (vb0.log.map Zm.enc)]]):=by
 intro m
 induction m with
 | zero=>intro vb0 v0 h;cases h
 | succ m ih=>exactλ{vb0} {v0} h=>itK h (λg1 h=>bnK h λa0 Zz h=>bnK h λr0 Zn h=>bnK h λz0 W3 h=>Zj (ffi 1 12++[((1,13),(4,4096))]) 13 (lr Zb.enc x0.m (gg g1 (xb Zb.enc Zz (rr (Zee Zn) (kk 1 (ta Zb.enc [r0] z0 (kk 1 (oe Zg.enc r0.queue (oa 6 Zb.enc_len r0 (ox Zb.enc W3 (oe Zb.enc z0 (Za.sc Za.z0 (ln Zd.enc vb0.conf.masters (ln Zb.enc z0 ee)))))))))))))) (ih h)) λg1 h=>bnK h λz1 hz1 h=>bnK h λz2 hz2 h=>bnK h λr1 Zw h=>bnK h λz3 hz3 h=>rtK h (lr Zb.enc x0.m (gg g1 (ta Zc.enc x0.buckets z1 (ta Ze x0.splits z2 (ol 2 Zc.enc_len Zc.enc_lit x0.buckets (ob (apl Zc.enc hz1) (ob (apm Zc.enc hz1) (oe Zc.enc z1 (ol 1 Zcs Zqw x0.splits (ob (apl Ze hz2) (ob (apm Ze hz2) (oe Ze z2 (rr (Yhu Zw) (ta Zm.enc x0.log z3 (kk 8 (ol 7 Zm.enc_len Zm.enc_lit x0.log (ob (apl Zm.enc hz3) (ob (apm Zm.enc hz3) (oe Zm.enc z3 (oe Zd.enc vb0.conf.masters (oe Zb.enc vb0.m (oe Zc.enc z1 (oe Ze z2 (Zi.so r1 (oe Zm.enc z3 ee)))))))))))))))))))))))))
theorem Z3v {x0:Za} {r:Za} (h:Zp9 x0=some r):Zu Tryz.prog Mo (Ydp x0 r):=
 Zr Tryz.func87 (bnK h λr2 Z6 h=>Zj [((1,1),(1,0)),((1,2),(1,1024)),((1,11),(2,1024)),((1,12),(3,2048)),((1,13),(4,0))] 12 (rr (Yyp Z6) (ln Zd.enc r2.masters (tp (.num ([].map Zb.enc).length 0 0 []) (ob (show 0=([].map Zb.enc).length from rfl) ee)))) (Yik h))
abbrev Yf8 (x0:Zk) (x1:Int) (r:Int):Y:=(191,[.agg (Zk.enc x0),il x1],il r,[.undef,.undef])
theorem Z4n {x0:Zk} {x1:Int} {r:Int} {v0:Bool} (h:Zoa x0 x1 v0=some r):CS (Yf8 x0 x1 r) Tryz.f191 [1,0,1] [(1,il x1),(2,.ptr (1,1) 0 0),(16,bl v0)] [bx 1 (Zk.enc x0)]:=
 itK h (λg1 h=>rtK h (gg g1 ee)) λg1 h=>bnK h λa0 Zz h=>rtK h (gg g1 (xb Zd.enc Zz ee))
theorem Z5s {x0:Zk} {x1:Int} {r:Int} (h:Zke x0 x1=some r):Zu Tryz.prog Mo (Yf8 x0 x1 r):=
 Zr Tryz.func191 (bnK h λr0 Zn h=>itK h (λg1 h=>Zj [((1,1),(1,0))] 5 (rr (Zjp Zn) (gg g1 (kk 7 ee))) (Z4n h)) λg1 h=>bnK h λr1 Zw h=>Zj [((1,1),(1,0))] 5 (rr (Zjp Zn) (gg g1 (kk 3 (lr Zd.enc x0.masters (kk 2 (rr (Z4 Zw) (kk 2 ee))))))) (Z4n h))
abbrev Y1a (x0:Z2) (x1:Zk) (r:Bool):Y:=(135,[.agg (Z2.enc x0),.agg (Zk.enc x1)],bl r,[.undef,.undef])
theorem Zxc {x0:Z2} {x1:Zk} {r:Bool} (h:Zrl x0 x1=some r):Zu Tryz.prog Mo (Y1a x0 x1 r):=
 Zr Tryz.func135 (bnK h λr0 Zn h=>itK h (λg1 h=>bnK h λr1 Zw h=>have p1 {q p} (k:Scr q p):=(rr (Zjp Zn) (gg g1 (kk 4 (lr Zd.enc x1.masters (kk 2 (rr (Z4 Zw) (kk 1 k)))))));itK h (λg2 h=>bnK h λr2 Z6 h=>bnK h λr3 Y2 h=>rtK h (p1 (gg g2 (kk 5 (rr (Z5s Z6) (kk 1 (rr (Z4 Y2) (kk 1 ee)))))))) λg2 h=>rtK h (p1 (gg g2 (kk 7 ee)))) λg1 h=>rtK h (rr (Zjp Zn) (gg g1 (kk 15 ee))))
abbrev Yce (x0:List Int) (r:Bool):Y:=(192,[.tr (x0.map Ze)],bl r,[.undef])
theorem Yhi {x0:List Int} {r:Bool}:∀{m:Nat} {v0:Int},Zld x0 m v0=some r->CS (Yce x0 r) Tryz.f192 [1,0,1,0] [(0,.tr (x0.map Ze)),(3,il v0)] []:=by
 intro m
 induction m with
 | zero=>intro v0 h;cases h
 | succ m ih=>exactλ{v0} h=>itK h (λg1 h=>bnK h λa0 Zz h=>bnK h λr0 Zn h=>itK h (λg2 h=>rtK h (lr Ze x0 (gg g1 (xb Ze Zz (rr (Z4 Zn) (gg g2 ee)))))) λg2 h=>Zj [] 14 (lr Ze x0 (gg g1 (xb Ze Zz (rr (Z4 Zn) (gg g2 ee))))) (ih h)) λg1 h=>rtK h (lr Ze x0 (gg g1 (lr Ze x0 ee)))
theorem Zwg {x0:List Int} {r:Bool} (h:Zp7 x0=some r):Zu Tryz.prog Mo (Yce x0 r):=
 Zr Tryz.func192 (Zj [] 6 ee (Yhi h))
abbrev Ydm (x0:List Int) (r:Bool):Y:=(242,[.tr (x0.map Ze)],bl r,[.undef])
theorem Yg8 {x0:List Int} {r:Bool}:∀{m:Nat} {v0:Int},Zk8 x0 m v0=some r->CS (Ydm x0 r) Tryz.f242 [1,0,1,0] [(0,.tr (x0.map Ze)),(3,il v0)] []:=by
 intro m
 induction m with
 | zero=>intro v0 h;cases h
 | succ m ih=>exactλ{v0} h=>itK h (λg1 h=>bnK h λa0 Zz h=>bnK h λr0 Zn h=>bnK h λr1 Zw h=>have p1 {q p} (k:Scr q p):=(lr Ze x0 (gg g1 (xb Ze Zz (rr (Zc1 Zn) (rr (Z4 Zw) k)))));itK h (λg2 h=>rtK h (p1 (gg g2 ee))) λg2 h=>Zj [] 14 (p1 (gg g2 ee)) (ih h)) λg1 h=>rtK h (lr Ze x0 (gg g1 ee))
theorem Yb7 {x0:List Int} {r:Bool} (h:Zpo x0=some r):Zu Tryz.prog Mo (Ydm x0 r):=
 Zr Tryz.func242 (Zj [] 6 ee (Yg8 h))
abbrev Y1o (x0:Zo) (r:Bool):Y:=(193,[.agg (Zo.enc x0)],bl r,[.undef])
theorem Ylp {x0:Zo} {r:Bool} (h:Zxb x0=some r):Zu Tryz.prog Mo (Y1o x0 r):=
 Zr Tryz.func193 (itK h (λg1 h=>bnK h λr0 Zn h=>have p1 {q p} (k:Scr q p):=(lr Ze x0.regs (gg g1 (kk 2 (rr (Yb7 Zn) (kk 1 k)))));itK h (λg2 h=>bnK h λr1 Zw h=>bnK h λr2 Z6 h=>have p2 {q p} (k:Scr q p):=(p1 (gg g2 (kk 2 (rr (Zc1 Zw) (kk 2 (rr (Z4 Z6) (kk 1 k)))))));itK h (λg3 h=>itK h (λg4 h=>bnK h λr3 Y2 h=>rtK h (p2 (gg g3 (kk 2 (lr Ze x0.fifo (kk 2 (gg g4 (kk 2 (rr (Yb7 Y2) (kk 1 ee)))))))))) λg4 h=>rtK h (p2 (gg g3 (kk 2 (lr Ze x0.fifo (kk 2 (gg g4 (kk 3 ee)))))))) λg3 h=>rtK h (p2 (gg g3 (kk 8 ee)))) λg2 h=>rtK h (p1 (gg g2 (kk 14 ee)))) λg1 h=>rtK h (lr Ze x0.regs (gg g1 (kk 18 ee))))
abbrev Ys8 (x0:Zi) (r:Bool):Y:=(136,[.agg (Zi.enc x0)],bl r,[.undef])
theorem Yb4 {x0:Zi} {r:Bool} (h:Zpz x0=some r):Zu Tryz.prog Mo (Ys8 x0 r):=
 Zr Tryz.func136 (itK h (λg1 h=>bnK h λr0 Zn h=>itK h (λg2 h=>bnK h λr1 Zw h=>rtK h (lr Ze x0.mem (gg g1 (kk 2 (rr (Zwg Zn) (kk 1 (gg g2 (kk 2 (rr (Ylp Zw) (kk 1 ee)))))))))) λg2 h=>rtK h (lr Ze x0.mem (gg g1 (kk 2 (rr (Zwg Zn) (kk 1 (gg g2 (kk 3 ee)))))))) λg1 h=>rtK h (lr Ze x0.mem (gg g1 (kk 7 ee))))
abbrev Yn4 (x0:Zb) (r:Int):Y:=(243,[.agg (Zb.enc x0)],il r,[.undef])
theorem Ze5 {x0:Zb} {r:Int} (h:Zc6 x0=some r):Zu Tryz.prog Mo (Yn4 x0 r):=
 Zr Tryz.func243 (itK h (λg1 h=>rtK h (lr Zg.enc x0.queue (gg g1 ee))) λg1 h=>bnK h λa0 Zz h=>bnK h λr0 Zn h=>rtK h (lr Zg.enc x0.queue (gg g1 (xb Zg.enc Zz (rr (Zed Zn) ee)))))
abbrev Z0i (x0:Zb) (r:Bool):Y:=(194,[.agg (Zb.enc x0)],bl r,[.undef])
theorem Z0j {x0:Zb} {r:Bool} {v0:Bool} (h:Zap x0 v0=some r):CS (Z0i x0 r) Tryz.f194 [1,1,0,1] [(1,.ptr (1,1) 0 0),(26,bl v0)] [bx 1 (Zb.enc x0)]:=
 itK h (λg1 h=>rtK h (gg g1 ee)) λg1 h=>have p1 {q p} (k:Scr q p):=(gg g1 (lr Zg.enc x0.queue k));itK h (λg2 h=>itK h (λg3 h=>itK h (λg4 h=>have p2 {q p} (k:Scr q p):=(p1 (gg g2 (gg g3 (kk 3 (gg g4 (kk 3 k))))));itK h (λg5 h=>itK h (λg6 h=>rtK h (p2 (gg g5 (kk 3 (gg g6 (kk 3 ee)))))) λg6 h=>rtK h (p2 (gg g5 (kk 3 (gg g6 (kk 3 ee)))))) λg5 h=>rtK h (p2 (gg g5 (kk 7 ee)))) λg4 h=>rtK h (p1 (gg g2 (gg g3 (kk 3 (gg g4 (kk 11 ee))))))) λg3 h=>rtK h (p1 (gg g2 (gg g3 (kk 15 ee))))) λg2 h=>bnK h λr0 Zn h=>bnK h λr1 Zw h=>itK h (λg3 h=>bnK h λr2 Z6 h=>bnK h λr3 Y2 h=>rtK h (p1 (gg g2 (rr (Ze5 Zn) (rr (Z4 Zw) (gg g3 (kk 8 (rr (Ze5 Z6) (kk 2 (rr (Z4 Y2) (kk 1 ee))))))))))) λg3 h=>rtK h (p1 (gg g2 (rr (Ze5 Zn) (rr (Z4 Zw) (gg g3 (kk 11 ee))))))
theorem Yen {x0:Zb} {r:Bool}:∀{m:Nat} {v1:Int},Zjd x0 m v1=some r->CS (Z0i x0 r) Tryz.f194 [1,0,1,0] [(1,.ptr (1,1) 0 0),(3,il v1)] [bx 1 (Zb.enc x0)]:=by
 intro m
 induction m with
 | zero=>intro v1 h;cases h
 | succ m ih=>exactλ{v1} h=>itK h (λg1 h=>bnK h λa0 Zz h=>bnK h λr4 Qh h=>have p1 {q p} (k:Scr q p):=(lr Zg.enc x0.queue (gg g1 (xb Zg.enc Zz (rr (Z77 Qh) k))));itK h (λg2 h=>rtK h (p1 (gg g2 ee))) λg2 h=>Zj [((1,1),(1,1))] 14 (p1 (gg g2 ee)) (ih h)) λg1 h=>itK h (λg2 h=>Zj [((1,1),(1,1))] 12 (lr Zg.enc x0.queue (gg g1 (lr Zg.enc x0.queue (gg g2 (kk 3 ee))))) (Z0j h)) λg2 h=>Zj [((1,1),(1,1))] 12 (lr Zg.enc x0.queue (gg g1 (lr Zg.enc x0.queue (gg g2 (kk 3 ee))))) (Z0j h)
theorem J9 {x0:Zb} {r:Bool} (h:Zbt x0=some r):Zu Tryz.prog Mo (Z0i x0 r):=
 Zr Tryz.func194 (Zj [((1,1),(1,0))] 6 ee (Yen h))
abbrev Y2w (x0:Zb) (x1:Zk) (r:Bool):Y:=(137,[.agg (Zb.enc x0),.agg (Zk.enc x1)],bl r,[.undef,.undef])
theorem Y0t {x0:Zb} {x1:Zk} {r:Bool} (h:Z81 x0 x1=some r):Zu Tryz.prog Mo (Y2w x0 x1 r):=
 Zr Tryz.func137 (bnK h λr0 Zn h=>itK h (λg1 h=>bnK h λr1 Zw h=>have p1 {q p} (k:Scr q p):=(rr (Zjp Zn) (gg g1 (kk 1 (rr (J9 Zw) (kk 1 k)))));itK h (λg2 h=>rtK h (p1 (gg g2 (kk 5 ee)))) λg2 h=>rtK h (p1 (gg g2 (kk 5 ee)))) λg1 h=>rtK h (rr (Zjp Zn) (gg g1 (kk 8 ee))))
abbrev Yqe (x0:Zc) (x1:Zd) (r:Bool):Y:=(138,[.agg (Zc.enc x0),.agg (Zd.enc x1)],bl r,[.undef,.undef])
theorem Znt {x0:Zc} {x1:Zd} {r:Bool} (h:Zfd x0 x1=some r):Zu Tryz.prog Mo (Yqe x0 x1 r):=
 Zr Tryz.func138 (itK h (λg1 h=>rtK h (gg g1 ee)) λg1 h=>bnK h λr0 Zn h=>itK h (λg2 h=>bnK h λr1 Zw h=>rtK h (gg g1 (rr (Z4 Zn) (gg g2 (kk 5 (rr (Z4 Zw) (kk 1 ee))))))) λg2 h=>rtK h (gg g1 (rr (Z4 Zn) (gg g2 (kk 6 ee)))))
abbrev Z3k (x0:Za) (x1:Int) (r:Int):Y:=(139,[.agg (Za.enc x0),il x1],il r,[.undef,.undef])
theorem Z1s {x0:Za} {x1:Int} {r:Int} {v0:Int} (h:Zlc x0 x1 v0=some r):CS (Z3k x0 x1 r) Tryz.f139 [1,1,1] [(1,il x1),(2,.ptr (1,1) 0 0),(5,il v0)] [bx 1 (Za.enc x0)]:=
 itK h (λg1 h=>itK h (λg2 h=>rtK h (gg g1 (kk 5 (gg g2 ee)))) λg2 h=>rtK h (gg g1 (kk 5 (gg g2 ee)))) λg1 h=>rtK h (gg g1 (kk 6 ee))
theorem Z1h {x0:Za} {x1:Int} {r:Int} {v1:Bool} (h:Zlb x0 x1 v1=some r):CS (Z3k x0 x1 r) Tryz.f139 [1,1,0,1] [(1,il x1),(2,.ptr (1,1) 0 0),(5,il 0),(15,bl v1)] [bx 1 (Za.enc x0)]:=
 itK h (λg1 h=>Zj [((1,1),(1,1))] 2 (gg g1 ee) (Z1s h)) λg1 h=>Zj [((1,1),(1,1))] 2 (gg g1 ee) (Z1s h)
theorem Ysp {x0:Za} {x1:Int} {r:Int} (h:Zv0 x0 x1=some r):Zu Tryz.prog Mo (Z3k x0 x1 r):=
 Zr Tryz.func139 (itK h (λg1 h=>Zj [((1,1),(1,0))] 7 (gg g1 (kk 5 ee)) (Z1h h)) λg1 h=>Zj [((1,1),(1,0))] 7 (gg g1 (kk 5 ee)) (Z1h h))
abbrev Yn3 (x0:Int) (r:ByteArray):Y:=(195,[il x0],ss r,[.undef])
theorem Yrm {x0:Int} {r:ByteArray} (h:Ztw x0=some r):Zu Tryz.prog Mo (Yn3 x0 r):=
 Zr Tryz.func195 (bnK h λr0 Zn h=>itK h (λg1 h=>rtK h (rr (Z4 Zn) (gg g1 ee))) λg1 h=>bnK h λa0 Zz h=>rtK h (rr (Z4 Zn) (gg g1 (xd encS Zz ee))))
abbrev Z3b (x0:Za) (x1:Zh) (x2:Bool) (r:Bool):Y:=(140,[.agg (Za.enc x0),.agg (Zh.enc x1),bl x2],bl r,[.undef,.undef,.undef])
theorem Wq {x0:Za} {x1:Zh} {x2:Bool} {r:Bool} {vb0:Zb} {v0:Bool} (h:Yg x0 x1 x2 vb0 v0=some r):CS (Z3b x0 x1 x2 r) Tryz.f140 [1,1,1,1,1,0,1] [(3,.ptr (1,1) 0 0),(4,.ptr (1,2) 0 0),(7,.ptr (1,3) 0 0),(101,bl v0)] [bx 1 (Za.enc x0),bx 2 (Zh.enc x1),bx 3 (Zb.enc vb0)]:=
 itK h (λg1 h=>rtK h (gg g1 ee)) λg1 h=>itK h (λg2 h=>bnK h λr0 Zn h=>have p1 {q p} (k:Scr q p):=(gg g1 (gg g2 (kk 6 (rr (Z4 Zn) (kk 1 k)))));itK h (λg3 h=>bnK h λr1 Zw h=>have p2 {q p} (k:Scr q p):=(p1 (gg g3 (kk 2 (rr (Yrm Zw) (kk 2 k)))));itK h (λg4 h=>itK h (λg5 h=>rtK h (p2 (gg g4 (kk 3 (gg g5 (kk 7 ee)))))) λg5 h=>itK h (λg6 h=>rtK h (p2 (gg g4 (kk 3 (gg g5 (kk 3 (gg g6 (kk 7 ee)))))))) λg6 h=>rtK h (p2 (gg g4 (kk 3 (gg g5 (kk 3 (gg g6 (kk 7 ee)))))))) λg4 h=>rtK h (p2 (gg g4 (kk 5 ee)))) λg3 h=>rtK h (p1 (gg g3 (kk 10 ee)))) λg2 h=>rtK h (gg g1 (gg g2 (kk 18 ee)))
theorem Ztl {x0:Za} {x1:Zh} {x2:Bool} {r:Bool} {v1:Bool} (h:Q7 x0 x1 x2 v1=some r):CS (Z3b x0 x1 x2 r) Tryz.f140 [1,1,0,1] [(2,bl x2),(3,.ptr (1,1) 0 0),(4,.ptr (1,2) 0 0),(36,bl v1)] [bx 1 (Za.enc x0),bx 2 (Zh.enc x1)]:=
 itK h (λg1 h=>rtK h (gg g1 ee)) λg1 h=>bnK h λa0 Zz h=>have p1 {q p} (k:Scr q p):=(gg g1 (xb Zb.enc Zz k));itK h (λg2 h=>itK h (λg3 h=>itK h (λg4 h=>itK h (λg5 h=>rtK h (p1 (gg g2 (gg g3 (kk 3 (gg g4 (kk 3 (gg g5 (kk 3 ee))))))))) λg5 h=>rtK h (p1 (gg g2 (gg g3 (kk 3 (gg g4 (kk 3 (gg g5 (kk 3 ee))))))))) λg4 h=>rtK h (p1 (gg g2 (gg g3 (kk 3 (gg g4 (kk 7 ee))))))) λg3 h=>rtK h (p1 (gg g2 (gg g3 (kk 11 ee))))) λg2 h=>itK h (λg3 h=>have p2 {q p} (k:Scr q p):=(p1 (gg g2 (gg g3 (kk 6 k))));itK h (λg4 h=>Zj [((1,1),(1,1)),((1,2),(1,2)),((1,3),(2,6144))] 12 (p2 (gg g4 (kk 10 ee))) (Wq h)) λg4 h=>itK h (λg5 h=>have p3 {q p} (k:Scr q p):=(p2 (gg g4 (kk 3 (gg g5 (kk 2 k)))));itK h (λg6 h=>Zj [((1,1),(1,1)),((1,2),(1,2)),((1,3),(2,6144))] 12 (p3 (gg g6 (kk 14 ee))) (Wq h)) λg6 h=>itK h (λg7 h=>Zj [((1,1),(1,1)),((1,2),(1,2)),((1,3),(2,6144))] 12 (p3 (gg g6 (kk 9 (gg g7 (kk 4 ee))))) (Wq h)) λg7 h=>itK h (λg8 h=>Zj [((1,1),(1,1)),((1,2),(1,2)),((1,3),(2,6144))] 12 (p3 (gg g6 (kk 9 (gg g7 (kk 2 (gg g8 (kk 5 ee))))))) (Wq h)) λg8 h=>Zj [((1,1),(1,1)),((1,2),(1,2)),((1,3),(2,6144))] 12 (p3 (gg g6 (kk 9 (gg g7 (kk 2 (gg g8 (kk 5 ee))))))) (Wq h)) λg5 h=>itK h (λg6 h=>Zj [((1,1),(1,1)),((1,2),(1,2)),((1,3),(2,6144))] 12 (p2 (gg g4 (kk 3 (gg g5 (kk 9 (gg g6 (kk 5 ee))))))) (Wq h)) λg6 h=>Zj [((1,1),(1,1)),((1,2),(1,2)),((1,3),(2,6144))] 12 (p2 (gg g4 (kk 3 (gg g5 (kk 9 (gg g6 (kk 5 ee))))))) (Wq h)) λg3 h=>have p4 {q p} (k:Scr q p):=(p1 (gg g2 (gg g3 (kk 10 k))));itK h (λg4 h=>itK h (λg5 h=>Zj [((1,1),(1,1)),((1,2),(1,2)),((1,3),(2,6144))] 12 (p4 (gg g4 (kk 2 (gg g5 (kk 14 ee))))) (Wq h)) λg5 h=>itK h (λg6 h=>Zj [((1,1),(1,1)),((1,2),(1,2)),((1,3),(2,6144))] 12 (p4 (gg g4 (kk 2 (gg g5 (kk 9 (gg g6 (kk 4 ee))))))) (Wq h)) λg6 h=>itK h (λg7 h=>Zj [((1,1),(1,1)),((1,2),(1,2)),((1,3),(2,6144))] 12 (p4 (gg g4 (kk 2 (gg g5 (kk 9 (gg g6 (kk 2 (gg g7 (kk 5 ee))))))))) (Wq h)) λg7 h=>Zj [((1,1),(1,1)),((1,2),(1,2)),((1,3),(2,6144))] 12 (p4 (gg g4 (kk 2 (gg g5 (kk 9 (gg g6 (kk 2 (gg g7 (kk 5 ee))))))))) (Wq h)) λg4 h=>itK h (λg5 h=>Zj [((1,1),(1,1)),((1,2),(1,2)),((1,3),(2,6144))] 12 (p4 (gg g4 (kk 9 (gg g5 (kk 5 ee))))) (Wq h)) λg5 h=>Zj [((1,1),(1,1)),((1,2),(1,2)),((1,3),(2,6144))] 12 (p4 (gg g4 (kk 9 (gg g5 (kk 5 ee))))) (Wq h)
theorem Yck {x0:Za} {x1:Zh} {x2:Bool} {r:Bool} (h:Zcx x0 x1 x2=some r):Zu Tryz.prog Mo (Z3b x0 x1 x2 r):=
 Zr Tryz.func140 (itK h (λg1 h=>rtK h (gg g1 ee)) λg1 h=>bnK h λr2 Z6 h=>have p1 {q p} (k:Scr q p):=(gg g1 (lr Zb.enc x0.m (rr (Z4 Z6) k)));itK h (λg2 h=>Zj [((1,1),(1,0)),((1,2),(1,1024))] 10 (p1 (gg g2 (kk 12 ee))) (Ztl h)) λg2 h=>bnK h λr3 Y2 h=>itK h (λg3 h=>Zj [((1,1),(1,0)),((1,2),(1,1024))] 10 (p1 (gg g2 (kk 2 (rr (Z4 Y2) (kk 2 (gg g3 (kk 7 ee))))))) (Ztl h)) λg3 h=>bnK h λa1 Yv h=>Zj [((1,1),(1,0)),((1,2),(1,1024))] 10 (p1 (gg g2 (kk 2 (rr (Z4 Y2) (kk 2 (gg g3 (kk 4 (xb Ze Yv (kk 3 ee))))))))) (Ztl h))
abbrev Z28 (x0:Za) (r:Bool):Y:=(141,[.agg (Za.enc x0)],bl r,[.undef])
theorem Z11 {x0:Za} {r:Bool} {v0:Bool} (h:Zbe x0 v0=some r):CS (Z28 x0 r) Tryz.f141 [1,1,1,0,1] [(1,.ptr (1,1) 0 0),(67,bl v0)] [bx 1 (Za.enc x0)]:=
 itK h (λg1 h=>rtK h (gg g1 ee)) λg1 h=>bnK h λa0 Zz h=>have p1 {q p} (k:Scr q p):=(gg g1 (xb Zb.enc Zz (lr Zg.enc a0.queue k)));itK h (λg2 h=>bnK h λa1 Yv h=>have p2 {q p} (k:Scr q p):=(p1 (gg g2 (kk 2 (xb Zg.enc Yv (kk 3 k)))));itK h (λg3 h=>itK h (λg4 h=>bnK h λa2 Kv h=>rtK h (p2 (gg g3 (kk 3 (gg g4 (kk 4 (xb Ze Kv (kk 3 ee)))))))) λg4 h=>rtK h (p2 (gg g3 (kk 3 (gg g4 (kk 7 ee)))))) λg3 h=>rtK h (p2 (gg g3 (kk 11 ee)))) λg2 h=>rtK h (p1 (gg g2 (kk 17 ee)))
theorem Yh1 {x0:Za} {r:Bool}:∀{m:Nat} {v1:Int},Zty x0 m v1=some r->CS (Z28 x0 r) Tryz.f141 [1,0,1,0] [(1,.ptr (1,1) 0 0),(3,il v1)] [bx 1 (Za.enc x0)]:=by
 intro m
 induction m with
 | zero=>intro v1 h;cases h
 | succ m ih=>exactλ{v1} h=>have p1 {q p} (k:Scr q p):=(lr Zb.enc x0.m k);itK h (λg1 h=>bnK h λa3 ha3 h=>have p2 {q p} (k:Scr q p):=(p1 (gg g1 (xb Zb.enc ha3 k)));itK h (λg2 h=>bnK h λa4 ha4 h=>have p3 {q p} (k:Scr q p):=(p2 (gg g2 (kk 3 (xb Zb.enc ha3 (kk 3 (xb Zg.enc ha4 (kk 3 k)))))));itK h (λg3 h=>have p4 {q p} (k:Scr q p):=(p3 (gg g3 (kk 3 (xb Zb.enc ha3 (kk 4 k)))));itK h (λg4 h=>itK h (λg5 h=>rtK h (p4 (gg g4 (kk 4 (gg g5 ee))))) λg5 h=>Zj [((1,1),(1,1))] 14 (p4 (gg g4 (kk 4 (gg g5 ee)))) (ih h)) λg4 h=>Zj [((1,1),(1,1))] 14 (p4 (gg g4 (kk 5 ee))) (ih h)) λg3 h=>Zj [((1,1),(1,1))] 14 (p3 (gg g3 (kk 13 ee))) (ih h)) λg2 h=>Zj [((1,1),(1,1))] 14 (p2 (gg g2 (kk 23 ee))) (ih h)) λg1 h=>itK h (λg2 h=>rtK h (p1 (gg g1 (gg g2 ee)))) λg2 h=>bnK h λr0 Zn h=>itK h (λg3 h=>Zj [((1,1),(1,1))] 17 (p1 (gg g1 (gg g2 (lr Zb.enc x0.m (rr (Z4 Zn) (gg g3 (kk 7 ee))))))) (Z11 h)) λg3 h=>bnK h λr1 Zw h=>Zj [((1,1),(1,1))] 17 (p1 (gg g1 (gg g2 (lr Zb.enc x0.m (rr (Z4 Zn) (gg g3 (kk 5 (rr (Z4 Zw) (kk 2 ee))))))))) (Z11 h)
theorem Yc9 {x0:Za} {r:Bool} (h:Zp5 x0=some r):Zu Tryz.prog Mo (Z28 x0 r):=
 Zr Tryz.func141 (Zj [((1,1),(1,0))] 6 ee (Yh1 h))
abbrev Yhh (x0:Za) (r:Bool):Y:=(142,[.agg (Za.enc x0)],bl r,[.undef])
theorem Yj7 {x0:Za} {r:Bool}:∀{m:Nat} {v0:Int},Zn8 x0 m v0=some r->CS (Yhh x0 r) Tryz.f142 [1,0,1,0] [(1,.ptr (1,1) 0 0),(3,il v0)] [bx 1 (Za.enc x0)]:=by
 intro m
 induction m with
 | zero=>intro v0 h;cases h
 | succ m ih=>exactλ{v0} h=>have p1 {q p} (k:Scr q p):=(lr Zm.enc x0.log k);itK h (λg1 h=>bnK h λa0 Zz h=>bnK h λr0 Zn h=>have p2 {q p} (k:Scr q p):=(p1 (gg g1 (xb Zm.enc Zz (rr (Z4 Zn) k))));itK h (λg2 h=>rtK h (p2 (gg g2 (kk 40 ee)))) λg2 h=>have p3 {q p} (k:Scr q p):=(p2 (gg g2 (kk 2 k)));itK h (λg3 h=>bnK h λa1 Yv h=>have p4 {q p} (k:Scr q p):=(p3 (gg g3 (kk 6 (xb Zm.enc Yv (kk 6 k)))));itK h (λg4 h=>rtK h (p4 (gg g4 (kk 35 ee)))) λg4 h=>bnK h λr1 Zw h=>have p5 {q p} (k:Scr q p):=(p4 (gg g4 (kk 4 (lr Zb.enc x0.m (kk 2 (rr (Z4 Zw) (kk 2 k)))))));itK h (λg5 h=>rtK h (p5 (gg g5 (kk 26 ee)))) λg5 h=>bnK h λr2 Z6 h=>have p6 {q p} (k:Scr q p):=(p5 (gg g5 (kk 4 (rr (Zpr Z6) (kk 2 k)))));itK h (λg6 h=>rtK h (p6 (gg g6 (kk 19 ee)))) λg6 h=>bnK h λr3 Y2 h=>have p7 {q p} (k:Scr q p):=(p6 (gg g6 (kk 2 (rr (Z4 Y2) (kk 2 k)))));itK h (λg7 h=>rtK h (p7 (gg g7 (kk 14 ee)))) λg7 h=>bnK h λr4 Qh h=>bnK h λr5 hr5 h=>have p8 {q p} (k:Scr q p):=(p7 (gg g7 (kk 4 (rr (Zc1 Qh) (kk 2 (rr (Z4 hr5) (kk 2 k)))))));itK h (λg8 h=>rtK h (p8 (gg g8 (kk 5 ee)))) λg8 h=>bnK h λr6 hr6 h=>itK h (λg9 h=>rtK h (p8 (gg g8 (kk 2 (rr (Z4 hr6) (kk 2 (gg g9 ee))))))) λg9 h=>Zj [((1,1),(1,1))] 16 (p8 (gg g8 (kk 2 (rr (Z4 hr6) (kk 2 (gg g9 ee)))))) (ih h)) λg3 h=>bnK h λr1 Zw h=>have p9 {q p} (k:Scr q p):=(p3 (gg g3 (kk 17 (lr Zb.enc x0.m (kk 2 (rr (Z4 Zw) (kk 2 k)))))));itK h (λg4 h=>rtK h (p9 (gg g4 (kk 26 ee)))) λg4 h=>bnK h λr2 Z6 h=>have p10 {q p} (k:Scr q p):=(p9 (gg g4 (kk 4 (rr (Zpr Z6) (kk 2 k)))));itK h (λg5 h=>rtK h (p10 (gg g5 (kk 19 ee)))) λg5 h=>bnK h λr3 Y2 h=>have p11 {q p} (k:Scr q p):=(p10 (gg g5 (kk 2 (rr (Z4 Y2) (kk 2 k)))));itK h (λg6 h=>rtK h (p11 (gg g6 (kk 14 ee)))) λg6 h=>bnK h λr4 Qh h=>bnK h λr5 hr5 h=>have p12 {q p} (k:Scr q p):=(p11 (gg g6 (kk 4 (rr (Zc1 Qh) (kk 2 (rr (Z4 hr5) (kk 2 k)))))));itK h (λg7 h=>rtK h (p12 (gg g7 (kk 5 ee)))) λg7 h=>bnK h λr6 hr6 h=>itK h (λg8 h=>rtK h (p12 (gg g7 (kk 2 (rr (Z4 hr6) (kk 2 (gg g8 ee))))))) λg8 h=>Zj [((1,1),(1,1))] 16 (p12 (gg g7 (kk 2 (rr (Z4 hr6) (kk 2 (gg g8 ee)))))) (ih h)) λg1 h=>rtK h (p1 (gg g1 ee))
theorem Yxd {x0:Za} {r:Bool} (h:Zst x0=some r):Zu Tryz.prog Mo (Yhh x0 r):=
 Zr Tryz.func142 (Zj [((1,1),(1,0))] 6 ee (Yj7 h))
abbrev Z74 (x0:Za) (r:Bool):Y:=(86,[.agg (Za.enc x0)],bl r,[.undef])
theorem Ym8 {x0:Za} {r:Bool}:∀{m:Nat} {v0:Int},Zqi x0 m v0=some r->CS (Z74 x0 r) Tryz.f86 [1,1,1,0,1,0] [(1,.ptr (1,1) 0 0),(3,il (x0.conf.masters.length:Int)),(4,il v0)] [bx 1 (Za.enc x0)]:=by
 intro m
 induction m with
 | zero=>intro v0 h;cases h
 | succ m ih=>exactλ{v0} h=>itK h (λg1 h=>bnK h λa0 Zz h=>bnK h λr0 Zn h=>have p1 {q p} (k:Scr q p):=(gg g1 (xb Zb.enc Zz (rr (Y0t Zn) k)));itK h (λg2 h=>rtK h (p1 (gg g2 (kk 43 ee)))) λg2 h=>bnK h λa1 Yv h=>bnK h λa2 Kv h=>bnK h λr1 Zw h=>have p2 {q p} (k:Scr q p):=(p1 (gg g2 (kk 3 (xb Zc.enc Yv (kk 6 (xb Zd.enc Kv (kk 2 (rr (Znt Zw) (kk 2 k)))))))));itK h (λg3 h=>rtK h (p2 (gg g3 (kk 29 ee)))) λg3 h=>bnK h λa3 ha3 h=>bnK h λr2 Z6 h=>have p3 {q p} (k:Scr q p):=(p2 (gg g3 (kk 3 (xb Ze ha3 (kk 5 (rr (Z4 Z6) (kk 2 k)))))));itK h (λg4 h=>rtK h (p3 (gg g4 (kk 18 ee)))) λg4 h=>bnK h λr3 Y2 h=>have p4 {q p} (k:Scr q p):=(p3 (gg g4 (kk 3 (xb Zb.enc Zz (kk 6 (xb Zb.enc Zz (kk 6 (rr (Ysp Y2) (kk 2 k)))))))));itK h (λg5 h=>rtK h (p4 (gg g5 ee))) λg5 h=>Zj [((1,1),(1,1))] 14 (p4 (gg g5 ee)) (ih h)) λg1 h=>bnK h λr4 Qh h=>have p5 {q p} (k:Scr q p):=(gg g1 (rr (Yck Qh) k));itK h (λg2 h=>bnK h λr5 hr5 h=>have p6 {q p} (k:Scr q p):=(p5 (gg g2 (kk 3 (rr (Yck hr5) (kk 1 k)))));itK h (λg3 h=>bnK h λr6 hr6 h=>itK h (λg4 h=>bnK h λr7 hr7 h=>rtK h (p6 (gg g3 (kk 1 (rr (Yc9 hr6) (kk 1 (gg g4 (kk 1 (rr (Yxd hr7) (kk 1 ee)))))))))) λg4 h=>rtK h (p6 (gg g3 (kk 1 (rr (Yc9 hr6) (kk 1 (gg g4 (kk 2 ee)))))))) λg3 h=>rtK h (p6 (gg g3 (kk 5 ee)))) λg2 h=>rtK h (p5 (gg g2 (kk 10 ee)))
theorem Jq {x0:Za} {r:Bool} {v1:Bool} (h:W0 x0 v1=some r):CS (Z74 x0 r) Tryz.f86 [1,1,0,1] [(1,.ptr (1,1) 0 0),(3,il (x0.conf.masters.length:Int)),(73,bl v1)] [bx 1 (Za.enc x0)]:=
 itK h (λg1 h=>rtK h (gg g1 ee)) λg1 h=>Zj [((1,1),(1,1))] 6 (gg g1 ee) (Ym8 h)
theorem Yl8 {x0:Za} {r:Bool} (h:Zno x0=some r):Zu Tryz.prog Mo (Z74 x0 r):=
 Zr Tryz.func86 (bnK h λr8 hr8 h=>have p1 {q p} (k:Scr q p):=(lr Zd.enc x0.conf.masters (rr (Zjp hr8) k));itK h (λg1 h=>Zj [((1,1),(1,0))] 7 (p1 (gg g1 (kk 51 ee))) (Jq h)) λg1 h=>bnK h λr9 hr9 h=>have p2 {q p} (k:Scr q p):=(p1 (gg g1 (kk 2 (rr (Z4 hr9) (kk 2 k)))));itK h (λg2 h=>Zj [((1,1),(1,0))] 7 (p2 (gg g2 (kk 46 ee))) (Jq h)) λg2 h=>have p3 {q p} (k:Scr q p):=(p2 (gg g2 (kk 2 (lr Zb.enc x0.m (kk 3 k)))));itK h (λg3 h=>Zj [((1,1),(1,0))] 7 (p3 (gg g3 (kk 40 ee))) (Jq h)) λg3 h=>have p4 {q p} (k:Scr q p):=(p3 (gg g3 (kk 2 (lr Zc.enc x0.buckets (kk 3 k)))));itK h (λg4 h=>Zj [((1,1),(1,0))] 7 (p4 (gg g4 (kk 34 ee))) (Jq h)) λg4 h=>have p5 {q p} (k:Scr q p):=(p4 (gg g4 (kk 2 (lr Ze x0.splits (kk 3 k)))));itK h (λg5 h=>Zj [((1,1),(1,0))] 7 (p5 (gg g5 (kk 28 ee))) (Jq h)) λg5 h=>bnK h λr10 hr10 h=>have p6 {q p} (k:Scr q p):=(p5 (gg g5 (kk 4 (rr (Zxc hr10) (kk 2 k)))));itK h (λg6 h=>Zj [((1,1),(1,0))] 7 (p6 (gg g6 (kk 21 ee))) (Jq h)) λg6 h=>bnK h λr11 hr11 h=>have p7 {q p} (k:Scr q p):=(p6 (gg g6 (kk 4 (rr (Z4 hr11) (kk 2 k)))));itK h (λg7 h=>Zj [((1,1),(1,0))] 7 (p7 (gg g7 (kk 14 ee))) (Jq h)) λg7 h=>bnK h λr12 hr12 h=>have p8 {q p} (k:Scr q p):=(p7 (gg g7 (kk 2 (rr (Yb4 hr12) (kk 2 k)))));itK h (λg8 h=>Zj [((1,1),(1,0))] 7 (p8 (gg g8 (kk 9 ee))) (Jq h)) λg8 h=>itK h (λg9 h=>Zj [((1,1),(1,0))] 7 (p8 (gg g8 (kk 3 (gg g9 (kk 5 ee))))) (Jq h)) λg9 h=>Zj [((1,1),(1,0))] 7 (p8 (gg g8 (kk 3 (gg g9 (kk 5 ee))))) (Jq h))
abbrev Ycg (x0:Za) (r:Bool):Y:=(98,[.agg (Za.enc x0)],bl r,[.undef])
theorem Yg1 {x0:Za} {r:Bool}:∀{m:Nat} {v0:Int},Zlg x0 m v0=some r->CS (Ycg x0 r) Tryz.f98 [1,0,1,0] [(1,.ptr (1,1) 0 0),(3,il v0)] [bx 1 (Za.enc x0)]:=by
 intro m
 induction m with
 | zero=>intro v0 h;cases h
 | succ m ih=>exactλ{v0} h=>itK h (λg1 h=>bnK h λa0 Zz h=>have p1 {q p} (k:Scr q p):=(lr Zb.enc x0.m (gg g1 (xb Zb.enc Zz (lr Zg.enc a0.queue k))));itK h (λg2 h=>rtK h (p1 (gg g2 ee))) λg2 h=>Zj [((1,1),(1,1))] 14 (p1 (gg g2 ee)) (ih h)) λg1 h=>rtK h (lr Zb.enc x0.m (gg g1 ee))
theorem Ycr {x0:Za} {r:Bool} (h:Zv3 x0=some r):Zu Tryz.prog Mo (Ycg x0 r):=
 Zr Tryz.func98 (Zj [((1,1),(1,0))] 6 ee (Yg1 h))
abbrev Yb0 (x0:Zb) (x1:Int) (r:Int):Y:=(199,[.agg (Zb.enc x0),il x1],il r,[.undef,.undef])
theorem Z1y {x0:Zb} {x1:Int} {r:Int} {v0:Bool} (h:Zma x0 x1 v0=some r):CS (Yb0 x0 x1 r) Tryz.f199 [1,0,1] [(1,il x1),(2,.ptr (1,1) 0 0),(16,bl v0)] [bx 1 (Zb.enc x0)]:=
 itK h (λg1 h=>rtK h (gg g1 ee)) λg1 h=>bnK h λa0 Zz h=>bnK h λr0 Zn h=>bnK h λa1 Yv h=>rtK h (gg g1 (xb Zg.enc Zz (rr (Z4v Zn) (xd Ze Yv ee))))
theorem Zpu {x0:Zb} {x1:Int} {r:Int} (h:Zhc x0 x1=some r):Zu Tryz.prog Mo (Yb0 x0 x1 r):=
 Zr Tryz.func199 (bnK h λr1 Zw h=>itK h (λg1 h=>Zj [((1,1),(1,0))] 5 (rr (J9 Zw) (gg g1 (kk 6 ee))) (Z1y h)) λg1 h=>bnK h λr2 Z6 h=>bnK h λr3 Y2 h=>Zj [((1,1),(1,0))] 5 (rr (J9 Zw) (gg g1 (kk 2 (rr (Ze5 Z6) (kk 2 (rr (Z4 Y2) (kk 2 ee))))))) (Z1y h))
abbrev Ych (x0:Za) (r:Zt):Y:=(145,[.agg (Za.enc x0)],.agg (Zt.enc r),[.undef])
theorem Zsc {x0:Za} {r:Zt} {vb0:Zt} (h:Zf6 x0 vb0=some r):CS (Ych x0 r) Tryz.f145 [1,1,1] [(1,.ptr (1,1) 0 0),(2,.ptr (1,2) 0 0),(3,.ptr (1,3) 0 0)] [bx 1 (Za.enc x0),bx 2 (Zt.enc Zt.z0),bx 3 (Zt.enc vb0)]:=
 itK h (λg1 h=>bnK h λa0 Zz h=>bnK h λr0 Zn h=>rtK h (gg g1 (xb Zb.enc Zz (rr (Zpu Zn) ee)))) λg1 h=>rtK h (gg g1 ee)
theorem Yso {x0:Za} {r:Zt} (h:Zwa x0=some r):Zu Tryz.prog Mo (Ych x0 r):=
 Zr Tryz.func145 (itK h (λg1 h=>bnK h λa1 Yv h=>bnK h λr1 Zw h=>itK h (λg2 h=>Zj [((1,1),(1,0)),((1,2),(1,1024)),((1,3),(2,3072))] 18 (gg g1 (xb Zb.enc Yv (rr (Zpu Zw) (gg g2 ee)))) (Zsc h)) λg2 h=>Zj [((1,1),(1,0)),((1,2),(1,1024)),((1,3),(2,3072))] 18 (gg g1 (xb Zb.enc Yv (rr (Zpu Zw) (gg g2 ee)))) (Zsc h)) λg1 h=>Zj [((1,1),(1,0)),((1,2),(1,1024)),((1,3),(2,3072))] 9 (gg g1 ee) (Zsc h))
abbrev Yct (x0:Zf) (x1:Int) (r:List Zl):Y:=(146,[.agg (Zf.enc x0),il x1],.own 106 (r.map Zl.enc),[.undef,.undef])
theorem Yfw {x0:Zf} {x1:Int} {r:List Zl}:∀{m:Nat} {v0:List Zl} {v1:Int},Zlm x0 x1 m v0 v1=some r->CS (Yct x0 x1 r) Tryz.f146 [1,1,0,1,0] [(1,il x1),(2,.ptr (1,1) 0 0),(5,.sl (1,2) 0 (v0.map Zl.enc).length),(6,il v1)] [bx 1 (Zf.enc x0),rx 2 106 (v0.map Zl.enc)]:=by
 intro m
 induction m with
 | zero=>intro v0 v1 h;cases h
 | succ m ih=>exactλ{v0} {v1} h=>itK h (λg1 h=>bnK h λa0 Zz h=>itK h (λg2 h=>bnK h λr0 Zn h=>bnK h λz0 W3 h=>Zj [((1,1),(1,1)),((1,2),(6,3072))] 18 (lr Zl.enc x0.posts (gg g1 (xb Zl.enc Zz (gg g2 (xb Zl.enc Zz (rr (Z5t Zn) (kk 1 (ta Zl.enc [{a0 with req:=r0}] z0 (kk 1 (oe Ze r0.data_ (oa 8 Zl.enc_len {a0 with req:=r0} (ox Zl.enc W3 (ln Zl.enc z0 (oe Zl.enc z0 ee)))))))))))))) (ih h)) λg2 h=>Zj [((1,1),(1,1)),((1,2),(1,2))] 14 (lr Zl.enc x0.posts (gg g1 (xb Zl.enc Zz (gg g2 (ln Zl.enc v0 ee))))) (ih h)) λg1 h=>rtK h (lr Zl.enc x0.posts (gg g1 (kk 1 (oe Zl.enc v0 ee))))
theorem Yue {x0:Zf} {x1:Int} {r:List Zl} (h:Zv7 x0 x1=some r):Zu Tryz.prog Mo (Yct x0 x1 r):=
 Zr Tryz.func146 (Zj [((1,1),(1,0)),((1,2),(2,0))] 8 (tp (.num ([].map Zl.enc).length 0 0 []) (ob (show 0=([].map Zl.enc).length from rfl) ee)) (Yfw h))
abbrev Ycx (x0:Zb) (x1:Zg) (r:Zb×Bool):Y:=(147,[.agg (Zb.enc x0),.agg (Zg.enc x1)],.tup [.agg [.own 104 (r.1.queue.map Zg.enc),il r.1.beat,il r.1.done,il r.1.tries,bl r.1.parted,bl r.1.broken],bl r.2],[.undef,.undef])
theorem Zsy {x0:Zb} {x1:Zg} {r:Zb×Bool} {vb0:Zb} {v0:Bool} (h:Zf5 x0 x1 vb0 v0=some r):CS (Ycx x0 x1 r) Tryz.f147 [1,1,0,1] [(3,.ptr (1,1) 0 0),(4,.ptr (1,2) 0 0),(6,.ptr (1,4) 0 0),(22,bl v0)] [bx 1 (Zg.enc x1),rx 3 104 ([].map Zg.enc),bx 2 [.sl (1,3) 0 ([].map Zg.enc).length,il 0,il 0,il 0,bl false,bl false],rx 5 104 (vb0.queue.map Zg.enc),bx 4 [.sl (1,5) 0 (vb0.queue.map Zg.enc).length,il vb0.beat,il vb0.done,il vb0.tries,bl vb0.parted,bl vb0.broken]]:=
 itK h (λg1 h=>rtK h (gg g1 (kk 1 (oe Zg.enc vb0.queue ee)))) λg1 h=>bnK h λr0 Zn h=>bnK h λz0 W3 h=>rtK h (gg g1 (rr (Z5t Zn) (kk 1 (ta Zg.enc [r0] z0 (kk 2 (oe Ze r0.data_ (oa 6 Zg.enc_len r0 (ox Zg.enc W3 (oe Zg.enc z0 (oe Zg.enc z0 ee))))))))))
theorem Yuq {x0:Zb} {x1:Zg} {r:Zb×Bool} (h:Zv2 x0 x1=some r):Zu Tryz.prog Mo (Ycx x0 x1 r):=
 Zr Tryz.func147 (bnK h λr1 Zw h=>bnK h λr2 Z6 h=>have p1 {q p} (k:Scr q p):=(rr (Zee Zw) (rr (J9 Z6) k));itK h (λg1 h=>Zj [((1,1),(1,1024)),((1,2),(1,2048)),((1,4),(2,2048)),((1,5),(2,1024))] 7 (p1 (gg g1 (kk 8 (ln Zg.enc r1.queue ee)))) (Zsy h)) λg1 h=>bnK h λr3 Y2 h=>itK h (λg2 h=>Zj [((1,1),(1,1024)),((1,2),(1,2048)),((1,4),(2,2048)),((1,5),(2,1024))] 7 (p1 (gg g1 (kk 1 (rr (Z77 Y2) (kk 2 (gg g2 (kk 4 (ln Zg.enc r1.queue ee)))))))) (Zsy h)) λg2 h=>Zj [((1,1),(1,1024)),((1,2),(1,2048)),((1,4),(2,2048)),((1,5),(2,1024))] 7 (p1 (gg g1 (kk 1 (rr (Z77 Y2) (kk 2 (gg g2 (kk 2 (lr Zg.enc x0.queue (kk 2 (ln Zg.enc r1.queue ee)))))))))) (Zsy h))
abbrev Z38 (x0:Zc) (x1:Zd) (r:Zc):Y:=(148,[.agg (Zc.enc x0),.agg (Zd.enc x1)],.agg (Zc.enc r),[.undef,.undef])
theorem Zw9 {x0:Zc} {x1:Zd} {r:Zc} {v0:Bool} (h:Zgp x0 x1 v0=some r):CS (Z38 x0 x1 r) Tryz.f148 [1,0,1] [(2,.ptr (1,1) 0 0),(3,.ptr (1,2) 0 0),(4,.ptr (1,3) 0 0),(13,bl v0)] [bx 1 (Zc.enc x0),bx 2 (Zd.enc x1),bx 3 (Zc.enc Zc.z0)]:=
 itK h (λg1 h=>rtK h (gg g1 ee)) λg1 h=>itK h (λg2 h=>rtK h (gg g1 (gg g2 ee))) λg2 h=>rtK h (gg g1 (gg g2 ee))
theorem Yjb {x0:Zc} {x1:Zd} {r:Zc} (h:Zoq x0 x1=some r):Zu Tryz.prog Mo (Z38 x0 x1 r):=
 Zr Tryz.func148 (itK h (λg1 h=>Zj [((1,1),(1,0)),((1,2),(1,1024)),((1,3),(1,2048))] 5 (gg g1 (kk 4 ee)) (Zw9 h)) λg1 h=>bnK h λr0 Zn h=>Zj [((1,1),(1,0)),((1,2),(1,1024)),((1,3),(1,2048))] 5 (gg g1 (kk 2 (rr (Znt Zn) (kk 2 ee)))) (Zw9 h))
abbrev Ydd (x0:Zb) (r:Zb×Bool):Y:=(200,[.agg (Zb.enc x0)],.tup [.agg [.own 104 (r.1.queue.map Zg.enc),il r.1.beat,il r.1.done,il r.1.tries,bl r.1.parted,bl r.1.broken],bl r.2],[.undef])
theorem Z10 {x0:Zb} {r:Zb×Bool} {vb0:Zb} {v0:Bool} (h:Zl4 x0 vb0 v0=some r):CS (Ydd x0 r) Tryz.f200 [1,1,0,1] [(2,.ptr (1,1) 0 0),(4,.ptr (1,3) 0 0),(16,bl v0)] [rx 2 104 ([].map Zg.enc),bx 1 [.sl (1,2) 0 ([].map Zg.enc).length,il 0,il 0,il 0,bl false,bl false],rx 4 104 (vb0.queue.map Zg.enc),bx 3 [.sl (1,4) 0 (vb0.queue.map Zg.enc).length,il vb0.beat,il vb0.done,il vb0.tries,bl vb0.parted,bl vb0.broken]]:=
 itK h (λg1 h=>rtK h (gg g1 (kk 1 (oe Zg.enc vb0.queue ee)))) λg1 h=>rtK h (gg g1 (kk 1 (oe Zg.enc vb0.queue ee)))
theorem Ys4 {x0:Zb} {r:Zb×Bool} (h:Zv9 x0=some r):Zu Tryz.prog Mo (Ydd x0 r):=
 Zr Tryz.func200 (bnK h λr0 Zn h=>bnK h λr1 Zw h=>itK h (λg1 h=>Zj [((1,1),(1,1024)),((1,3),(2,2048)),((1,4),(2,1024))] 7 (rr (Zee Zn) (rr (J9 Zw) (gg g1 (kk 5 (ln Zg.enc r0.queue ee))))) (Z10 h)) λg1 h=>Zj [((1,1),(1,1024)),((1,3),(2,2048)),((1,4),(2,1024))] 7 (rr (Zee Zn) (rr (J9 Zw) (gg g1 (kk 5 (ln Zg.enc r0.queue ee))))) (Z10 h))
abbrev Z4y (x0:Zc) (x1:Zd) (r:Zc):Y:=(201,[.agg (Zc.enc x0),.agg (Zd.enc x1)],.agg (Zc.enc r),[.undef,.undef])
theorem Zwk {x0:Zc} {x1:Zd} {r:Zc} {v0:Bool} (h:Zgm x0 x1 v0=some r):CS (Z4y x0 x1 r) Tryz.f201 [1,0,1] [(2,.ptr (1,1) 0 0),(3,.ptr (1,2) 0 0),(4,.ptr (1,3) 0 0),(11,bl v0)] [bx 1 (Zc.enc x0),bx 2 (Zd.enc x1),bx 3 (Zc.enc Zc.z0)]:=
 itK h (λg1 h=>rtK h (gg g1 ee)) λg1 h=>rtK h (gg g1 ee)
theorem Yju {x0:Zc} {x1:Zd} {r:Zc} (h:Zop x0 x1=some r):Zu Tryz.prog Mo (Z4y x0 x1 r):=
 Zr Tryz.func201 (itK h (λg1 h=>bnK h λr0 Zn h=>Zj [((1,1),(1,0)),((1,2),(1,1024)),((1,3),(1,2048))] 5 (gg g1 (kk 2 (rr (Znt Zn) (kk 1 ee)))) (Zwk h)) λg1 h=>Zj [((1,1),(1,0)),((1,2),(1,1024)),((1,3),(1,2048))] 5 (gg g1 (kk 3 ee)) (Zwk h))
abbrev Ycl (x0:Z2) (x1:Zk) (x2:Int) (r:Z2):Y:=(202,[.agg (Z2.enc x0),.agg (Zk.enc x1),il x2],.agg (Z2.enc r),[.undef,.undef,.undef])
theorem Z17 {x0:Z2} {x1:Zk} {x2:Int} {r:Z2} {v0:Bool} (h:Zlf x0 x1 x2 v0=some r):CS (Ycl x0 x1 x2 r) Tryz.f202 [1,0,1] [(2,il x2),(3,.ptr (1,1) 0 0),(4,.ptr (1,2) 0 0),(6,.ptr (1,3) 0 0),(15,bl v0)] [bx 1 (Z2.enc x0),bx 2 (Zk.enc x1),bx 3 (Z2.enc Z2.z0)]:=
 itK h (λg1 h=>bnK h λr0 Zn h=>rtK h (gg g1 (rr (Z5s Zn) ee))) λg1 h=>rtK h (gg g1 ee)
theorem Yu9 {x0:Z2} {x1:Zk} {x2:Int} {r:Z2} (h:Zvo x0 x1 x2=some r):Zu Tryz.prog Mo (Ycl x0 x1 x2 r):=
 Zr Tryz.func202 (bnK h λr1 Zw h=>itK h (λg1 h=>Zj [((1,1),(1,0)),((1,2),(1,1024)),((1,3),(1,2048))] 5 (rr (Zxc Zw) (gg g1 (kk 4 ee))) (Z17 h)) λg1 h=>Zj [((1,1),(1,0)),((1,2),(1,1024)),((1,3),(1,2048))] 5 (rr (Zxc Zw) (gg g1 (kk 4 ee))) (Z17 h))
abbrev Yt6 (x0:Za) (x1:Zh) (r:Za):Y:=(149,[.agg (Za.ow x0),.agg (Zh.enc x1)],.agg (Za.ow r),[.undef,.undef])
theorem Z31 {x0:Za} {x1:Zh} {r:Za} (h:Zky x0 x1=some r):Zu Tryz.prog Mo (Yt6 x0 x1 r):=
 Zr Tryz.func149 (bnK h λa0 Zz h=>bnK h λr0 Zn h=>bnK h λy0 Wb h=>have p1 {q p} (k:Scr q p):=(xd Zb.enc Zz (rr (Ys4 Zn) (xq Zb.enc Zz y0 (kk 1 (oe Zg.enc r0.1.queue (ob (Zu5 Zb.enc Wb) k))))));itK h (λg1 h=>bnK h λa1 Yv h=>bnK h λa2 Kv h=>bnK h λr1 Zw h=>bnK h λy1 hy1 h=>rtK h (p1 (gg g1 (xd Zc.enc Yv (xd Zd.enc Kv (rr (Yju Zw) (xp Zc.enc Yv hy1 (kk 8 (oe Zd.enc x0.conf.masters (ob (Qm Zb.enc Wb) (ob (Qm Zc.enc hy1) (oe Ze x0.splits (Zi.so x0.model (oe Zm.enc x0.log ee)))))))))))))) λg1 h=>itK h (λg2 h=>bnK h λr2 Z6 h=>rtK h (p1 (gg g1 (gg g2 (kk 1 (oe Zd.enc x0.conf.masters (rr (Yu9 Z6) (kk 8 (oe Zd.enc x0.conf.masters (ob (Qm Zb.enc Wb) (oe Zc.enc x0.buckets (oe Ze x0.splits (Zi.so x0.model (oe Zm.enc x0.log ee)))))))))))))) λg2 h=>rtK h (p1 (gg g1 (gg g2 (kk 8 (oe Zd.enc x0.conf.masters (ob (Qm Zb.enc Wb) (oe Zc.enc x0.buckets (oe Ze x0.splits (Zi.so x0.model (oe Zm.enc x0.log ee)))))))))))
abbrev Yrd (x0:List Int) (x1:Int) (r:Int):Y:=(244,[.tr (x0.map Ze),il x1],il r,[.undef,.undef])
theorem Z95 {x0:List Int} {x1:Int} {r:Int} {v0:Bool} (h:Zzm x0 x1 v0=some r):CS (Yrd x0 x1 r) Tryz.f244 [1,0,1] [(0,.tr (x0.map Ze)),(1,il x1),(11,bl v0)] []:=
 itK h (λg1 h=>rtK h (gg g1 ee)) λg1 h=>bnK h λn0 hn0 h=>bnK h λa0 Zz h=>rtK h (gg g1 (lr Ze x0 (tp (.obl) (ob (nz0 hn0) (xb Ze Zz ee)))))
theorem Z0l {x0:List Int} {x1:Int} {r:Int} (h:Zzk x0 x1=some r):Zu Tryz.prog Mo (Yrd x0 x1 r):=
 Zr Tryz.func244 (itK h (λg1 h=>Zj [] 5 (lr Ze x0 (gg g1 (kk 2 ee))) (Z95 h)) λg1 h=>Zj [] 5 (lr Ze x0 (gg g1 (kk 2 ee))) (Z95 h))
abbrev Yvr (x0:Zk) (x1:Zf) (x2:Int) (r:Int):Y:=(203,[.agg (Zk.enc x0),.agg (Zf.enc x1),il x2],il r,[.undef,.undef,.undef])
theorem Yuz {x0:Zk} {x1:Zf} {x2:Int} {r:Int} (h:Zvt x0 x1 x2=some r):Zu Tryz.prog Mo (Yvr x0 x1 x2 r):=
 Zr Tryz.func203 (bnK h λr0 Zn h=>rtK h (rr (Z0l Zn) ee))
abbrev Yqu (x0:Zg) (x1:Int) (r:Int):Y:=(205,[.agg (Zg.enc x0),il x1],il r,[.undef,.undef])
theorem Z9f {x0:Zg} {x1:Int} {r:Int} (h:Znw x0 x1=some r):Zu Tryz.prog Mo (Yqu x0 x1 r):=
 Zr Tryz.func205 (itK h (λg1 h=>rtK h (gg g1 ee)) λg1 h=>bnK h λa0 Zz h=>rtK h (gg g1 (xb Ze Zz ee)))
abbrev Yb5 (x0:Int) (r:Int):Y:=(211,[il x0],il r,[.undef])
theorem Z1v {x0:Int} {r:Int} {v0:Bool} (h:Ztt x0 v0=some r):CS (Yb5 x0 r) Tryz.f211 [1,0,0,1] [(0,il x0),(3,bl v0)] []:=
 itK h (λg1 h=>rtK h (gg g1 ee)) λg1 h=>itK h (λg2 h=>rtK h (gg g1 (gg g2 ee))) λg2 h=>itK h (λg3 h=>rtK h (gg g1 (gg g2 (gg g3 ee)))) λg3 h=>rtK h (gg g1 (gg g2 (gg g3 ee)))
theorem Z3j {x0:Int} {r:Int} (h:Zv6 x0=some r):Zu Tryz.prog Mo (Yb5 x0 r):=
 Zr Tryz.func211 (itK h (λg1 h=>Zj [] 6 (gg g1 (kk 2 ee)) (Z1v h)) λg1 h=>Zj [] 6 (gg g1 (kk 2 ee)) (Z1v h))
abbrev Yxo (x0:List Int) (x1:Int) (x2:Int) (r:Bool):Y:=(263,[.tr (x0.map Ze),il x1,il x2],bl r,[.undef,.undef,.undef])
theorem Z5z {x0:List Int} {x1:Int} {x2:Int} {r:Bool} (h:Zs0 x0 x1 x2=some r):Zu Tryz.prog Mo (Yxo x0 x1 x2 r):=
 Zr Tryz.func263 (bnK h λr0 Zn h=>itK h (λg1 h=>bnK h λr1 Zw h=>have p1 {q p} (k:Scr q p):=(rr (Zwg Zn) (gg g1 (kk 2 (rr (Zpr Zw) (kk 1 k)))));itK h (λg2 h=>bnK h λr2 Z6 h=>rtK h (p1 (gg g2 (kk 2 (lr Ze x0 (kk 2 (rr (Jp Z6) (kk 3 ee)))))))) λg2 h=>rtK h (p1 (gg g2 (kk 7 ee)))) λg1 h=>rtK h (rr (Zwg Zn) (gg g1 (kk 11 ee))))
abbrev Z6x (x0:List Int) (x1:Int) (x2:Int) (x3:Int) (r:List Int×Bool):Y:=(245,[.tr (x0.map Ze),il x1,il x2,il x3],.tup [.own 3 (r.1.map Ze),bl r.2],[.undef,.undef,.undef,.undef])
theorem Yky {x0:List Int} {x1:Int} {x2:Int} {x3:Int} {r:List Int×Bool}:∀{m:Nat} {v0:Int} {v1:List Int} {v2:Int},Zo8 x0 x1 x2 x3 m v0 v1 v2=some r->CS (Z6x x0 x1 x2 x3 r) Tryz.f245 [1,1,1,0,1,0] [(1,il x1),(2,il x2),(3,il v0),(10,.sl (1,1) 0 (v1.map Ze).length),(11,il v2)] [rx 1 3 (v1.map Ze)]:=by
 intro m
 induction m with
 | zero=>intro v0 v1 v2 h;cases h
 | succ m ih=>exactλ{v0} {v1} {v2} h=>bnK h λr0 Zn h=>itK h (λg1 h=>bnK h λa0 Zz h=>bnK h λy0 Wb h=>Zj [((1,1),(1,1))] 13 (rr (Jp Zn) (gg g1 (kk 1 (xp Ze Zz Wb (kk 1 (tp (.num (y0.map Ze).length 0 0 []) (ob (Qm Ze Wb) ee))))))) (ih h)) λg1 h=>rtK h (rr (Jp Zn) (gg g1 (kk 1 (oe Ze v1 ee))))
theorem Z4k {x0:List Int} {x1:Int} {x2:Int} {x3:Int} {r:List Int×Bool} {v1:List Int} {v3:Bool} (h:Zok x0 x1 x2 x3 v1 v3=some r):CS (Z6x x0 x1 x2 x3 r) Tryz.f245 [1,1,0,1] [(1,il x1),(2,il x2),(3,il x3),(10,.sl (1,1) 0 (v1.map Ze).length),(27,bl v3)] [rx 1 3 (v1.map Ze)]:=
 itK h (λg1 h=>rtK h (gg g1 (kk 1 (oe Ze v1 ee)))) λg1 h=>Zj [((1,1),(1,1))] 6 (gg g1 (ln Ze v1 ee)) (Yky h)
theorem Yzl {x0:List Int} {x1:Int} {x2:Int} {x3:Int} {r:List Int×Bool} (h:Zyy x0 x1 x2 x3=some r):Zu Tryz.prog Mo (Z6x x0 x1 x2 x3 r):=
 Zr Tryz.func245 (bnK h λz0 W3 h=>bnK h λr1 Zw h=>have p1 {q p} (k:Scr q p):=(ta Ze x0 z0 (ol 1 Zcs Zqw x0 (ob (apl Ze W3) (ob (apm Ze W3) (oe Ze z0 (rr (Z5z Zw) k))))));itK h (λg1 h=>Zj [((1,1),(2,2048))] 7 (p1 (gg g1 (kk 6 (ln Ze z0 ee)))) (Z4k h)) λg1 h=>bnK h λr2 Z6 h=>bnK h λr3 Y2 h=>Zj [((1,1),(2,2048))] 7 (p1 (gg g1 (kk 2 (rr (Zc1 Z6) (kk 2 (rr (Z4 Y2) (kk 2 (ln Ze z0 ee)))))))) (Z4k h))
abbrev Zrf (x0:Zo) (x1:Bool) (x2:Int) (x3:Int) (r:Zo×Int×Bool):Y:=(247,[.agg (Zo.enc x0),bl x1,il x2,il x3],.tup [.agg (Zo.ow r.1),il r.2.1,bl r.2.2],[.undef,.undef,.undef,.undef])
theorem Zxq {x0:Zo} {x1:Bool} {x2:Int} {x3:Int} {r:Zo×Int×Bool} {vb0:Zo} {v0:Bool} (h:Zkj x0 x1 x2 x3 vb0 v0=some r):CS (Zrf x0 x1 x2 x3 r) Tryz.f247 [1,1,1,0,0,1,1,1,1,1,1,1,1,1,1,1] [(8,.ptr (1,1) 0 0),(11,.ptr (1,4) 0 0),(101,bl v0)] (Zo.bk Zo.z0 2++[bx 1 (Zo.rl Zo.z0 2)]++Zo.bk vb0 5++[bx 4 (Zo.rl vb0 5)]):=
 itK h (λg1 h=>bnK h λa0 Zz h=>bnK h λs0 hs0 h=>rtK h (gg g1 (xd Ze Zz (tp (.num (1:Int).toNat ((vb0.fifo.length:Int):Int).toNat (((vb0.fifo.length:Int):Int).toNat - (1:Int).toNat) []) (kk 2 (tp (.mk 0 (s0.map Ze)) (oe Ze vb0.fifo (ob (sln hs0).1 (ob (Yji Ze vb0.fifo) (ob (sll Ze hs0) (ob (alr 1 Zcs vb0.fifo) (ob (Eq.refl (((vb0.fifo.length:Int):Int).toNat - (1:Int).toNat)) (oe Ze vb0.regs (ob (sla Ze hs0) (ob (slr Ze hs0) ee))))))))))))))) λg1 h=>rtK h (gg g1 (kk 2 (Zo.so vb0 ee)))
theorem Zxl {x0:Zo} {x1:Bool} {x2:Int} {x3:Int} {r:Zo×Int×Bool} {vb0:Zo} {v1:Bool} (h:Zkk x0 x1 x2 x3 vb0 v1=some r):CS (Zrf x0 x1 x2 x3 r) Tryz.f247 [1,1,1,0,0,1,1,1,1,1,1,1,1,1] [(1,bl x1),(2,il x2),(3,il x3),(8,.ptr (1,1) 0 0),(11,.ptr (1,4) 0 0),(81,bl v1)] (Zo.bk Zo.z0 2++[bx 1 (Zo.rl Zo.z0 2)]++Zo.bk vb0 5++[bx 4 (Zo.rl vb0 5)]):=
 itK h (λg1 h=>bnK h λz0 W3 h=>rtK h (gg g1 (ta Ze [x3] z0 (kk 3 (oa 1 Zcs x3 (ox Ze W3 (oe Ze z0 (oe Ze vb0.regs (oe Ze z0 ee))))))))) λg1 h=>itK h (λg2 h=>itK h (λg3 h=>Zj (ffi 1 6) 3 (gg g1 (gg g2 (kk 2 (gg g3 (kk 2 (lr Ze vb0.fifo (kk 2 (Zo.sc Zo.z0 (Zo.sc vb0 ee))))))))) (Zxq h)) λg3 h=>Zj (ffi 1 6) 3 (gg g1 (gg g2 (kk 2 (gg g3 (kk 4 (Zo.sc Zo.z0 (Zo.sc vb0 ee))))))) (Zxq h)) λg2 h=>Zj (ffi 1 6) 3 (gg g1 (gg g2 (kk 7 (Zo.sc Zo.z0 (Zo.sc vb0 ee))))) (Zxq h)
theorem Z7h {x0:Zo} {x1:Bool} {x2:Int} {x3:Int} {r:Zo×Int×Bool} {vb0:Zo} {v2:Bool} (h:Zqr x0 x1 x2 x3 vb0 v2=some r):CS (Zrf x0 x1 x2 x3 r) Tryz.f247 [1,1,1,0,0,1,1,1,1,1] [(1,bl x1),(2,il x2),(3,il x3),(8,.ptr (1,1) 0 0),(11,.ptr (1,4) 0 0),(59,bl v2)] (Zo.bk Zo.z0 2++[bx 1 (Zo.rl Zo.z0 2)]++Zo.bk vb0 5++[bx 4 (Zo.rl vb0 5)]):=
 itK h (λg1 h=>rtK h (gg g1 (kk 2 (Zo.so vb0 ee)))) λg1 h=>itK h (λg2 h=>bnK h λr0 Zn h=>bnK h λn0 hn0 h=>rtK h (gg g1 (gg g2 (rr (Zc1 Zn) (tp (.obl) (kk 2 (ob (nz0 hn0) (Zo.so vb0 ee)))))))) λg2 h=>itK h (λg3 h=>itK h (λg4 h=>Zj (ffi 1 6) 6 (gg g1 (gg g2 (gg g3 (kk 1 (gg g4 (kk 2 (lr Ze vb0.fifo (kk 2 (Zo.sc Zo.z0 (Zo.sc vb0 ee)))))))))) (Zxl h)) λg4 h=>Zj (ffi 1 6) 6 (gg g1 (gg g2 (gg g3 (kk 1 (gg g4 (kk 4 (Zo.sc Zo.z0 (Zo.sc vb0 ee)))))))) (Zxl h)) λg3 h=>Zj (ffi 1 6) 6 (gg g1 (gg g2 (gg g3 (kk 6 (Zo.sc Zo.z0 (Zo.sc vb0 ee)))))) (Zxl h)
theorem Z7i {x0:Zo} {x1:Bool} {x2:Int} {x3:Int} {r:Zo×Int×Bool} {vb0:Zo} {v3:Bool} (h:Zqo x0 x1 x2 x3 vb0 v3=some r):CS (Zrf x0 x1 x2 x3 r) Tryz.f247 [1,1,1,0,0,1] [(1,bl x1),(2,il x2),(3,il x3),(8,.ptr (1,1) 0 0),(11,.ptr (1,4) 0 0),(35,bl v3)] (Zo.bk Zo.z0 2++[bx 1 (Zo.rl Zo.z0 2)]++Zo.bk vb0 5++[bx 4 (Zo.rl vb0 5)]):=
 itK h (λg1 h=>bnK h λa1 Yv h=>bnK h λy0 Wb h=>rtK h (gg g1 (kk 1 (xp Ze Yv Wb (kk 2 (ob (Qm Ze Wb) (oe Ze vb0.fifo ee))))))) λg1 h=>bnK h λr1 Zw h=>itK h (λg2 h=>bnK h λa2 Kv h=>rtK h (gg g1 (rr (Z4 Zw) (gg g2 (kk 1 (xd Ze Kv (kk 2 (Zo.so vb0 ee)))))))) λg2 h=>itK h (λg3 h=>Zj (ffi 1 6) 6 (gg g1 (rr (Z4 Zw) (gg g2 (gg g3 (kk 1 (Zo.sc Zo.z0 (Zo.sc vb0 ee))))))) (Z7h h)) λg3 h=>Zj (ffi 1 6) 6 (gg g1 (rr (Z4 Zw) (gg g2 (gg g3 (kk 1 (Zo.sc Zo.z0 (Zo.sc vb0 ee))))))) (Z7h h)
theorem Zqh {x0:Zo} {x1:Bool} {x2:Int} {x3:Int} {r:Zo×Int×Bool} {vb0:Zo} {v4:Bool} (h:Zaf x0 x1 x2 x3 vb0 v4=some r):CS (Zrf x0 x1 x2 x3 r) Tryz.f247 [1,1,0,1] [(1,bl x1),(2,il x2),(3,il x3),(8,.ptr (1,1) 0 0),(11,.ptr (1,4) 0 0),(33,bl v4)] (Zo.bk Zo.z0 2++[bx 1 (Zo.rl Zo.z0 2)]++Zo.bk vb0 5++[bx 4 (Zo.rl vb0 5)]):=
 itK h (λg1 h=>rtK h (gg g1 (kk 2 (Zo.so vb0 ee)))) λg1 h=>bnK h λr2 Z6 h=>itK h (λg2 h=>Zj (ffi 1 6) 6 (gg g1 (rr (Z4 Z6) (gg g2 (kk 1 (Zo.sc Zo.z0 (Zo.sc vb0 ee)))))) (Z7i h)) λg2 h=>Zj (ffi 1 6) 6 (gg g1 (rr (Z4 Z6) (gg g2 (kk 1 (Zo.sc Zo.z0 (Zo.sc vb0 ee)))))) (Z7i h)
theorem Yl9 {x0:Zo} {x1:Bool} {x2:Int} {x3:Int} {r:Zo×Int×Bool} (h:Z2i x0 x1 x2 x3=some r):Zu Tryz.prog Mo (Zrf x0 x1 x2 x3 r):=
 Zr Tryz.func247 (bnK h λr3 Y2 h=>bnK h λr4 Qh h=>have p1 {q p} (k:Scr q p):=(rr (Ygv Y2) (rr (Ylp Qh) k));itK h (λg1 h=>Zj ([((1,1),(1,1024)),((1,4),(2,2048))]++Zo.ff 5 2 1024) 7 (p1 (gg g1 (kk 7 (Zo.sc r3 ee)))) (Zqh h)) λg1 h=>itK h (λg2 h=>Zj ([((1,1),(1,1024)),((1,4),(2,2048))]++Zo.ff 5 2 1024) 7 (p1 (gg g1 (kk 4 (gg g2 (kk 3 (Zo.sc r3 ee)))))) (Zqh h)) λg2 h=>itK h (λg3 h=>bnK h λr5 hr5 h=>bnK h λr6 hr6 h=>Zj ([((1,1),(1,1024)),((1,4),(2,2048))]++Zo.ff 5 2 1024) 7 (p1 (gg g1 (kk 4 (gg g2 (kk 1 (gg g3 (kk 1 (rr (Zc1 hr5) (kk 2 (rr (Z4 hr6) (kk 4 (Zo.sc r3 ee)))))))))))) (Zqh h)) λg3 h=>Zj ([((1,1),(1,1024)),((1,4),(2,2048))]++Zo.ff 5 2 1024) 7 (p1 (gg g1 (kk 4 (gg g2 (kk 1 (gg g3 (kk 7 (Zo.sc r3 ee)))))))) (Zqh h))
abbrev Ygg (x0:List Int) (x1:Int) (x2:Int) (r:Int×Bool):Y:=(246,[.tr (x0.map Ze),il x1,il x2],.tup [il r.1,bl r.2],[.undef,.undef,.undef])
theorem Yj4 {x0:List Int} {x1:Int} {x2:Int} {r:Int×Bool}:∀{m:Nat} {v0:Int} {v1:Int},Zo2 x0 x1 x2 m v0 v1=some r->CS (Ygg x0 x1 x2 r) Tryz.f246 [1,1,1,0,1,0] [(0,.tr (x0.map Ze)),(1,il x1),(8,il v0),(9,il v1)] []:=by
 intro m
 induction m with
 | zero=>intro v0 v1 h;cases h
 | succ m ih=>exactλ{v0} {v1} h=>itK h (λg1 h=>bnK h λa0 Zz h=>Zj [] 11 (gg g1 (xb Ze Zz ee)) (ih h)) λg1 h=>rtK h (gg g1 ee)
theorem Yxr {x0:List Int} {x1:Int} {x2:Int} {r:Int×Bool} (h:Zx7 x0 x1 x2=some r):Zu Tryz.prog Mo (Ygg x0 x1 x2 r):=
 Zr Tryz.func246 (bnK h λr0 Zn h=>itK h (λg1 h=>rtK h (rr (Z5z Zn) (gg g1 ee))) λg1 h=>bnK h λr1 Zw h=>Zj [] 13 (rr (Z5z Zn) (gg g1 (rr (Jp Zw) ee))) (Yj4 h))
abbrev Zv4 (x0:Zi) (x1:Bool) (x2:Int) (x3:Int) (x4:Int) (r:Zi×Int×Int):Y:=(204,[.agg (Zi.enc x0),bl x1,il x2,il x3,il x4],.tup [.agg (Zi.ow r.1),il r.2.1,il r.2.2],[.undef,.undef,.undef,.undef,.undef])
theorem Z16 {x0:Zi} {x1:Bool} {x2:Int} {x3:Int} {x4:Int} {r:Zi×Int×Int} {vb0:Zi} {vb1:Zo} {v0:Int} {v1:Bool} (h:Zmh x0 x1 x2 x3 x4 vb0 vb1 v0 v1=some r):CS (Zv4 x0 x1 x2 x3 x4 r) Tryz.f204 [1,1,1,0,1,0,1,1,1,0,1,1] [(10,.ptr (1,1) 0 0),(13,.ptr (1,5) 0 0),(16,.ptr (1,9) 0 0),(17,il v0),(87,bl v1)] (Zi.bk Zi.z0 2++[bx 1 (Zi.rl Zi.z0 2)]++Zi.bk vb0 6++[bx 5 (Zi.rl vb0 6)]++Zo.bk vb1 10++[bx 9 (Zo.rl vb1 10)]):=
 itK h (λg1 h=>rtK h (gg g1 (kk 3 (oe Ze vb0.mem (Zo.so vb1 ee))))) λg1 h=>rtK h (gg g1 (kk 3 (Zi.so vb0 ee)))
theorem Z2f {x0:Zi} {x1:Bool} {x2:Int} {x3:Int} {x4:Int} {r:Zi×Int×Int} {vb2:Zi} {v2:Int} {v3:Bool} (h:Zmf x0 x1 x2 x3 x4 vb2 v2 v3=some r):CS (Zv4 x0 x1 x2 x3 x4 r) Tryz.f204 [1,1,1,0,1,0,1] [(1,bl x1),(2,il x2),(3,il x3),(4,il x4),(5,.ptr (1,1) 0 0),(10,.ptr (1,2) 0 0),(13,.ptr (1,6) 0 0),(43,il v2),(44,bl v3)] ([bx 1 (Zi.enc x0)]++Zi.bk Zi.z0 3++[bx 2 (Zi.rl Zi.z0 3)]++Zi.bk vb2 7++[bx 6 (Zi.rl vb2 7)]):=
 itK h (λg1 h=>itK h (λg2 h=>bnK h λr0 Zn h=>rtK h (gg g1 (gg g2 (rr (Yzl Zn) (kk 3 (oe Ze r0.1 (Zo.so vb2.dev ee))))))) λg2 h=>bnK h λr1 Zw h=>rtK h (gg g1 (gg g2 (rr (Yxr Zw) (kk 3 (Zi.so vb2 ee)))))) λg1 h=>itK h (λg2 h=>bnK h λr2 Z6 h=>itK h (λg3 h=>Zj ([((1,1),(1,2)),((1,2),(1,3)),((1,3),(1,4)),((1,4),(1,5)),((1,5),(1,6)),((1,6),(1,7)),((1,7),(1,8)),((1,8),(1,9)),((1,9),(3,11264))]++Zo.ff 10 3 6144) 8 (gg g1 (gg g2 (rr (Yl9 Z6) (gg g3 (kk 1 (Zi.sc Zi.z0 (Zi.sc vb2 (Zo.sc r2.1 ee)))))))) (Z16 h)) λg3 h=>Zj ([((1,1),(1,2)),((1,2),(1,3)),((1,3),(1,4)),((1,4),(1,5)),((1,5),(1,6)),((1,6),(1,7)),((1,7),(1,8)),((1,8),(1,9)),((1,9),(3,11264))]++Zo.ff 10 3 6144) 8 (gg g1 (gg g2 (rr (Yl9 Z6) (gg g3 (kk 1 (Zi.sc Zi.z0 (Zi.sc vb2 (Zo.sc r2.1 ee)))))))) (Z16 h)) λg2 h=>rtK h (gg g1 (gg g2 (kk 3 (Zi.so vb2 ee))))
theorem Zl1 {x0:Zi} {x1:Bool} {x2:Int} {x3:Int} {x4:Int} {r:Zi×Int×Int} {vb2:Zi} {v4:Bool} (h:K2 x0 x1 x2 x3 x4 vb2 v4=some r):CS (Zv4 x0 x1 x2 x3 x4 r) Tryz.f204 [1,1,0,1] [(1,bl x1),(2,il x2),(3,il x3),(4,il x4),(5,.ptr (1,1) 0 0),(10,.ptr (1,2) 0 0),(13,.ptr (1,6) 0 0),(40,bl v4)] ([bx 1 (Zi.enc x0)]++Zi.bk Zi.z0 3++[bx 2 (Zi.rl Zi.z0 3)]++Zi.bk vb2 7++[bx 6 (Zi.rl vb2 7)]):=
 itK h (λg1 h=>rtK h (gg g1 (kk 3 (Zi.so vb2 ee)))) λg1 h=>bnK h λr3 Y2 h=>itK h (λg2 h=>Zj (ffi 1 9) 11 (gg g1 (rr (Z3j Y2) (gg g2 (Zi.sc Zi.z0 (Zi.sc vb2 ee))))) (Z2f h)) λg2 h=>Zj (ffi 1 9) 11 (gg g1 (rr (Z3j Y2) (gg g2 (Zi.sc Zi.z0 (Zi.sc vb2 ee))))) (Z2f h)
theorem Yc4 {x0:Zi} {x1:Bool} {x2:Int} {x3:Int} {x4:Int} {r:Zi×Int×Int} (h:Zpq x0 x1 x2 x3 x4=some r):Zu Tryz.prog Mo (Zv4 x0 x1 x2 x3 x4 r):=
 Zr Tryz.func204 (bnK h λr4 Qh h=>bnK h λr5 hr5 h=>have p1 {q p} (k:Scr q p):=(rr (Yhu Qh) (rr (Yb4 hr5) k));itK h (λg1 h=>Zj ([((1,1),(1,0)),((1,2),(1,1024)),((1,6),(2,2048))]++Zi.ff 7 2 1024) 7 (p1 (gg g1 (kk 8 (Zi.sc r4 ee)))) (Zl1 h)) λg1 h=>bnK h λr6 hr6 h=>have p2 {q p} (k:Scr q p):=(p1 (gg g1 (kk 2 (rr (Zpr hr6) (kk 2 k)))));itK h (λg2 h=>Zj ([((1,1),(1,0)),((1,2),(1,1024)),((1,6),(2,2048))]++Zi.ff 7 2 1024) 7 (p2 (gg g2 (kk 3 (Zi.sc r4 ee)))) (Zl1 h)) λg2 h=>itK h (λg3 h=>bnK h λr7 hr7 h=>bnK h λr8 hr8 h=>Zj ([((1,1),(1,0)),((1,2),(1,1024)),((1,6),(2,2048))]++Zi.ff 7 2 1024) 7 (p2 (gg g2 (kk 1 (gg g3 (kk 2 (rr (Zc1 hr7) (kk 2 (rr (Z4 hr8) (kk 4 (Zi.sc r4 ee)))))))))) (Zl1 h)) λg3 h=>Zj ([((1,1),(1,0)),((1,2),(1,1024)),((1,6),(2,2048))]++Zi.ff 7 2 1024) 7 (p2 (gg g2 (kk 1 (gg g3 (kk 8 (Zi.sc r4 ee)))))) (Zl1 h))
abbrev Yg9 (x0:Zb) (r:Zb×Bool):Y:=(206,[.agg (Zb.enc x0)],.tup [.agg [.own 104 (r.1.queue.map Zg.enc),il r.1.beat,il r.1.done,il r.1.tries,bl r.1.parted,bl r.1.broken],bl r.2],[.undef])
theorem Z4c {x0:Zb} {r:Zb×Bool} {vb0:Zb} {v0:Bool} (h:Zow x0 vb0 v0=some r):CS (Yg9 x0 r) Tryz.f206 [1,1,0,1] [(1,.ptr (1,1) 0 0),(2,.ptr (1,2) 0 0),(4,.ptr (1,4) 0 0),(16,bl v0)] [bx 1 (Zb.enc x0),rx 3 104 ([].map Zg.enc),bx 2 [.sl (1,3) 0 ([].map Zg.enc).length,il 0,il 0,il 0,bl false,bl false],rx 5 104 (vb0.queue.map Zg.enc),bx 4 [.sl (1,5) 0 (vb0.queue.map Zg.enc).length,il vb0.beat,il vb0.done,il vb0.tries,bl vb0.parted,bl vb0.broken]]:=
 itK h (λg1 h=>rtK h (gg g1 (kk 1 (oe Zg.enc vb0.queue ee)))) λg1 h=>bnK h λr0 Zn h=>itK h (λg2 h=>bnK h λs0 hs0 h=>rtK h (gg g1 (rr (Ze5 Zn) (gg g2 (tp (.num (1:Int).toNat ((vb0.queue.length:Int):Int).toNat (((vb0.queue.length:Int):Int).toNat - (1:Int).toNat) []) (kk 1 (tp (.mk 0 (s0.map Zg.enc)) (oe Zg.enc vb0.queue (ob (sln hs0).1 (ob (Yji Zg.enc vb0.queue) (ob (sll Zg.enc hs0) (ob (alr 6 Zg.enc_len vb0.queue) (ob (Eq.refl (((vb0.queue.length:Int):Int).toNat - (1:Int).toNat)) (ob (sla Zg.enc hs0) (ob (slr Zg.enc hs0) ee))))))))))))))) λg2 h=>rtK h (gg g1 (rr (Ze5 Zn) (gg g2 (kk 1 (oe Zg.enc vb0.queue ee)))))
theorem Yyh {x0:Zb} {r:Zb×Bool} (h:Zx9 x0=some r):Zu Tryz.prog Mo (Yg9 x0 r):=
 Zr Tryz.func206 (bnK h λr1 Zw h=>bnK h λr2 Z6 h=>itK h (λg1 h=>Zj [((1,1),(1,0)),((1,2),(1,1024)),((1,4),(2,2048)),((1,5),(2,1024))] 7 (rr (Zee Zw) (rr (J9 Z6) (gg g1 (kk 5 (ln Zg.enc r1.queue ee))))) (Z4c h)) λg1 h=>Zj [((1,1),(1,0)),((1,2),(1,1024)),((1,4),(2,2048)),((1,5),(2,1024))] 7 (rr (Zee Zw) (rr (J9 Z6) (gg g1 (kk 5 (ln Zg.enc r1.queue ee))))) (Z4c h))
abbrev Z7d (x0:Za) (x1:Zf) (r:Za):Y:=(150,[.agg (Za.ow x0),.agg (Zf.enc x1)],.agg (Za.ow r),[.undef,.undef])
theorem Zxw {x0:Za} {x1:Zf} {r:Za} {vb0:Za} {vb1:Zb} {vb2:Zm} (h:Zdx x0 x1 vb0 vb1 vb2=some r):CS (Z7d x0 x1 r) Tryz.f150 [1,1,1,1,1,1,1,1] [(2,.ptr (1,1) 0 0),(4,.ptr (1,10) 0 0),(5,.ptr (1,19) 0 0),(6,.ptr (1,20) 0 0),(8,.ptr (1,21) 0 0)] (Za.bk vb0 2++[bx 1 (Za.rl vb0 2)]++Za.bk Za.z0 11++[bx 10 (Za.rl Za.z0 11),bx 19 (Zh.enc x0.data_),bx 20 (Zb.enc vb1),bx 21 (Zm.enc vb2)]):=
 bnK h λz0 W3 h=>bnK h λr0 Zn h=>bnK h λa0 Zz h=>bnK h λy0 Wb h=>have p1 {q p} (k:Scr q p):=(ta Zm.enc [vb2] z0 (kk 1 (oa 7 Zm.enc_len vb2 (ox Zm.enc W3 (oe Zm.enc z0 (rr (Yyh Zn) (xq Zb.enc Zz y0 (kk 1 (oe Zg.enc r0.1.queue (ob (Zu5 Zb.enc Wb) k))))))))));itK h (λg1 h=>itK h (λg2 h=>rtK h (p1 (gg g1 (kk 3 (gg g2 (kk 8 (oe Zd.enc vb0.conf.masters (ob (Qm Zb.enc Wb) (oe Zc.enc vb0.buckets (oe Ze vb0.splits (Zi.so vb0.model (oe Zm.enc z0 ee)))))))))))) λg2 h=>rtK h (p1 (gg g1 (kk 3 (gg g2 (kk 8 (oe Zd.enc vb0.conf.masters (ob (Qm Zb.enc Wb) (oe Zc.enc vb0.buckets (oe Ze vb0.splits (Zi.so vb0.model (oe Zm.enc z0 ee)))))))))))) λg1 h=>rtK h (p1 (gg g1 (kk 12 (oe Zd.enc vb0.conf.masters (ob (Qm Zb.enc Wb) (oe Zc.enc vb0.buckets (oe Ze vb0.splits (Zi.so vb0.model (oe Zm.enc z0 ee)))))))))
theorem Ymz {x0:Za} {x1:Zf} {r:Za} (h:Zqp x0 x1=some r):Zu Tryz.prog Mo (Z7d x0 x1 r):=
 Zr Tryz.func150 (bnK h λa1 Yv h=>itK h (λg1 h=>bnK h λy1 hy1 h=>bnK h λr1 Zw h=>rtK h (xd Zb.enc Yv (gg g1 (xp Zb.enc Yv hy1 (kk 8 (oe Zd.enc x0.conf.masters (ob (Qm Zb.enc hy1) (oe Zc.enc x0.buckets (oe Ze x0.splits (Zi.so x0.model (oe Zm.enc x0.log (rr (Z31 Zw) (kk 8 (Za.so r1 ee)))))))))))))) λg1 h=>itK h (λg2 h=>bnK h λy2 hy2 h=>bnK h λr2 Z6 h=>bnK h λa2 Kv h=>bnK h λy3 hy3 h=>bnK h λr3 Y2 h=>rtK h (xd Zb.enc Yv (gg g1 (gg g2 (xp Zb.enc Yv hy2 (kk 1 (oe Zd.enc x0.conf.masters (rr (Yuz Z6) (xp Ze Kv hy3 (kk 8 (oe Zd.enc x0.conf.masters (ob (Qm Zb.enc hy2) (oe Zc.enc x0.buckets (ob (Qm Ze hy3) (Zi.so x0.model (oe Zm.enc x0.log (rr (Z31 Y2) (kk 8 (Za.so r3 ee))))))))))))))))))) λg2 h=>bnK h λa3 ha3 h=>bnK h λr4 Qh h=>have p1 {q p} (k:Scr q p):=(xd Zb.enc Yv (gg g1 (gg g2 (xb Zg.enc ha3 (rr (Zpu Qh) k)))));itK h (λg3 h=>bnK h λr5 hr5 h=>bnK h λr6 hr6 h=>Zj [((1,1),(1,0)),((1,2),(0,0)),((1,3),(0,7)),((1,4),(0,10)),((1,5),(0,11)),((1,6),(11,12288)),((1,7),(11,12289)),((1,8),(11,12291)),((1,9),(0,36)),((1,10),(1,2048)),((1,19),(2,2048)),((1,20),(4,6144)),((1,21),(9,15360))] 29 (p1 (gg g3 (rr (Z9f hr5) (kk 3 (Zi.so x0.model (rr (Yc4 hr6) (Za.sc {x0 with data_:=Zh.z0,model:=r6.1} ee))))))) (Zxw h)) λg3 h=>Zj ([((1,1),(1,0))]++Za.ff 2 0 0++[((1,10),(1,2048)),((1,19),(2,2048)),((1,20),(4,6144)),((1,21),(9,15360))]) 29 (p1 (gg g3 (Za.sc {x0 with data_:=Zh.z0} ee))) (Zxw h))
abbrev Yxp (x0:Zf) (x1:Int) (r:Int):Y:=(212,[.agg (Zf.enc x0),il x1],il r,[.undef,.undef])
theorem Yw5 {x0:Zf} {x1:Int} {r:Int} (h:Zyt x0 x1=some r):Zu Tryz.prog Mo (Yxp x0 x1 r):=
 Zr Tryz.func212 (bnK h λr0 Zn h=>itK h (λg1 h=>rtK h (rr (Z0l Zn) (gg g1 (kk 3 ee)))) λg1 h=>itK h (λg2 h=>rtK h (rr (Z0l Zn) (gg g1 (kk 2 (gg g2 ee))))) λg2 h=>rtK h (rr (Z0l Zn) (gg g1 (kk 2 (gg g2 ee)))))
abbrev Yzk (x0:Zk) (x1:Zf) (x2:Int) (r:Int):Y:=(213,[.agg (Zk.enc x0),.agg (Zf.enc x1),il x2],il r,[.undef,.undef,.undef])
theorem Yzp {x0:Zk} {x1:Zf} {x2:Int} {r:Int} (h:Zy0 x0 x1 x2=some r):Zu Tryz.prog Mo (Yzk x0 x1 x2 r):=
 Zr Tryz.func213 (bnK h λr0 Zn h=>rtK h (rr (Z0l Zn) ee))
abbrev Zbp (x0:Za) (x1:Zf) (r:Za):Y:=(152,[.agg (Za.ow x0),.agg (Zf.enc x1)],.agg (Za.ow r),[.undef,.undef])
end Go.Proofs.YtagdmghmblplbaaGreat.Ev
