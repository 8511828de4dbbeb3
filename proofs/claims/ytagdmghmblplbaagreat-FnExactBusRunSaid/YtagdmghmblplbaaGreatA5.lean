/- A part of the proof of FnExactBusRun: see the text YtagdmghmblplbaaGreatLawFnExactBusRun for what is proved and its conditions. Conditions here: those in each line. -/
import Derived.Test.YtagdmghmblplbaaGreatA4
set_option linter.unusedSimpArgs false
set_option linter.unusedVariables false
set_option linter.unusedSectionVars false
namespace Go.Proofs.YtagdmghmblplbaaGreat.Ev
open Go Go.Proofs
variable [Anchor]
def Mo:Yt:=⟨λf=>(List.lookup f [(17,[.iov,.rd]),(18,[.iov,.rd]),(19,[.iov,.rd]),(27,[.iov,.rd]),(28,[.iov,.rd]),(40,[.iov,.rd]),(56,[.iov,.rd]),(57,[.iov,.rd]),(73,[.iov,.rd]),(74,[.iov,.rd]),(75,[.iov,.rd]),(76,[.iov,.rd]),(129,[.iov,.rd]),(173,[.io]),(226,[.io]),(228,[.io]),(233,[.io]),(175,[.io]),(97,[.io]),(172,[.io,.rd,.io]),(149,[.mv]),(150,[.mv]),(152,[.mv]),(151,[.mv]),(251,[.mv,.rd])]).getD [],λ_=>false⟩
abbrev Y:=FuncId×List V×V×List V
abbrev RF (fn:Func) (y:Y):Ex->St->Prop:=Ydy Tryz.prog Mo y.1 fn y.2.1 y.2.2
theorem Yy4 {P:Program} (hm:P.follows .mixedOrders=true) (h:P.funcs.toList.all (λfn=>(match fn.body with|some c=>Kf fn.ntmps c|none=>true)&&!(fn.name == "runtime.NumGoroutine"))=true):Yo P:=by
 rw[ZZk] at h;refine⟨hm,λf fn c hf hc=>?_,λf fn hf=>?_⟩
 .have:=h fn (Array.mem_toList_iff.2 (Vef hf))
  rw[hc] at this;simp only[ZZg] at this;exact this.1
 .have:=h fn (Array.mem_toList_iff.2 (Vef hf))
  simp only[ZZg,Vb2] at this;exact this.2
theorem fOk:Yo Tryz.prog:=Yy4 (by kernel_rfl) (by kernel_rfl)
theorem bnK {α β:Type} {x:Option α} {f:α->Option β} {b:β} {G:Prop} (h:x.bind f=some b) (k:∀a,x=some a->f a=some b->G):G:=by
 obtain⟨a,h1,h2⟩:=Y3m h;exact k a h1 h2
theorem itK {β:Type} {t:Bool} {x y:Option β} {b:β} {G:Prop} (h:(if t=true then x else y)=some b) (k1:t=true->x=some b->G) (k2:t=false->y=some b->G):G:=by
 rcases Y30 h with⟨h1,h2⟩|⟨h1,h2⟩
 .exact k1 h1 h2
 .exact k2 h1 h2
theorem rtQ {α:Type} {F:α->Y} {fn:Func} {a r:α} {p:Prop} {stk:List It} {s:St} (h:some a=some r) (q:List O) (hp:p) (e:Z9b (runK Tryz.prog Mo (F a).1 fn (F a).2.1 100000 stk s q)=some (p,(F a).2.2):=by kernel_rfl):SX Tryz.prog (RF fn (F r)) stk .normal s:=by
 cases h;exact Yv4 fOk 100000 q hp e
theorem rtK {α:Type} {F:α->Y} {fn:Func} {a r:α} {p:Prop} {stk:List It} {s:St} {q:List O} (h:some a=some r) (hp:Scr q p) (e:Z9b (runK Tryz.prog Mo (F a).1 fn (F a).2.1 100000 stk s q)=some (p,(F a).2.2):=by kernel_rfl):SX Tryz.prog (RF fn (F r)) stk .normal s:=by
 cases h;exact Yv4 fOk 100000 q hp e
theorem cutQ {y:Y} {fn:Func} {stk k2:List It} {s:St} {p:Prop} {l:List (Nat×V)} {h:List (Id×Blk)} {ep:Nat} (f:List (Id×Id)) (n:Nat) (q:List O) (hp:p) (hn:SX Tryz.prog (RF fn y) k2 .normal (mkS l h ep))
  (e:Z9b (cutK Tryz.prog Mo f l h n stk s q)=some (p,(k2,Ydw f l h)):=by kernel_rfl) (hb:(isC k2&&cutB f l h ep)=true:=by kernel_rfl):SX Tryz.prog (RF fn y) stk .normal s:=Yvf (M:=Mo) fOk f n q hp hn e hb
theorem Zk {y:Y} {fn:Func} {stk k2:List It} {s:St} {p:Prop} {l:List (Nat×V)} {h:List (Id×Blk)} {ep:Nat} {q:List O} (f:List (Id×Id)) (n:Nat) (hp:Scr q p) (hn:SX Tryz.prog (RF fn y) k2 .normal (mkS l h ep))
  (e:Z9b (cutK Tryz.prog Mo f l h n stk s q)=some (p,(k2,Ydw f l h)):=by kernel_rfl) (hb:(isC k2&&cutB f l h ep)=true:=by kernel_rfl):SX Tryz.prog (RF fn y) stk .normal s:=Yvf (M:=Mo) fOk f n q hp hn e hb
theorem Zt {α:Type} {F:α->Y} {fn:Func} {r:α} (hfn:Tryz.prog.funcs[(F r).1]?=some fn) (h:SX Tryz.prog (RF fn (F r)) [.c (Xd fn)] .normal (entS Mo (F r).1 (F r).2.1)) (hc:fn.body=some (Xd fn):=by kernel_rfl) (hs:(St.enters ⟨λ_=>.undef,λ_=>none,0⟩ 0 (Mo.modes (F r).1) (F r).2.1).isSome=true:=by kernel_rfl):
  Zu Tryz.prog Mo (F r):=Y27 fOk hfn hc hs h
abbrev CS (y:Y) (fn:Func) (p:List Nat) (l:List (Nat×V)) (h:List (Id×Blk)):Prop:=SX Tryz.prog (RF fn y) (at_ p (Xd fn) []) .normal (mkS l h 1)
abbrev Yph (x0:List Zd) (x1:Int) (r:Int):Y:=(42,[.tr (x0.map Zd.enc),il x1],il r,[.undef,.undef])
theorem Z7z {x0:List Zd} {x1:Int} {r:Int} (h:Z8m x0 x1=some r):Zu Tryz.prog Mo (Yph x0 x1 r):=
 Zt Tryz.func42 (itK h (λg1 h=>rtK h (lr Zd.enc x0 (gg g1 ee))) λg1 h=>rtK h (lr Zd.enc x0 (gg g1 ee)))
abbrev Yw0 (x0:Zl) (x1:Int) (r:Int):Y:=(8,[.agg (Zl.enc x0),il x1],il r,[.undef,.undef])
theorem Yy2 {x0:Zl} {x1:Int} {r:Int} (h:Z5a x0 x1=some r):Zu Tryz.prog Mo (Yw0 x0 x1 r):=
 Zt Tryz.func8 (bnK h λr0 Zp h=>itK h (λg1 h=>rtK h (rr (Z7z Zp) (gg g1 ee))) λg1 h=>rtK h (rr (Z7z Zp) (gg g1 ee)))
abbrev Ywo (x0:List Int) (x1:Int) (r:Int):Y:=(59,[.tr (x0.map Ze),il x1],il r,[.undef,.undef])
theorem K0 {x0:List Int} {x1:Int} {r:Int} (h:Zgc x0 x1=some r):Zu Tryz.prog Mo (Ywo x0 x1 r):=
 Zt Tryz.func59 (itK h (λg1 h=>rtK h (lr Ze x0 (gg g1 ee))) λg1 h=>rtK h (lr Ze x0 (gg g1 ee)))
abbrev Y2f (x0:Zf) (x1:Int) (r:Int):Y:=(43,[.agg (Zf.enc x0),il x1],il r,[.undef,.undef])
theorem Z13 {x0:Zf} {x1:Int} {r:Int} (h:Zw8 x0 x1=some r):Zu Tryz.prog Mo (Y2f x0 x1 r):=
 Zt Tryz.func43 (bnK h λr0 Zp h=>itK h (λg1 h=>rtK h (rr (K0 Zp) (gg g1 ee))) λg1 h=>rtK h (rr (K0 Zp) (gg g1 ee)))
abbrev Yf0 (x0:List Zf) (x1:Int) (r:Int):Y:=(9,[.tr (x0.map Zf.enc),il x1],il r,[.undef,.undef])
theorem Yje {x0:List Zf} {x1:Int} {r:Int}:∀{m:Nat} {v0:Int} {v1:Int},Zou x0 x1 m v0 v1=some r->CS (Yf0 x0 x1 r) Tryz.f9 [1,1,1,0,1,0] [(0,.tr (x0.map Zf.enc)),(1,il v0),(5,il v1)] []:=by
 intro m
 induction m with
 | zero=>intro v0 v1 h;cases h
 | succ m ih=>exactλ{v0} {v1} h=>itK h (λg1 h=>bnK h λa0 Zx h=>bnK h λr0 Zp h=>itK h (λg2 h=>rtK h (lr Zf.enc x0 (gg g1 (xb Zf.enc Zx (rr (Z13 Zp) (gg g2 ee)))))) λg2 h=>Zk [] 16 (lr Zf.enc x0 (gg g1 (xb Zf.enc Zx (rr (Z13 Zp) (gg g2 ee))))) (ih h)) λg1 h=>rtK h (lr Zf.enc x0 (gg g1 ee))
theorem Yf5 {x0:List Zf} {x1:Int} {r:Int} (h:Z6r x0 x1=some r):Zu Tryz.prog Mo (Yf0 x0 x1 r):=
 Zt Tryz.func9 (itK h (λg1 h=>rtK h (lr Zf.enc x0 (gg g1 ee))) λg1 h=>Zk [] 13 (lr Zf.enc x0 (gg g1 ee)) (Yje h))
abbrev Yw4 (x0:Zm) (x1:Int) (r:Int):Y:=(122,[.agg (Zm.enc x0),il x1],il r,[.undef,.undef])
theorem Yyd {x0:Zm} {x1:Int} {r:Int} (h:Zye x0 x1=some r):Zu Tryz.prog Mo (Yw4 x0 x1 r):=
 Zt Tryz.func122 (bnK h λr0 Zp h=>itK h (λg1 h=>rtK h (rr (Z13 Zp) (gg g1 ee))) λg1 h=>rtK h (rr (Z13 Zp) (gg g1 ee)))
abbrev Ydb (x0:List Zm) (x1:Int) (r:Int):Y:=(58,[.tr (x0.map Zm.enc),il x1],il r,[.undef,.undef])
theorem Yic {x0:List Zm} {x1:Int} {r:Int}:∀{m:Nat} {v0:Int} {v1:Int},Zla x0 x1 m v0 v1=some r->CS (Ydb x0 x1 r) Tryz.f58 [1,1,1,0,1,0] [(0,.tr (x0.map Zm.enc)),(1,il v0),(5,il v1)] []:=by
 intro m
 induction m with
 | zero=>intro v0 v1 h;cases h
 | succ m ih=>exactλ{v0} {v1} h=>itK h (λg1 h=>bnK h λa0 Zx h=>bnK h λr0 Zp h=>have p1 {q p} (k:Scr q p):=(lr Zm.enc x0 (gg g1 (xb Zm.enc Zx (rr (Yyd Zp) k))));itK h (λg2 h=>rtK h (p1 (gg g2 ee))) λg2 h=>Zk [] 16 (p1 (gg g2 ee)) (ih h)) λg1 h=>rtK h (lr Zm.enc x0 (gg g1 ee))
theorem Ybz {x0:List Zm} {x1:Int} {r:Int} (h:Z28 x0 x1=some r):Zu Tryz.prog Mo (Ydb x0 x1 r):=
 Zt Tryz.func58 (itK h (λg1 h=>rtK h (lr Zm.enc x0 (gg g1 ee))) λg1 h=>Zk [] 13 (lr Zm.enc x0 (gg g1 ee)) (Yic h))
abbrev Ze4 (x0:Zi) (x1:Int) (r:Int):Y:=(21,[.agg (Zi.enc x0),il x1],il r,[.undef,.undef])
theorem Z90 {x0:Zi} {x1:Int} {r:Int} (h:Zrv x0 x1=some r):Zu Tryz.prog Mo (Ze4 x0 x1 r):=
 Zt Tryz.func21 (bnK h λr0 Zp h=>itK h (λg1 h=>rtK h (rr (Ybz Zp) (gg g1 ee))) λg1 h=>bnK h λr1 Zw h=>have p1 {q p} (k:Scr q p):=(rr (Ybz Zp) (gg g1 (rr (K0 Zw) k)));itK h (λg2 h=>rtK h (p1 (gg g2 ee))) λg2 h=>bnK h λr2 Z6 h=>itK h (λg3 h=>rtK h (p1 (gg g2 (rr (K0 Z6) (gg g3 ee))))) λg3 h=>rtK h (p1 (gg g2 (rr (K0 Z6) (gg g3 ee)))))
abbrev Y1e (x0:Zb) (x1:Int) (r:Int):Y:=(133,[.agg (Zb.enc x0),il x1],il r,[.undef,.undef])
theorem Yk4 {x0:Zb} {x1:Int} {r:Int} (h:Z2m x0 x1=some r):Zu Tryz.prog Mo (Y1e x0 x1 r):=
 Zt Tryz.func133 (bnK h λr0 Zp h=>itK h (λg1 h=>rtK h (rr (Yf5 Zp) (gg g1 ee))) λg1 h=>rtK h (rr (Yf5 Zp) (gg g1 ee)))
abbrev Yff (x0:List Zb) (x1:Int) (r:Int):Y:=(82,[.tr (x0.map Zb.enc),il x1],il r,[.undef,.undef])
theorem Yjb {x0:List Zb} {x1:Int} {r:Int}:∀{m:Nat} {v0:Int} {v1:Int},Zoa x0 x1 m v0 v1=some r->CS (Yff x0 x1 r) Tryz.f82 [1,1,1,0,1,0] [(0,.tr (x0.map Zb.enc)),(1,il v0),(5,il v1)] []:=by
 intro m
 induction m with
 | zero=>intro v0 v1 h;cases h
 | succ m ih=>exactλ{v0} {v1} h=>itK h (λg1 h=>bnK h λa0 Zx h=>bnK h λr0 Zp h=>itK h (λg2 h=>rtK h (lr Zb.enc x0 (gg g1 (xb Zb.enc Zx (rr (Yk4 Zp) (gg g2 ee)))))) λg2 h=>Zk [] 16 (lr Zb.enc x0 (gg g1 (xb Zb.enc Zx (rr (Yk4 Zp) (gg g2 ee))))) (ih h)) λg1 h=>rtK h (lr Zb.enc x0 (gg g1 ee))
theorem Yyx {x0:List Zb} {x1:Int} {r:Int} (h:Z5e x0 x1=some r):Zu Tryz.prog Mo (Yff x0 x1 r):=
 Zt Tryz.func82 (itK h (λg1 h=>rtK h (lr Zb.enc x0 (gg g1 ee))) λg1 h=>Zk [] 13 (lr Zb.enc x0 (gg g1 ee)) (Yjb h))
abbrev Ymb (x0:List Zc) (x1:Int) (r:Int):Y:=(83,[.tr (x0.map Zc.enc),il x1],il r,[.undef,.undef])
theorem Ymm {x0:List Zc} {x1:Int} {r:Int} (h:Z67 x0 x1=some r):Zu Tryz.prog Mo (Ymb x0 x1 r):=
 Zt Tryz.func83 (itK h (λg1 h=>rtK h (lr Zc.enc x0 (gg g1 ee))) λg1 h=>rtK h (lr Zc.enc x0 (gg g1 ee)))
abbrev Y0w (x0:Zo) (x1:Int) (r:Int):Y:=(134,[.agg (Zo.enc x0),il x1],il r,[.undef,.undef])
theorem Ylk {x0:Zo} {x1:Int} {r:Int} (h:Yk9 x0 x1=some r):Zu Tryz.prog Mo (Y0w x0 x1 r):=
 Zt Tryz.func134 (bnK h λr0 Zp h=>itK h (λg1 h=>rtK h (rr (K0 Zp) (gg g1 ee))) λg1 h=>bnK h λr1 Zw h=>itK h (λg2 h=>rtK h (rr (K0 Zp) (gg g1 (rr (K0 Zw) (gg g2 ee))))) λg2 h=>rtK h (rr (K0 Zp) (gg g1 (rr (K0 Zw) (gg g2 ee)))))
abbrev Ys0 (x0:Zj) (x1:Int) (r:Int):Y:=(84,[.agg (Zj.enc x0),il x1],il r,[.undef,.undef])
theorem Z27 {x0:Zj} {x1:Int} {r:Int} (h:Z22 x0 x1=some r):Zu Tryz.prog Mo (Ys0 x0 x1 r):=
 Zt Tryz.func84 (bnK h λr0 Zp h=>itK h (λg1 h=>rtK h (rr (K0 Zp) (gg g1 ee))) λg1 h=>bnK h λr1 Zw h=>itK h (λg2 h=>rtK h (rr (K0 Zp) (gg g1 (rr (Ylk Zw) (gg g2 ee))))) λg2 h=>rtK h (rr (K0 Zp) (gg g1 (rr (Ylk Zw) (gg g2 ee)))))
abbrev Yt1 (x0:List Zn) (x1:Int) (r:Int):Y:=(85,[.tr (x0.map Zn.enc),il x1],il r,[.undef,.undef])
theorem Yc0 {x0:List Zn} {x1:Int} {r:Int} (h:Ycz x0 x1=some r):Zu Tryz.prog Mo (Yt1 x0 x1 r):=
 Zt Tryz.func85 (itK h (λg1 h=>rtK h (lr Zn.enc x0 (gg g1 ee))) λg1 h=>rtK h (lr Zn.enc x0 (gg g1 ee)))
abbrev Zef (x0:Za) (x1:Int) (r:Int):Y:=(30,[.agg (Za.enc x0),il x1],il r,[.undef,.undef])
theorem Z77 {x0:Za} {x1:Int} {r:Int} (h:Zwm x0 x1=some r):Zu Tryz.prog Mo (Zef x0 x1 r):=
 Zt Tryz.func30 (bnK h λr0 Zp h=>have p1 {q p} (k:Scr q p):=(rr (Yy2 Zp) k);itK h (λg1 h=>rtK h (p1 (gg g1 ee))) λg1 h=>bnK h λr1 Zw h=>have p2 {q p} (k:Scr q p):=(p1 (gg g1 (rr (Yyx Zw) k)));itK h (λg2 h=>rtK h (p2 (gg g2 ee))) λg2 h=>bnK h λr2 Z6 h=>have p3 {q p} (k:Scr q p):=(p2 (gg g2 (rr (Ymm Z6) k)));itK h (λg3 h=>rtK h (p3 (gg g3 ee))) λg3 h=>bnK h λr3 Y5 h=>have p4 {q p} (k:Scr q p):=(p3 (gg g3 (rr (K0 Y5) k)));itK h (λg4 h=>rtK h (p4 (gg g4 ee))) λg4 h=>bnK h λr4 Qz h=>itK h (λg5 h=>rtK h (p4 (gg g4 (rr (Z27 Qz) (gg g5 ee))))) λg5 h=>bnK h λr5 hr5 h=>itK h (λg6 h=>rtK h (p4 (gg g4 (rr (Z27 Qz) (gg g5 (rr (Yc0 hr5) (gg g6 ee))))))) λg6 h=>rtK h (p4 (gg g4 (rr (Z27 Qz) (gg g5 (rr (Yc0 hr5) (gg g6 ee)))))))
abbrev Yu7 (x0:Zd) (r:Zd):Y:=(110,[.agg (Zd.enc x0)],.agg (Zd.enc r),[.undef])
theorem Ytq {x0:Zd} {r:Zd} (h:Z25 x0=some r):Zu Tryz.prog Mo (Yu7 x0 r):=
 Zt Tryz.func110 (rtK h ee)
abbrev Z83 (x0:List Zd) (r:List Zd):Y:=(47,[.tr (x0.map Zd.enc)],.own 150 (r.map Zd.enc),[.undef])
theorem Yec {x0:List Zd} {r:List Zd}:∀{m:Nat} {v0:List Zd} {v1:Int},Zjc x0 m v0 v1=some r->CS (Z83 x0 r) Tryz.f47 [1,1,0,1,0] [(0,.tr (x0.map Zd.enc)),(3,.sl (1,1) 0 (v0.map Zd.enc).length),(4,il v1)] [rx 1 150 (v0.map Zd.enc)]:=by
 intro m
 induction m with
 | zero=>intro v0 v1 h;cases h
 | succ m ih=>exactλ{v0} {v1} h=>itK h (λg1 h=>bnK h λa0 Zx h=>bnK h λr0 Zp h=>bnK h λa1 Yw h=>bnK h λy0 Wc h=>Zk [((1,1),(1,1))] 11 (lr Zd.enc x0 (gg g1 (xb Zd.enc Zx (rr (Ytq Zp) (xp Zd.enc Yw Wc (tp (.num (y0.map Zd.enc).length 0 0 []) (ob (Qi Zd.enc Wc) ee))))))) (ih h)) λg1 h=>rtK h (lr Zd.enc x0 (gg g1 (kk 1 (oe Zd.enc v0 ee))))
theorem Ynt {x0:List Zd} {r:List Zd} (h:Zsd x0=some r):Zu Tryz.prog Mo (Z83 x0 r):=
 Zt Tryz.func47 (bnK h λm0 hm0 h=>Zk [((1,1),(2,2048))] 8 (lr Zd.enc x0 (tp (.mk ((x0.length:Int):Int).toNat (m0.map Zd.enc)) (ob (mkn hm0) (ob (mkn hm0) (ob (mkl hm0) (ob (mkr Zd.enc hm0) (ln Zd.enc m0 ee))))))) (Yec h))
abbrev Yy5 (x0:Zl) (r:Zl):Y:=(11,[.agg (Zl.enc x0)],.agg [.own 150 (r.masters.map Zd.enc),il r.quantum,il r.maxWait,il r.maxRetry,il r.maxSplit,il r.lockMost],[.undef])
theorem Yw5 {x0:Zl} {r:Zl} (h:Zyw x0=some r):Zu Tryz.prog Mo (Yy5 x0 r):=
 Zt Tryz.func11 (bnK h λr0 Zp h=>rtK h (rr (Ynt Zp) (kk 1 (oe Zd.enc r0 ee))))
abbrev Yga (x0:List Int) (r:List Int):Y:=(63,[.tr (x0.map Ze)],.own 3 (r.map Ze),[.undef])
theorem Yj5 {x0:List Int} {r:List Int}:∀{m:Nat} {v0:List Int} {v1:Int},Zox x0 m v0 v1=some r->CS (Yga x0 r) Tryz.f63 [1,1,0,1,0] [(0,.tr (x0.map Ze)),(3,.sl (1,1) 0 (v0.map Ze).length),(4,il v1)] [rx 1 3 (v0.map Ze)]:=by
 intro m
 induction m with
 | zero=>intro v0 v1 h;cases h
 | succ m ih=>exactλ{v0} {v1} h=>itK h (λg1 h=>bnK h λa0 Zx h=>bnK h λa1 Yw h=>bnK h λy0 Wc h=>Zk [((1,1),(1,1))] 11 (lr Ze x0 (gg g1 (xb Ze Zx (xp Ze Yw Wc (tp (.num (y0.map Ze).length 0 0 []) (ob (Qi Ze Wc) ee)))))) (ih h)) λg1 h=>rtK h (lr Ze x0 (gg g1 (kk 1 (oe Ze v0 ee))))
theorem Zjy {x0:List Int} {r:List Int} (h:Zcy x0=some r):Zu Tryz.prog Mo (Yga x0 r):=
 Zt Tryz.func63 (bnK h λm0 hm0 h=>Zk [((1,1),(2,2048))] 8 (lr Ze x0 (tp (.mk ((x0.length:Int):Int).toNat (m0.map Ze)) (ob (mkn hm0) (ob (mkn hm0) (ob (mkl hm0) (ob (mkr Ze hm0) (ln Ze m0 ee))))))) (Yj5 h))
abbrev Y1p (x0:Zf) (r:Zf):Y:=(48,[.agg (Zf.enc x0)],.agg [bl r.write,il r.addr,il r.size,il r.burst,bl r.lock,.own 3 (r.data_.map Ze)],[.undef])
theorem Ykz {x0:Zf} {r:Zf} (h:Zrk x0=some r):Zu Tryz.prog Mo (Y1p x0 r):=
 Zt Tryz.func48 (bnK h λr0 Zp h=>rtK h (rr (Zjy Zp) (kk 1 (oe Ze r0 ee))))
abbrev Yhv (x0:List Zf) (r:List Zf):Y:=(12,[.tr (x0.map Zf.enc)],.own 104 (r.map Zf.enc),[.undef])
theorem Ykf {x0:List Zf} {r:List Zf}:∀{m:Nat} {v0:List Zf} {v1:Int},Zo0 x0 m v0 v1=some r->CS (Yhv x0 r) Tryz.f12 [1,1,0,1,0] [(0,.tr (x0.map Zf.enc)),(3,.sl (1,1) 0 (v0.map Zf.enc).length),(4,il v1)] [rx 1 104 (v0.map Zf.enc)]:=by
 intro m
 induction m with
 | zero=>intro v0 v1 h;cases h
 | succ m ih=>exactλ{v0} {v1} h=>itK h (λg1 h=>bnK h λa0 Zx h=>bnK h λr0 Zp h=>bnK h λa1 Yw h=>bnK h λy0 Wc h=>Zk [((1,1),(1,1))] 11 (lr Zf.enc x0 (gg g1 (xb Zf.enc Zx (rr (Ykz Zp) (xq Zf.enc Yw y0 (kk 1 (tp (.num (y0.map Zf.enc).length 0 0 []) (oe Ze r0.data_ (ob (Zum Zf.enc Wc) (ob (Qi Zf.enc Wc) ee)))))))))) (ih h)) λg1 h=>rtK h (lr Zf.enc x0 (gg g1 (kk 1 (oe Zf.enc v0 ee))))
theorem Ywx {x0:List Zf} {r:List Zf} (h:Zyy x0=some r):Zu Tryz.prog Mo (Yhv x0 r):=
 Zt Tryz.func12 (bnK h λm0 hm0 h=>Zk [((1,1),(2,2048))] 8 (lr Zf.enc x0 (tp (.mk ((x0.length:Int):Int).toNat (m0.map Zf.enc)) (ob (mkn hm0) (ob (mkn hm0) (ob (mkl hm0) (ob (mkr Zf.enc hm0) (ln Zf.enc m0 ee))))))) (Ykf h))
abbrev Yy9 (x0:Zm) (r:Zm):Y:=(123,[.agg (Zm.enc x0)],.agg [il r.at_,il r.who,bl r.req.write,il r.req.addr,il r.req.size,il r.req.burst,bl r.req.lock,.own 3 (r.req.data_.map Ze)],[.undef])
theorem Yzd {x0:Zm} {r:Zm} (h:Ztz x0=some r):Zu Tryz.prog Mo (Yy9 x0 r):=
 Zt Tryz.func123 (bnK h λr0 Zp h=>rtK h (rr (Ykz Zp) (kk 1 (oe Ze r0.data_ ee))))
abbrev Yb4 (x0:List Zm) (r:List Zm):Y:=(62,[.tr (x0.map Zm.enc)],.own 106 (r.map Zm.enc),[.undef])
theorem Yfe {x0:List Zm} {r:List Zm}:∀{m:Nat} {v0:List Zm} {v1:Int},Zk6 x0 m v0 v1=some r->CS (Yb4 x0 r) Tryz.f62 [1,1,0,1,0] [(0,.tr (x0.map Zm.enc)),(3,.sl (1,1) 0 (v0.map Zm.enc).length),(4,il v1)] [rx 1 106 (v0.map Zm.enc)]:=by
 intro m
 induction m with
 | zero=>intro v0 v1 h;cases h
 | succ m ih=>exactλ{v0} {v1} h=>itK h (λg1 h=>bnK h λa0 Zx h=>bnK h λr0 Zp h=>bnK h λa1 Yw h=>bnK h λy0 Wc h=>Zk [((1,1),(1,1))] 11 (lr Zm.enc x0 (gg g1 (xb Zm.enc Zx (rr (Yzd Zp) (xq Zm.enc Yw y0 (kk 1 (tp (.num (y0.map Zm.enc).length 0 0 []) (oe Ze r0.req.data_ (ob (Zum Zm.enc Wc) (ob (Qi Zm.enc Wc) ee)))))))))) (ih h)) λg1 h=>rtK h (lr Zm.enc x0 (gg g1 (kk 1 (oe Zm.enc v0 ee))))
theorem Yuw {x0:List Zm} {r:List Zm} (h:Zvh x0=some r):Zu Tryz.prog Mo (Yb4 x0 r):=
 Zt Tryz.func62 (bnK h λm0 hm0 h=>Zk [((1,1),(2,2048))] 8 (lr Zm.enc x0 (tp (.mk ((x0.length:Int):Int).toNat (m0.map Zm.enc)) (ob (mkn hm0) (ob (mkn hm0) (ob (mkl hm0) (ob (mkr Zm.enc hm0) (ln Zm.enc m0 ee))))))) (Yfe h))
abbrev Q1 (x0:Zi) (r:Zi):Y:=(23,[.agg (Zi.enc x0)],.agg (Zi.ow r),[.undef])
theorem Zsy {x0:Zi} {r:Zi} (h:Ztw x0=some r):Zu Tryz.prog Mo (Q1 x0 r):=
 Zt Tryz.func23 (bnK h λr0 Zp h=>bnK h λr1 Zw h=>bnK h λr2 Z6 h=>rtK h (rr (Yuw Zp) (rr (Zjy Zw) (rr (Zjy Z6) (kk 3 (oe Zm.enc r0 (oe Ze r1 (oe Ze r2 ee))))))))
abbrev Y2m (x0:Zb) (r:Zb):Y:=(153,[.agg (Zb.enc x0)],.agg [.own 104 (r.queue.map Zf.enc),il r.beat,il r.done,il r.tries,bl r.parted,bl r.broken],[.undef])
theorem Y07 {x0:Zb} {r:Zb} (h:Z12 x0=some r):Zu Tryz.prog Mo (Y2m x0 r):=
 Zt Tryz.func153 (bnK h λr0 Zp h=>rtK h (rr (Ywx Zp) (kk 1 (oe Zf.enc r0 ee))))
abbrev Ygx (x0:List Zb) (r:List Zb):Y:=(89,[.tr (x0.map Zb.enc)],.own 156 (r.map Zb.enc),[.undef])
theorem Yj9 {x0:List Zb} {r:List Zb}:∀{m:Nat} {v0:List Zb} {v1:Int},Zot x0 m v0 v1=some r->CS (Ygx x0 r) Tryz.f89 [1,1,0,1,0] [(0,.tr (x0.map Zb.enc)),(3,.sl (1,1) 0 (v0.map Zb.enc).length),(4,il v1)] [rx 1 156 (v0.map Zb.enc)]:=by
 intro m
 induction m with
 | zero=>intro v0 v1 h;cases h
 | succ m ih=>exactλ{v0} {v1} h=>itK h (λg1 h=>bnK h λa0 Zx h=>bnK h λr0 Zp h=>bnK h λa1 Yw h=>bnK h λy0 Wc h=>Zk [((1,1),(1,1))] 11 (lr Zb.enc x0 (gg g1 (xb Zb.enc Zx (rr (Y07 Zp) (xq Zb.enc Yw y0 (kk 1 (tp (.num (y0.map Zb.enc).length 0 0 []) (oe Zf.enc r0.queue (ob (Zum Zb.enc Wc) (ob (Qi Zb.enc Wc) ee)))))))))) (ih h)) λg1 h=>rtK h (lr Zb.enc x0 (gg g1 (kk 1 (oe Zb.enc v0 ee))))
theorem Ywy {x0:List Zb} {r:List Zb} (h:Zyg x0=some r):Zu Tryz.prog Mo (Ygx x0 r):=
 Zt Tryz.func89 (bnK h λm0 hm0 h=>Zk [((1,1),(2,2048))] 8 (lr Zb.enc x0 (tp (.mk ((x0.length:Int):Int).toNat (m0.map Zb.enc)) (ob (mkn hm0) (ob (mkn hm0) (ob (mkl hm0) (ob (mkr Zb.enc hm0) (ln Zb.enc m0 ee))))))) (Yj9 h))
abbrev Y06 (x0:Z2) (r:Z2):Y:=(90,[.agg (Z2.enc x0)],.agg (Z2.enc r),[.undef])
theorem Y2o {x0:Z2} {r:Z2} (h:Z8a x0=some r):Zu Tryz.prog Mo (Y06 x0 r):=
 Zt Tryz.func90 (rtK h ee)
abbrev Yn2 (x0:Zc) (r:Zc):Y:=(154,[.agg (Zc.enc x0)],.agg (Zc.enc r),[.undef])
theorem Ypt {x0:Zc} {r:Zc} (h:Zz9 x0=some r):Zu Tryz.prog Mo (Yn2 x0 r):=
 Zt Tryz.func154 (rtK h ee)
abbrev Z66 (x0:List Zc) (r:List Zc):Y:=(91,[.tr (x0.map Zc.enc)],.own 158 (r.map Zc.enc),[.undef])
theorem Ybm {x0:List Zc} {r:List Zc}:∀{m:Nat} {v0:List Zc} {v1:Int},Zhj x0 m v0 v1=some r->CS (Z66 x0 r) Tryz.f91 [1,1,0,1,0] [(0,.tr (x0.map Zc.enc)),(3,.sl (1,1) 0 (v0.map Zc.enc).length),(4,il v1)] [rx 1 158 (v0.map Zc.enc)]:=by
 intro m
 induction m with
 | zero=>intro v0 v1 h;cases h
 | succ m ih=>exactλ{v0} {v1} h=>itK h (λg1 h=>bnK h λa0 Zx h=>bnK h λr0 Zp h=>bnK h λa1 Yw h=>bnK h λy0 Wc h=>Zk [((1,1),(1,1))] 11 (lr Zc.enc x0 (gg g1 (xb Zc.enc Zx (rr (Ypt Zp) (xp Zc.enc Yw Wc (tp (.num (y0.map Zc.enc).length 0 0 []) (ob (Qi Zc.enc Wc) ee))))))) (ih h)) λg1 h=>rtK h (lr Zc.enc x0 (gg g1 (kk 1 (oe Zc.enc v0 ee))))
theorem Ymr {x0:List Zc} {r:List Zc} (h:Zqh x0=some r):Zu Tryz.prog Mo (Z66 x0 r):=
 Zt Tryz.func91 (bnK h λm0 hm0 h=>Zk [((1,1),(2,2048))] 8 (lr Zc.enc x0 (tp (.mk ((x0.length:Int):Int).toNat (m0.map Zc.enc)) (ob (mkn hm0) (ob (mkn hm0) (ob (mkl hm0) (ob (mkr Zc.enc hm0) (ln Zc.enc m0 ee))))))) (Ybm h))
abbrev Yy6 (x0:Zh) (r:Zh):Y:=(92,[.agg (Zh.enc x0)],.agg (Zh.enc r),[.undef])
theorem Yf8 {x0:Zh} {r:Zh} (h:Zsp x0=some r):Zu Tryz.prog Mo (Yy6 x0 r):=
 Zt Tryz.func92 (rtK h ee)
abbrev Y2u (x0:Zo) (r:Zo):Y:=(155,[.agg (Zo.enc x0)],.agg (Zo.ow r),[.undef])
theorem Y0l {x0:Zo} {r:Zo} (h:Z8e x0=some r):Zu Tryz.prog Mo (Y2u x0 r):=
 Zt Tryz.func155 (bnK h λr0 Zp h=>bnK h λr1 Zw h=>rtK h (rr (Zjy Zp) (rr (Zjy Zw) (kk 2 (oe Ze r0 (oe Ze r1 ee))))))
abbrev Ytw (x0:Zj) (r:Zj):Y:=(93,[.agg (Zj.enc x0)],.agg (Zj.ow r),[.undef])
theorem Yt7 {x0:Zj} {r:Zj} (h:Zvq x0=some r):Zu Tryz.prog Mo (Ytw x0 r):=
 Zt Tryz.func93 (bnK h λr0 Zp h=>bnK h λr1 Zw h=>rtK h (rr (Zjy Zp) (rr (Y0l Zw) (kk 3 (oe Ze r0 (Zo.so r1 ee))))))
abbrev Yxt (x0:Zn) (r:Zn):Y:=(156,[.agg (Zn.enc x0)],.agg (Zn.enc r),[.undef])
theorem Yxq {x0:Zn} {r:Zn} (h:Z5d x0=some r):Zu Tryz.prog Mo (Yxt x0 r):=
 Zt Tryz.func156 (rtK h ee)
abbrev Yc7 (x0:List Zn) (r:List Zn):Y:=(94,[.tr (x0.map Zn.enc)],.own 113 (r.map Zn.enc),[.undef])
theorem Ygb {x0:List Zn} {r:List Zn}:∀{m:Nat} {v0:List Zn} {v1:Int},Zk0 x0 m v0 v1=some r->CS (Yc7 x0 r) Tryz.f94 [1,1,0,1,0] [(0,.tr (x0.map Zn.enc)),(3,.sl (1,1) 0 (v0.map Zn.enc).length),(4,il v1)] [rx 1 113 (v0.map Zn.enc)]:=by
 intro m
 induction m with
 | zero=>intro v0 v1 h;cases h
 | succ m ih=>exactλ{v0} {v1} h=>itK h (λg1 h=>bnK h λa0 Zx h=>bnK h λr0 Zp h=>bnK h λa1 Yw h=>bnK h λy0 Wc h=>Zk [((1,1),(1,1))] 11 (lr Zn.enc x0 (gg g1 (xb Zn.enc Zx (rr (Yxq Zp) (xp Zn.enc Yw Wc (tp (.num (y0.map Zn.enc).length 0 0 []) (ob (Qi Zn.enc Wc) ee))))))) (ih h)) λg1 h=>rtK h (lr Zn.enc x0 (gg g1 (kk 1 (oe Zn.enc v0 ee))))
theorem Yr9 {x0:List Zn} {r:List Zn} (h:Zv9 x0=some r):Zu Tryz.prog Mo (Yc7 x0 r):=
 Zt Tryz.func94 (bnK h λm0 hm0 h=>Zk [((1,1),(2,2048))] 8 (lr Zn.enc x0 (tp (.mk ((x0.length:Int):Int).toNat (m0.map Zn.enc)) (ob (mkn hm0) (ob (mkn hm0) (ob (mkl hm0) (ob (mkr Zn.enc hm0) (ln Zn.enc m0 ee))))))) (Ygb h))
abbrev Zau (x0:Za) (r:Za):Y:=(32,[.agg (Za.enc x0)],.agg (Za.ow r),[.undef])
theorem Z1n {x0:Za} {r:Za} (h:Z19 x0=some r):Zu Tryz.prog Mo (Zau x0 r):=
 Zt Tryz.func32 (bnK h λr0 Zp h=>bnK h λr1 Zw h=>bnK h λr2 Z6 h=>bnK h λr3 Y5 h=>bnK h λr4 Qz h=>bnK h λr5 hr5 h=>bnK h λr6 hr6 h=>bnK h λr7 hr7 h=>bnK h λr8 hr8 h=>rtK h (rr (Yw5 Zp) (rr (Ywy Zw) (rr (Y2o Z6) (rr (Ymr Y5) (rr (Zjy Qz) (rr (Yf8 hr5) (rr (Yf8 hr6) (rr (Yt7 hr7) (rr (Yr9 hr8) (kk 8 (oe Zd.enc r0.masters (oe Zb.enc r1 (oe Zc.enc r3 (oe Ze r4 (Zj.so r7 (oe Zn.enc r8 ee)))))))))))))))))
abbrev Y4g (x0:Int) (x1:Int) (x2:Int) (r:Bool):Y:=(61,[il x0,il x1,il x2],bl r,[.undef,.undef,.undef])
theorem Z4 {x0:Int} {x1:Int} {x2:Int} {r:Bool} (h:Z5 x0 x1 x2=some r):Zu Tryz.prog Mo (Y4g x0 x1 x2 r):=
 Zt Tryz.func61 (itK h (λg1 h=>rtK h (gg g1 (kk 3 ee))) λg1 h=>rtK h (gg g1 (kk 3 ee)))
abbrev Ygh (x0:Zl) (r:Int):Y:=(178,[.agg (Zl.enc x0)],il r,[.undef])
theorem Z4y {x0:Zl} {r:Int} {v0:Bool} (h:Zo9 x0 v0=some r):CS (Ygh x0 r) Tryz.f178 [1,0,1] [(1,.ptr (1,1) 0 0),(12,bl v0)] [bx 1 (Zl.enc x0)]:=
 itK h (λg1 h=>rtK h (gg g1 ee)) λg1 h=>rtK h (gg g1 ee)
theorem Zs1 {x0:Zl} {r:Int} (h:Ziz x0=some r):Zu Tryz.prog Mo (Ygh x0 r):=
 Zt Tryz.func178 (bnK h λr0 Zp h=>itK h (λg1 h=>Zk [((1,1),(1,0))] 5 (rr (Z4 Zp) (gg g1 (kk 4 ee))) (Z4y h)) λg1 h=>bnK h λr1 Zw h=>Zk [((1,1),(1,0))] 5 (rr (Z4 Zp) (gg g1 (kk 2 (rr (Z4 Zw) (kk 2 ee))))) (Z4y h))
abbrev Yyy (x0:Zl) (r:Int):Y:=(102,[.agg (Zl.enc x0)],il r,[.undef])
theorem Yf2 {x0:Zl} {r:Int} (h:Zge x0=some r):Zu Tryz.prog Mo (Yyy x0 r):=
 Zt Tryz.func102 (bnK h λr0 Zp h=>itK h (λg1 h=>rtK h (rr (Zs1 Zp) (gg g1 (kk 5 ee)))) λg1 h=>bnK h λr1 Zw h=>itK h (λg2 h=>rtK h (rr (Zs1 Zp) (gg g1 (kk 2 (rr (Z4 Zw) (kk 2 (gg g2 ee))))))) λg2 h=>bnK h λr2 Z6 h=>rtK h (rr (Zs1 Zp) (gg g1 (kk 2 (rr (Z4 Zw) (kk 2 (gg g2 (rr (Zs1 Z6) ee))))))))
abbrev Yqo (x0:Zl) (r:Bool):Y:=(103,[.agg (Zl.enc x0)],bl r,[.undef])
theorem Ypg {x0:Zl} {r:Bool} (h:Ztp x0=some r):Zu Tryz.prog Mo (Yqo x0 r):=
 Zt Tryz.func103 (bnK h λr0 Zp h=>itK h (λg1 h=>bnK h λr1 Zw h=>have p1 {q p} (k:Scr q p):=(rr (Z4 Zp) (gg g1 (kk 1 (rr (Zs1 Zw) (kk 2 k)))));itK h (λg2 h=>bnK h λr2 Z6 h=>itK h (λg3 h=>bnK h λr3 Y5 h=>rtK h (p1 (gg g2 (kk 2 (rr (Z4 Z6) (kk 1 (gg g3 (kk 2 (rr (Z4 Y5) (kk 1 ee)))))))))) λg3 h=>rtK h (p1 (gg g2 (kk 2 (rr (Z4 Z6) (kk 1 (gg g3 (kk 3 ee)))))))) λg2 h=>rtK h (p1 (gg g2 (kk 7 ee)))) λg1 h=>rtK h (rr (Z4 Zp) (gg g1 (kk 11 ee))))
abbrev Z62 (x0:Zl) (r:Bool):Y:=(44,[.agg (Zl.enc x0)],bl r,[.undef])
theorem Yi3 {x0:Zl} {r:Bool}:∀{m:Nat} {v0:Int} {v1:Int},Zas x0 m v0 v1=some r->CS (Z62 x0 r) Tryz.f44 [1,1,1,0,1,0] [(1,.ptr (1,1) 0 0),(3,il v0),(5,il v1)] [bx 1 (Zl.enc x0)]:=by
 intro m
 induction m with
 | zero=>intro v0 v1 h;cases h
 | succ m ih=>exactλ{v0} {v1} h=>have p1 {q p} (k:Scr q p):=(lr Zd.enc x0.masters k);itK h (λg1 h=>bnK h λa0 Zx h=>bnK h λr0 Zp h=>have p2 {q p} (k:Scr q p):=(p1 (gg g1 (xb Zd.enc Zx (rr (Z4 Zp) k))));itK h (λg2 h=>rtK h (p2 (gg g2 (kk 11 ee)))) λg2 h=>have p3 {q p} (k:Scr q p):=(p2 (gg g2 (kk 3 k)));itK h (λg3 h=>itK h (λg4 h=>rtK h (p3 (gg g3 (kk 3 (gg g4 (kk 13 ee)))))) λg4 h=>have p4 {q p} (k:Scr q p):=(p3 (gg g3 (kk 3 (gg g4 (kk 7 k)))));itK h (λg5 h=>rtK h (p4 (gg g5 (kk 5 ee)))) λg5 h=>itK h (λg6 h=>bnK h λr1 Zw h=>bnK h λr2 Z6 h=>have p5 {q p} (k:Scr q p):=(p4 (gg g5 (kk 2 (gg g6 (kk 5 (rr (Yf2 Zw) (kk 2 (rr (Z4 Z6) (kk 2 k)))))))));itK h (λg7 h=>rtK h (p5 (gg g7 (kk 9 ee)))) λg7 h=>bnK h λr3 Y5 h=>itK h (λg8 h=>rtK h (p5 (gg g7 (kk 2 (rr (Z4 Y5) (kk 6 (gg g8 ee))))))) λg8 h=>Zk [((1,1),(1,1))] 16 (p5 (gg g7 (kk 2 (rr (Z4 Y5) (kk 6 (gg g8 ee)))))) (ih h)) λg6 h=>Zk [((1,1),(1,1))] 16 (p4 (gg g5 (kk 2 (gg g6 (kk 14 ee))))) (ih h)) λg3 h=>itK h (λg4 h=>bnK h λr1 Zw h=>bnK h λr2 Z6 h=>have p6 {q p} (k:Scr q p):=(p3 (gg g3 (kk 10 (gg g4 (kk 5 (rr (Yf2 Zw) (kk 2 (rr (Z4 Z6) (kk 2 k)))))))));itK h (λg5 h=>rtK h (p6 (gg g5 (kk 9 ee)))) λg5 h=>bnK h λr3 Y5 h=>itK h (λg6 h=>rtK h (p6 (gg g5 (kk 2 (rr (Z4 Y5) (kk 6 (gg g6 ee))))))) λg6 h=>Zk [((1,1),(1,1))] 16 (p6 (gg g5 (kk 2 (rr (Z4 Y5) (kk 6 (gg g6 ee)))))) (ih h)) λg4 h=>Zk [((1,1),(1,1))] 16 (p3 (gg g3 (kk 10 (gg g4 (kk 14 ee))))) (ih h)) λg1 h=>bnK h λr4 Qz h=>itK h (λg2 h=>bnK h λr5 hr5 h=>rtK h (p1 (gg g1 (lr Zd.enc x0.masters (rr (Z4 Qz) (gg g2 (kk 1 (rr (Ypg hr5) (kk 1 ee))))))))) λg2 h=>rtK h (p1 (gg g1 (lr Zd.enc x0.masters (rr (Z4 Qz) (gg g2 (kk 2 ee))))))
theorem Yjg {x0:Zl} {r:Bool}:∀{m:Nat} {v0:Int} {v2:Int},Zn0 x0 m v0 v2=some r->CS (Z62 x0 r) Tryz.f44 [1,1,0,1,0] [(1,.ptr (1,1) 0 0),(3,il v0),(4,il v2)] [bx 1 (Zl.enc x0)]:=by
 intro m
 induction m with
 | zero=>intro v0 v2 h;cases h
 | succ m ih=>exactλ{v0} {v2} h=>itK h (λg1 h=>bnK h λa1 Yw h=>itK h (λg2 h=>Zk [((1,1),(1,1))] 14 (lr Zd.enc x0.masters (gg g1 (xb Zd.enc Yw (gg g2 ee)))) (ih h)) λg2 h=>Zk [((1,1),(1,1))] 14 (lr Zd.enc x0.masters (gg g1 (xb Zd.enc Yw (gg g2 ee)))) (ih h)) λg1 h=>Zk [((1,1),(1,1))] 13 (lr Zd.enc x0.masters (gg g1 ee)) (Yi3 h)
theorem Zjt {x0:Zl} {r:Bool} (h:Zjw x0=some r):Zu Tryz.prog Mo (Z62 x0 r):=
 Zt Tryz.func44 (Zk [((1,1),(1,0))] 8 ee (Yjg h))
abbrev Ys3 (x0:Int) (r:Int):Y:=(106,[il x0],il r,[.undef])
theorem Zed {x0:Int} {r:Int} (h:Za9 x0=some r):Zu Tryz.prog Mo (Ys3 x0 r):=
 Zt Tryz.func106 (bnK h λr0 Zp h=>itK h (λg1 h=>rtK h (rr (Z4 Zp) (gg g1 ee))) λg1 h=>bnK h λa0 Zx h=>rtK h (rr (Z4 Zp) (gg g1 (xd Ze Zx ee))))
abbrev Yu5 (x0:Int) (r:Int):Y:=(180,[il x0],il r,[.undef])
theorem Jp {x0:Int} {r:Int} (h:Jo x0=some r):Zu Tryz.prog Mo (Yu5 x0 r):=
 Zt Tryz.func180 (bnK h λr0 Zp h=>itK h (λg1 h=>rtK h (rr (Z4 Zp) (gg g1 ee))) λg1 h=>bnK h λn0 hn0 h=>rtK h (rr (Z4 Zp) (gg g1 (tp (.obl) (ob (nn0 hn0) ee)))))
abbrev Ytg (x0:Int) (x1:Int) (r:Bool):Y:=(196,[il x0,il x1],bl r,[.undef,.undef])
theorem Zpt {x0:Int} {x1:Int} {r:Bool} (h:Zba x0 x1=some r):Zu Tryz.prog Mo (Ytg x0 x1 r):=
 Zt Tryz.func196 (bnK h λr0 Zp h=>itK h (λg1 h=>itK h (λg2 h=>bnK h λr1 Zw h=>bnK h λn0 hn0 h=>rtK h (rr (Jp Zp) (gg g1 (kk 2 (gg g2 (kk 2 (rr (Jp Zw) (kk 1 (tp (.obl) (kk 2 (ob (nz0 hn0) ee))))))))))) λg2 h=>rtK h (rr (Jp Zp) (gg g1 (kk 2 (gg g2 (kk 5 ee)))))) λg1 h=>rtK h (rr (Jp Zp) (gg g1 (kk 8 ee))))
abbrev Z0z (x0:Int) (x1:Int) (x2:Int) (r:Int):Y:=(236,[il x0,il x1,il x2],il r,[.undef,.undef,.undef])
theorem Zzm {x0:Int} {x1:Int} {x2:Int} {r:Int} {v0:Int} {v1:Bool} (h:Zit x0 x1 x2 v0 v1=some r):CS (Z0z x0 x1 x2 r) Tryz.f236 [1,1,1,0,1] [(0,il x0),(7,il v0),(34,bl v1)] []:=
 itK h (λg1 h=>rtK h (gg g1 ee)) λg1 h=>rtK h (gg g1 ee)
theorem Zq0 {x0:Int} {x1:Int} {x2:Int} {r:Int} {v0:Int} {v2:Bool} (h:Ze3 x0 x1 x2 v0 v2=some r):CS (Z0z x0 x1 x2 r) Tryz.f236 [1,1,0,1] [(0,il x0),(2,il x2),(7,il v0),(23,bl v2)] []:=
 itK h (λg1 h=>rtK h (gg g1 ee)) λg1 h=>itK h (λg2 h=>bnK h λn0 hn0 h=>Zk [] 5 (gg g1 (gg g2 (kk 5 (tp (.obl) (kk 2 (ob (nz0 hn0) ee)))))) (Zzm h)) λg2 h=>Zk [] 5 (gg g1 (gg g2 (kk 7 ee))) (Zzm h)
theorem Z8d {x0:Int} {x1:Int} {x2:Int} {r:Int} (h:Zmj x0 x1 x2=some r):Zu Tryz.prog Mo (Z0z x0 x1 x2 r):=
 Zt Tryz.func236 (bnK h λr0 Zp h=>bnK h λr1 Zw h=>have p1 {q p} (k:Scr q p):=(rr (Jp Zp) (rr (Zpt Zw) k));itK h (λg1 h=>Zk [] 7 (p1 (gg g1 (kk 7 ee))) (Zq0 h)) λg1 h=>bnK h λr2 Z6 h=>itK h (λg2 h=>Zk [] 7 (p1 (gg g1 (kk 1 (rr (Z4 Z6) (kk 2 (gg g2 (kk 3 ee))))))) (Zq0 h)) λg2 h=>bnK h λr3 Y5 h=>Zk [] 7 (p1 (gg g1 (kk 1 (rr (Z4 Z6) (kk 2 (gg g2 (kk 1 (rr (Zed Y5) (kk 2 ee))))))))) (Zq0 h))
abbrev Zor (x0:Int) (x1:Int) (x2:Int) (r:List Int):Y:=(179,[il x0,il x1,il x2],.own 3 (r.map Ze),[.undef,.undef,.undef])
theorem Zw5 {x0:Int} {x1:Int} {x2:Int} {r:List Int} {k_L1:Int->(List Int)->Option (List Int)} (i_L1:∀{v0:Int} {v1:List Int},k_L1 v0 v1=some r->CS (Zor x0 x1 x2 r) Tryz.f179 [1,1,0,0] [(0,il v0),(1,il x1),(2,il x2),(7,.sl (1,1) 0 (v1.map Ze).length)] [rx 1 3 (v1.map Ze)]) {v0:Int} {v1:List Int} {v2:Bool} (h:Zdb x0 x1 x2 k_L1 v0 v1 v2=some r):CS (Zor x0 x1 x2 r) Tryz.f179 [1,1,0,0,0,0,1] [(0,il v0),(1,il x1),(2,il x2),(7,.sl (1,1) 0 (v1.map Ze).length),(20,bl v2)] [rx 1 3 (v1.map Ze)]:=
 itK h (λg1 h=>bnK h λz0 Wr h=>bnK h λr0 Zp h=>Zk [((1,1),(2,3072))] 7 (gg g1 (ta Ze [v0] z0 (kk 1 (oa 1 Zcj v0 (ox Ze Wr (oe Ze z0 (rr (Z8d Zp) (ln Ze z0 ee)))))))) (i_L1 h)) λg1 h=>bnK h λr1 Zw h=>itK h (λg2 h=>rtK h (gg g1 (lr Ze v1 (rr (Zed Zw) (gg g2 (kk 1 (ob (show 0=([].map Ze).length from rfl) ee))))))) λg2 h=>rtK h (gg g1 (lr Ze v1 (rr (Zed Zw) (gg g2 (kk 1 (oe Ze v1 ee))))))
theorem Z96 {x0:Int} {x1:Int} {x2:Int} {r:List Int}:∀{m:Nat} {v0:Int} {v1:List Int},Zf0 x0 x1 x2 m v0 v1=some r->CS (Zor x0 x1 x2 r) Tryz.f179 [1,1,0,0] [(0,il v0),(1,il x1),(2,il x2),(7,.sl (1,1) 0 (v1.map Ze).length)] [rx 1 3 (v1.map Ze)]:=by
 intro m
 induction m with
 | zero=>intro v0 v1 h;cases h
 | succ m ih=>exactλ{v0} {v1} h=>bnK h λr2 Z6 h=>itK h (λg1 h=>bnK h λr3 Y5 h=>Zk [((1,1),(1,1))] 4 (lr Ze v1 (rr (Zed Z6) (gg g1 (kk 3 (rr (Z8d Y5) (kk 2 (ln Ze v1 ee))))))) (Zw5 ih h)) λg1 h=>Zk [((1,1),(1,1))] 4 (lr Ze v1 (rr (Zed Z6) (gg g1 (kk 5 (ln Ze v1 ee))))) (Zw5 ih h)
theorem Z35 {x0:Int} {x1:Int} {x2:Int} {r:List Int} (h:Zh9 x0 x1 x2=some r):Zu Tryz.prog Mo (Zor x0 x1 x2 r):=
 Zt Tryz.func179 (Zk [((1,1),(2,0))] 6 (tp (.num ([].map Ze).length 0 0 []) (ob (show 0=([].map Ze).length from rfl) ee)) (Z96 h))
abbrev Yca (x0:Int) (x1:Int) (x2:Int) (r:Bool):Y:=(104,[il x0,il x1,il x2],bl r,[.undef,.undef,.undef])
theorem Yfr {x0:Int} {x1:Int} {x2:Int} {r:Bool}:∀{m:Nat} {v0:List Int} {v1:Int},Zkx x0 x1 x2 m v0 v1=some r->CS (Yca x0 x1 x2 r) Tryz.f104 [1,1,0,1,0] [(7,.sl (1,1) 0 (v0.map Ze).length),(8,il v1)] [rx 1 3 (v0.map Ze)]:=by
 intro m
 induction m with
 | zero=>intro v0 v1 h;cases h
 | succ m ih=>exactλ{v0} {v1} h=>itK h (λg1 h=>bnK h λa0 Zx h=>bnK h λa1 Yw h=>itK h (λg2 h=>rtK h (lr Ze v0 (gg g1 (xd Ze Zx (kk 1 (xd Ze Yw (kk 1 (gg g2 ee)))))))) λg2 h=>Zk [((1,1),(1,1))] 14 (lr Ze v0 (gg g1 (xd Ze Zx (kk 1 (xd Ze Yw (kk 1 (gg g2 (ln Ze v0 ee)))))))) (ih h)) λg1 h=>rtK h (lr Ze v0 (gg g1 (lr Ze v0 ee)))
theorem Yb9 {x0:Int} {x1:Int} {x2:Int} {r:Bool} (h:Zv1 x0 x1 x2=some r):Zu Tryz.prog Mo (Yca x0 x1 x2 r):=
 Zt Tryz.func104 (bnK h λr0 Zp h=>Zk [((1,1),(2,3072))] 8 (rr (Z35 Zp) (ln Ze r0 ee)) (Yfr h))
abbrev Ytc (x0:Int) (r:Int):Y:=(105,[il x0],il r,[.undef])
theorem Zcz {x0:Int} {r:Int} (h:Qo x0=some r):Zu Tryz.prog Mo (Ytc x0 r):=
 Zt Tryz.func105 (bnK h λr0 Zp h=>itK h (λg1 h=>rtK h (rr (Jp Zp) (gg g1 ee))) λg1 h=>bnK h λr1 Zw h=>bnK h λn0 hn0 h=>rtK h (rr (Jp Zp) (gg g1 (rr (Jp Zw) (tp (.obl) (ob (nn0 hn0) ee))))))
abbrev Yk7 (x0:Zf) (r:Bool):Y:=(45,[.agg (Zf.enc x0)],bl r,[.undef])
theorem Ym0 {x0:Zf} {r:Bool}:∀{m:Nat} {v0:Int},Zqe x0 m v0=some r->CS (Yk7 x0 r) Tryz.f45 [1,1,0,1,0] [(1,.ptr (1,1) 0 0),(3,il v0)] [bx 1 (Zf.enc x0)]:=by
 intro m
 induction m with
 | zero=>intro v0 h;cases h
 | succ m ih=>exactλ{v0} h=>have p1 {q p} (k:Scr q p):=(lr Ze x0.data_ k);itK h (λg1 h=>bnK h λa0 Zx h=>bnK h λr0 Zp h=>bnK h λr1 Zw h=>have p2 {q p} (k:Scr q p):=(p1 (gg g1 (xb Ze Zx (rr (Zcz Zp) (rr (Z4 Zw) k)))));itK h (λg2 h=>rtK h (p2 (gg g2 ee))) λg2 h=>Zk [((1,1),(1,1))] 14 (p2 (gg g2 ee)) (ih h)) λg1 h=>have p3 {q p} (k:Scr q p):=(p1 (gg g1 (lr Ze x0.data_ k)));itK h (λg2 h=>itK h (λg3 h=>rtK h (p3 (gg g2 (kk 3 (gg g3 (kk 9 ee)))))) λg3 h=>bnK h λr2 Z6 h=>have p4 {q p} (k:Scr q p):=(p3 (gg g2 (kk 3 (gg g3 (kk 2 (lr Ze x0.data_ (kk 3 (rr (Zed Z6) (kk 2 k)))))))));itK h (λg4 h=>rtK h (p4 (gg g4 (kk 4 ee)))) λg4 h=>rtK h (p4 (gg g4 (kk 4 ee)))) λg2 h=>bnK h λr2 Z6 h=>have p5 {q p} (k:Scr q p):=(p3 (gg g2 (kk 6 (lr Ze x0.data_ (kk 3 (rr (Zed Z6) (kk 2 k)))))));itK h (λg3 h=>rtK h (p5 (gg g3 (kk 4 ee)))) λg3 h=>rtK h (p5 (gg g3 (kk 4 ee)))
theorem Z8c {x0:Zf} {r:Bool} (h:Zxb x0=some r):Zu Tryz.prog Mo (Yk7 x0 r):=
 Zt Tryz.func45 (bnK h λr3 Y5 h=>itK h (λg1 h=>rtK h (rr (Yb9 Y5) (gg g1 ee))) λg1 h=>Zk [((1,1),(1,0))] 11 (rr (Yb9 Y5) (gg g1 ee)) (Ym0 h))
abbrev Yx3 (x0:Zl) (r:Zl):Y:=(107,[.agg (Zl.enc x0)],.agg [.own 150 (r.masters.map Zd.enc),il r.quantum,il r.maxWait,il r.maxRetry,il r.maxSplit,il r.lockMost],[.undef])
theorem Yyl {x0:Zl} {r:Zl} (h:Zyj x0=some r):Zu Tryz.prog Mo (Yx3 x0 r):=
 Zt Tryz.func107 (bnK h λz0 Wr h=>rtK h (ta Zd.enc x0.masters z0 (kk 1 (ol 4 Zd.enc_len Zd.enc_lit x0.masters (ob (apl Zd.enc Wr) (ob (apm Zd.enc Wr) (oe Zd.enc z0 (oe Zd.enc z0 ee))))))))
abbrev Yyv (x0:Zf) (r:Zf):Y:=(197,[.agg (Zf.enc x0)],.agg [bl r.write,il r.addr,il r.size,il r.burst,bl r.lock,.own 3 (r.data_.map Ze)],[.undef])
theorem Z5s {x0:Zf} {r:Zf} (h:Zje x0=some r):Zu Tryz.prog Mo (Yyv x0 r):=
 Zt Tryz.func197 (bnK h λz0 Wr h=>rtK h (ta Ze x0.data_ z0 (kk 1 (ol 1 Zcj Zqx x0.data_ (ob (apl Ze Wr) (ob (apm Ze Wr) (oe Ze z0 (oe Ze z0 ee))))))))
abbrev Yc1 (x0:Zb) (r:Zb):Y:=(143,[.agg (Zb.enc x0)],.agg [.own 104 (r.queue.map Zf.enc),il r.beat,il r.done,il r.tries,bl r.parted,bl r.broken],[.undef])
theorem Yg2 {x0:Zb} {r:Zb}:∀{m:Nat} {v0:List Zf} {v1:Int},Zl4 x0 m v0 v1=some r->CS (Yc1 x0 r) Tryz.f143 [1,1,0,1,0] [(1,.ptr (1,1) 0 0),(2,.ptr (1,2) 0 0),(3,.sl (1,4) 0 (v0.map Zf.enc).length),(4,il v1)] [bx 1 (Zb.enc x0),rx 3 104 ([].map Zf.enc),bx 2 [.sl (1,3) 0 ([].map Zf.enc).length,il 0,il 0,il 0,bl false,bl false],rx 4 104 (v0.map Zf.enc)]:=by
 intro m
 induction m with
 | zero=>intro v0 v1 h;cases h
 | succ m ih=>exactλ{v0} {v1} h=>itK h (λg1 h=>bnK h λa0 Zx h=>bnK h λr0 Zp h=>bnK h λz0 Wr h=>Zk (ffi 1 3++[((1,4),(3,8192))]) 11 (lr Zf.enc x0.queue (gg g1 (xb Zf.enc Zx (rr (Z5s Zp) (kk 1 (ta Zf.enc [r0] z0 (kk 1 (oe Ze r0.data_ (oa 6 Zf.enc_len r0 (ox Zf.enc Wr (ln Zf.enc z0 (oe Zf.enc z0 (ln Zf.enc [] ee))))))))))))) (ih h)) λg1 h=>rtK h (lr Zf.enc x0.queue (gg g1 (kk 1 (oe Zf.enc v0 ee))))
theorem Zec {x0:Zb} {r:Zb} (h:Zd8 x0=some r):Zu Tryz.prog Mo (Yc1 x0 r):=
 Zt Tryz.func143 (Zk [((1,1),(1,0)),((1,2),(1,1024)),((1,4),(2,0))] 8 (tp (.num ([].map Zf.enc).length 0 0 []) (ob (show 0=([].map Zf.enc).length from rfl) ee)) (Yg2 h))
abbrev Yzc (x0:Zo) (r:Zo):Y:=(198,[.agg (Zo.enc x0)],.agg (Zo.ow r),[.undef])
theorem Yh2 {x0:Zo} {r:Zo} (h:Zsc x0=some r):Zu Tryz.prog Mo (Yzc x0 r):=
 Zt Tryz.func198 (bnK h λz0 Wr h=>bnK h λz1 hz1 h=>rtK h (ta Ze x0.regs z0 (ta Ze x0.fifo z1 (kk 2 (ol 1 Zcj Zqx x0.regs (ob (apl Ze Wr) (ob (apm Ze Wr) (oe Ze z0 (ol 1 Zcj Zqx x0.fifo (ob (apl Ze hz1) (ob (apm Ze hz1) (oe Ze z1 (oe Ze z0 (oe Ze z1 ee))))))))))))))
abbrev Ywr (x0:Zj) (r:Zj):Y:=(144,[.agg (Zj.enc x0)],.agg (Zj.ow r),[.undef])
theorem Yfw {x0:Zj} {r:Zj} (h:Zto x0=some r):Zu Tryz.prog Mo (Ywr x0 r):=
 Zt Tryz.func144 (bnK h λz0 Wr h=>bnK h λr0 Zp h=>rtK h (ta Ze x0.mem z0 (ol 1 Zcj Zqx x0.mem (ob (apl Ze Wr) (ob (apm Ze Wr) (oe Ze z0 (rr (Yh2 Zp) (kk 3 (oe Ze z0 (Zo.so r0 ee))))))))))
abbrev Yc5 (x0:Za) (r:Za):Y:=(87,[.agg (Za.enc x0)],.agg (Za.ow r),[.undef])
theorem Yhw {x0:Za} {r:Za}:∀{m:Nat} {vb0:Za} {v0:Int},Zf1 x0 m vb0 v0=some r->CS (Yc5 x0 r) Tryz.f87 [1,1,1,1,0,1,0] [(1,.ptr (1,1) 0 0),(2,.ptr (1,2) 0 0),(3,.ptr (1,11) 0 0),(4,il v0)] ([bx 1 (Za.enc x0)]++Za.bk Za.z0 3++[bx 2 (Za.rl Za.z0 3),rx 12 150 (vb0.conf.masters.map Zd.enc),rx 13 156 (vb0.m.map Zb.enc),bx 11 [.sl (1,12) 0 (vb0.conf.masters.map Zd.enc).length,il vb0.conf.quantum,il vb0.conf.maxWait,il vb0.conf.maxRetry,il vb0.conf.maxSplit,il vb0.conf.lockMost,il vb0.now,.sl (1,13) 0 (vb0.m.map Zb.enc).length,il vb0.arb.at_,il vb0.arb.credit,.tr (vb0.buckets.map Zc.enc),.tr (vb0.splits.map Ze),il vb0.holder,il vb0.held,il vb0.last,bl vb0.addr.live,il vb0.addr.who,il vb0.addr.beat,bl vb0.addr.first,il vb0.addr.by_,il vb0.addr.left,il vb0.addr.resp,bl vb0.addr.second,bl vb0.data_.live,il vb0.data_.who,il vb0.data_.beat,bl vb0.data_.first,il vb0.data_.by_,il vb0.data_.left,il vb0.data_.resp,bl vb0.data_.second,.tr (vb0.model.mem.map Ze),.tr (vb0.model.dev.regs.map Ze),il vb0.model.dev.timer,.tr (vb0.model.dev.fifo.map Ze),il vb0.picks,.tr (vb0.log.map Zn.enc)]]):=by
 intro m
 induction m with
 | zero=>intro vb0 v0 h;cases h
 | succ m ih=>exactλ{vb0} {v0} h=>itK h (λg1 h=>bnK h λa0 Zx h=>bnK h λr0 Zp h=>bnK h λz0 Wr h=>Zk (ffi 1 12++[((1,13),(4,4096))]) 13 (lr Zb.enc x0.m (gg g1 (xb Zb.enc Zx (rr (Zec Zp) (kk 1 (ta Zb.enc [r0] z0 (kk 1 (oe Zf.enc r0.queue (oa 6 Zb.enc_len r0 (ox Zb.enc Wr (oe Zb.enc z0 (Za.sc Za.z0 (ln Zd.enc vb0.conf.masters (ln Zb.enc z0 ee)))))))))))))) (ih h)) λg1 h=>bnK h λz1 hz1 h=>bnK h λz2 hz2 h=>bnK h λr1 Zw h=>bnK h λz3 hz3 h=>rtK h (lr Zb.enc x0.m (gg g1 (ta Zc.enc x0.buckets z1 (ta Ze x0.splits z2 (ol 2 Zc.enc_len Zc.enc_lit x0.buckets (ob (apl Zc.enc hz1) (ob (apm Zc.enc hz1) (oe Zc.enc z1 (ol 1 Zcj Zqx x0.splits (ob (apl Ze hz2) (ob (apm Ze hz2) (oe Ze z2 (rr (Yfw Zw) (ta Zn.enc x0.log z3 (kk 8 (ol 7 Zn.enc_len Zn.enc_lit x0.log (ob (apl Zn.enc hz3) (ob (apm Zn.enc hz3) (oe Zn.enc z3 (oe Zd.enc vb0.conf.masters (oe Zb.enc vb0.m (oe Zc.enc z1 (oe Ze z2 (Zj.so r1 (oe Zn.enc z3 ee)))))))))))))))))))))))))
theorem Z3n {x0:Za} {r:Za} (h:Zp2 x0=some r):Zu Tryz.prog Mo (Yc5 x0 r):=
 Zt Tryz.func87 (bnK h λr2 Z6 h=>Zk [((1,1),(1,0)),((1,2),(1,1024)),((1,11),(2,1024)),((1,12),(3,2048)),((1,13),(4,0))] 12 (rr (Yyl Z6) (ln Zd.enc r2.masters (tp (.num ([].map Zb.enc).length 0 0 []) (ob (show 0=([].map Zb.enc).length from rfl) ee)))) (Yhw h))
abbrev Yfh (x0:Zl) (x1:Int) (r:Int):Y:=(191,[.agg (Zl.enc x0),il x1],il r,[.undef,.undef])
theorem Z38 {x0:Zl} {x1:Int} {r:Int} {v0:Bool} (h:Zoj x0 x1 v0=some r):CS (Yfh x0 x1 r) Tryz.f191 [1,0,1] [(1,il x1),(2,.ptr (1,1) 0 0),(16,bl v0)] [bx 1 (Zl.enc x0)]:=
 itK h (λg1 h=>rtK h (gg g1 ee)) λg1 h=>bnK h λa0 Zx h=>rtK h (gg g1 (xb Zd.enc Zx ee))
theorem Z61 {x0:Zl} {x1:Int} {r:Int} (h:Zi3 x0 x1=some r):Zu Tryz.prog Mo (Yfh x0 x1 r):=
 Zt Tryz.func191 (bnK h λr0 Zp h=>itK h (λg1 h=>Zk [((1,1),(1,0))] 5 (rr (Zjt Zp) (gg g1 (kk 7 ee))) (Z38 h)) λg1 h=>bnK h λr1 Zw h=>Zk [((1,1),(1,0))] 5 (rr (Zjt Zp) (gg g1 (kk 3 (lr Zd.enc x0.masters (kk 2 (rr (Z4 Zw) (kk 2 ee))))))) (Z38 h))
abbrev Y0t (x0:Z2) (x1:Zl) (r:Bool):Y:=(135,[.agg (Z2.enc x0),.agg (Zl.enc x1)],bl r,[.undef,.undef])
theorem Zxc {x0:Z2} {x1:Zl} {r:Bool} (h:Zrh x0 x1=some r):Zu Tryz.prog Mo (Y0t x0 x1 r):=
 Zt Tryz.func135 (bnK h λr0 Zp h=>itK h (λg1 h=>bnK h λr1 Zw h=>have p1 {q p} (k:Scr q p):=(rr (Zjt Zp) (gg g1 (kk 4 (lr Zd.enc x1.masters (kk 2 (rr (Z4 Zw) (kk 1 k)))))));itK h (λg2 h=>bnK h λr2 Z6 h=>bnK h λr3 Y5 h=>rtK h (p1 (gg g2 (kk 5 (rr (Z61 Z6) (kk 1 (rr (Z4 Y5) (kk 1 ee)))))))) λg2 h=>rtK h (p1 (gg g2 (kk 7 ee)))) λg1 h=>rtK h (rr (Zjt Zp) (gg g1 (kk 15 ee))))
abbrev Ycn (x0:List Int) (r:Bool):Y:=(192,[.tr (x0.map Ze)],bl r,[.undef])
theorem Ygj {x0:List Int} {r:Bool}:∀{m:Nat} {v0:Int},Zk7 x0 m v0=some r->CS (Ycn x0 r) Tryz.f192 [1,0,1,0] [(0,.tr (x0.map Ze)),(3,il v0)] []:=by
 intro m
 induction m with
 | zero=>intro v0 h;cases h
 | succ m ih=>exactλ{v0} h=>itK h (λg1 h=>bnK h λa0 Zx h=>bnK h λr0 Zp h=>itK h (λg2 h=>rtK h (lr Ze x0 (gg g1 (xb Ze Zx (rr (Z4 Zp) (gg g2 ee)))))) λg2 h=>Zk [] 14 (lr Ze x0 (gg g1 (xb Ze Zx (rr (Z4 Zp) (gg g2 ee))))) (ih h)) λg1 h=>rtK h (lr Ze x0 (gg g1 (lr Ze x0 ee)))
theorem Zv3 {x0:List Int} {r:Bool} (h:Zp8 x0=some r):Zu Tryz.prog Mo (Ycn x0 r):=
 Zt Tryz.func192 (Zk [] 6 ee (Ygj h))
abbrev Yc9 (x0:List Int) (r:Bool):Y:=(242,[.tr (x0.map Ze)],bl r,[.undef])
theorem Yhq {x0:List Int} {r:Bool}:∀{m:Nat} {v0:Int},Zlb x0 m v0=some r->CS (Yc9 x0 r) Tryz.f242 [1,0,1,0] [(0,.tr (x0.map Ze)),(3,il v0)] []:=by
 intro m
 induction m with
 | zero=>intro v0 h;cases h
 | succ m ih=>exactλ{v0} h=>itK h (λg1 h=>bnK h λa0 Zx h=>bnK h λr0 Zp h=>bnK h λr1 Zw h=>have p1 {q p} (k:Scr q p):=(lr Ze x0 (gg g1 (xb Ze Zx (rr (Zcz Zp) (rr (Z4 Zw) k)))));itK h (λg2 h=>rtK h (p1 (gg g2 ee))) λg2 h=>Zk [] 14 (p1 (gg g2 ee)) (ih h)) λg1 h=>rtK h (lr Ze x0 (gg g1 ee))
theorem Ycm {x0:List Int} {r:Bool} (h:Zps x0=some r):Zu Tryz.prog Mo (Yc9 x0 r):=
 Zt Tryz.func242 (Zk [] 6 ee (Yhq h))
abbrev Y2n (x0:Zo) (r:Bool):Y:=(193,[.agg (Zo.enc x0)],bl r,[.undef])
theorem Ykv {x0:Zo} {r:Bool} (h:Zwk x0=some r):Zu Tryz.prog Mo (Y2n x0 r):=
 Zt Tryz.func193 (itK h (λg1 h=>bnK h λr0 Zp h=>have p1 {q p} (k:Scr q p):=(lr Ze x0.regs (gg g1 (kk 2 (rr (Ycm Zp) (kk 1 k)))));itK h (λg2 h=>bnK h λr1 Zw h=>bnK h λr2 Z6 h=>have p2 {q p} (k:Scr q p):=(p1 (gg g2 (kk 2 (rr (Zcz Zw) (kk 2 (rr (Z4 Z6) (kk 1 k)))))));itK h (λg3 h=>itK h (λg4 h=>bnK h λr3 Y5 h=>rtK h (p2 (gg g3 (kk 2 (lr Ze x0.fifo (kk 2 (gg g4 (kk 2 (rr (Ycm Y5) (kk 1 ee)))))))))) λg4 h=>rtK h (p2 (gg g3 (kk 2 (lr Ze x0.fifo (kk 2 (gg g4 (kk 3 ee)))))))) λg3 h=>rtK h (p2 (gg g3 (kk 8 ee)))) λg2 h=>rtK h (p1 (gg g2 (kk 14 ee)))) λg1 h=>rtK h (lr Ze x0.regs (gg g1 (kk 18 ee))))
abbrev Ysq (x0:Zj) (r:Bool):Y:=(136,[.agg (Zj.enc x0)],bl r,[.undef])
theorem Ycl {x0:Zj} {r:Bool} (h:Zpx x0=some r):Zu Tryz.prog Mo (Ysq x0 r):=
 Zt Tryz.func136 (itK h (λg1 h=>bnK h λr0 Zp h=>itK h (λg2 h=>bnK h λr1 Zw h=>rtK h (lr Ze x0.mem (gg g1 (kk 2 (rr (Zv3 Zp) (kk 1 (gg g2 (kk 2 (rr (Ykv Zw) (kk 1 ee)))))))))) λg2 h=>rtK h (lr Ze x0.mem (gg g1 (kk 2 (rr (Zv3 Zp) (kk 1 (gg g2 (kk 3 ee)))))))) λg1 h=>rtK h (lr Ze x0.mem (gg g1 (kk 7 ee))))
abbrev Yn5 (x0:Zb) (r:Int):Y:=(243,[.agg (Zb.enc x0)],il r,[.undef])
theorem Zer {x0:Zb} {r:Int} (h:Zc5 x0=some r):Zu Tryz.prog Mo (Yn5 x0 r):=
 Zt Tryz.func243 (itK h (λg1 h=>rtK h (lr Zf.enc x0.queue (gg g1 ee))) λg1 h=>bnK h λa0 Zx h=>bnK h λr0 Zp h=>rtK h (lr Zf.enc x0.queue (gg g1 (xb Zf.enc Zx (rr (Zed Zp) ee)))))
abbrev Zzu (x0:Zb) (r:Bool):Y:=(194,[.agg (Zb.enc x0)],bl r,[.undef])
theorem Zzj {x0:Zb} {r:Bool} {v0:Bool} (h:Zan x0 v0=some r):CS (Zzu x0 r) Tryz.f194 [1,1,0,1] [(1,.ptr (1,1) 0 0),(26,bl v0)] [bx 1 (Zb.enc x0)]:=
 itK h (λg1 h=>rtK h (gg g1 ee)) λg1 h=>have p1 {q p} (k:Scr q p):=(gg g1 (lr Zf.enc x0.queue k));itK h (λg2 h=>itK h (λg3 h=>itK h (λg4 h=>have p2 {q p} (k:Scr q p):=(p1 (gg g2 (gg g3 (kk 3 (gg g4 (kk 3 k))))));itK h (λg5 h=>itK h (λg6 h=>rtK h (p2 (gg g5 (kk 3 (gg g6 (kk 3 ee)))))) λg6 h=>rtK h (p2 (gg g5 (kk 3 (gg g6 (kk 3 ee)))))) λg5 h=>rtK h (p2 (gg g5 (kk 7 ee)))) λg4 h=>rtK h (p1 (gg g2 (gg g3 (kk 3 (gg g4 (kk 11 ee))))))) λg3 h=>rtK h (p1 (gg g2 (gg g3 (kk 15 ee))))) λg2 h=>bnK h λr0 Zp h=>bnK h λr1 Zw h=>itK h (λg3 h=>bnK h λr2 Z6 h=>bnK h λr3 Y5 h=>rtK h (p1 (gg g2 (rr (Zer Zp) (rr (Z4 Zw) (gg g3 (kk 8 (rr (Zer Z6) (kk 2 (rr (Z4 Y5) (kk 1 ee))))))))))) λg3 h=>rtK h (p1 (gg g2 (rr (Zer Zp) (rr (Z4 Zw) (gg g3 (kk 11 ee))))))
theorem Ye0 {x0:Zb} {r:Bool}:∀{m:Nat} {v1:Int},Ziy x0 m v1=some r->CS (Zzu x0 r) Tryz.f194 [1,0,1,0] [(1,.ptr (1,1) 0 0),(3,il v1)] [bx 1 (Zb.enc x0)]:=by
 intro m
 induction m with
 | zero=>intro v1 h;cases h
 | succ m ih=>exactλ{v1} h=>itK h (λg1 h=>bnK h λa0 Zx h=>bnK h λr4 Qz h=>have p1 {q p} (k:Scr q p):=(lr Zf.enc x0.queue (gg g1 (xb Zf.enc Zx (rr (Z8c Qz) k))));itK h (λg2 h=>rtK h (p1 (gg g2 ee))) λg2 h=>Zk [((1,1),(1,1))] 14 (p1 (gg g2 ee)) (ih h)) λg1 h=>itK h (λg2 h=>Zk [((1,1),(1,1))] 12 (lr Zf.enc x0.queue (gg g1 (lr Zf.enc x0.queue (gg g2 (kk 3 ee))))) (Zzj h)) λg2 h=>Zk [((1,1),(1,1))] 12 (lr Zf.enc x0.queue (gg g1 (lr Zf.enc x0.queue (gg g2 (kk 3 ee))))) (Zzj h)
theorem J7 {x0:Zb} {r:Bool} (h:Zbm x0=some r):Zu Tryz.prog Mo (Zzu x0 r):=
 Zt Tryz.func194 (Zk [((1,1),(1,0))] 6 ee (Ye0 h))
abbrev Y02 (x0:Zb) (x1:Zl) (r:Bool):Y:=(137,[.agg (Zb.enc x0),.agg (Zl.enc x1)],bl r,[.undef,.undef])
theorem Y12 {x0:Zb} {x1:Zl} {r:Bool} (h:Z81 x0 x1=some r):Zu Tryz.prog Mo (Y02 x0 x1 r):=
 Zt Tryz.func137 (bnK h λr0 Zp h=>itK h (λg1 h=>bnK h λr1 Zw h=>have p1 {q p} (k:Scr q p):=(rr (Zjt Zp) (gg g1 (kk 1 (rr (J7 Zw) (kk 1 k)))));itK h (λg2 h=>rtK h (p1 (gg g2 (kk 5 ee)))) λg2 h=>rtK h (p1 (gg g2 (kk 5 ee)))) λg1 h=>rtK h (rr (Zjt Zp) (gg g1 (kk 8 ee))))
abbrev Ynk (x0:Zc) (x1:Zd) (r:Bool):Y:=(138,[.agg (Zc.enc x0),.agg (Zd.enc x1)],bl r,[.undef,.undef])
theorem Zm3 {x0:Zc} {x1:Zd} {r:Bool} (h:Zeu x0 x1=some r):Zu Tryz.prog Mo (Ynk x0 x1 r):=
 Zt Tryz.func138 (itK h (λg1 h=>rtK h (gg g1 ee)) λg1 h=>bnK h λr0 Zp h=>itK h (λg2 h=>bnK h λr1 Zw h=>rtK h (gg g1 (rr (Z4 Zp) (gg g2 (kk 5 (rr (Z4 Zw) (kk 1 ee))))))) λg2 h=>rtK h (gg g1 (rr (Z4 Zp) (gg g2 (kk 6 ee)))))
abbrev Z3y (x0:Za) (x1:Int) (r:Int):Y:=(139,[.agg (Za.enc x0),il x1],il r,[.undef,.undef])
theorem Z1b {x0:Za} {x1:Int} {r:Int} {v0:Int} (h:Zls x0 x1 v0=some r):CS (Z3y x0 x1 r) Tryz.f139 [1,1,1] [(1,il x1),(2,.ptr (1,1) 0 0),(5,il v0)] [bx 1 (Za.enc x0)]:=
 itK h (λg1 h=>itK h (λg2 h=>rtK h (gg g1 (kk 5 (gg g2 ee)))) λg2 h=>rtK h (gg g1 (kk 5 (gg g2 ee)))) λg1 h=>rtK h (gg g1 (kk 6 ee))
theorem Z2a {x0:Za} {x1:Int} {r:Int} {v1:Bool} (h:Zl3 x0 x1 v1=some r):CS (Z3y x0 x1 r) Tryz.f139 [1,1,0,1] [(1,il x1),(2,.ptr (1,1) 0 0),(5,il 0),(15,bl v1)] [bx 1 (Za.enc x0)]:=
 itK h (λg1 h=>Zk [((1,1),(1,1))] 2 (gg g1 ee) (Z1b h)) λg1 h=>Zk [((1,1),(1,1))] 2 (gg g1 ee) (Z1b h)
theorem Ytl {x0:Za} {x1:Int} {r:Int} (h:Zvf x0 x1=some r):Zu Tryz.prog Mo (Z3y x0 x1 r):=
 Zt Tryz.func139 (itK h (λg1 h=>Zk [((1,1),(1,0))] 7 (gg g1 (kk 5 ee)) (Z2a h)) λg1 h=>Zk [((1,1),(1,0))] 7 (gg g1 (kk 5 ee)) (Z2a h))
abbrev Yn0 (x0:Int) (r:ByteArray):Y:=(195,[il x0],ss r,[.undef])
theorem Yqt {x0:Int} {r:ByteArray} (h:Zst x0=some r):Zu Tryz.prog Mo (Yn0 x0 r):=
 Zt Tryz.func195 (bnK h λr0 Zp h=>itK h (λg1 h=>rtK h (rr (Z4 Zp) (gg g1 ee))) λg1 h=>bnK h λa0 Zx h=>rtK h (rr (Z4 Zp) (gg g1 (xd encS Zx ee))))
abbrev Z3e (x0:Za) (x1:Zh) (x2:Bool) (r:Bool):Y:=(140,[.agg (Za.enc x0),.agg (Zh.enc x1),bl x2],bl r,[.undef,.undef,.undef])
theorem Wp {x0:Za} {x1:Zh} {x2:Bool} {r:Bool} {vb0:Zb} {v0:Bool} (h:Yj x0 x1 x2 vb0 v0=some r):CS (Z3e x0 x1 x2 r) Tryz.f140 [1,1,1,1,1,0,1] [(3,.ptr (1,1) 0 0),(4,.ptr (1,2) 0 0),(7,.ptr (1,3) 0 0),(101,bl v0)] [bx 1 (Za.enc x0),bx 2 (Zh.enc x1),bx 3 (Zb.enc vb0)]:=
 itK h (λg1 h=>rtK h (gg g1 ee)) λg1 h=>itK h (λg2 h=>bnK h λr0 Zp h=>have p1 {q p} (k:Scr q p):=(gg g1 (gg g2 (kk 6 (rr (Z4 Zp) (kk 1 k)))));itK h (λg3 h=>bnK h λr1 Zw h=>have p2 {q p} (k:Scr q p):=(p1 (gg g3 (kk 2 (rr (Yqt Zw) (kk 2 k)))));itK h (λg4 h=>itK h (λg5 h=>rtK h (p2 (gg g4 (kk 3 (gg g5 (kk 7 ee)))))) λg5 h=>itK h (λg6 h=>rtK h (p2 (gg g4 (kk 3 (gg g5 (kk 3 (gg g6 (kk 7 ee)))))))) λg6 h=>rtK h (p2 (gg g4 (kk 3 (gg g5 (kk 3 (gg g6 (kk 7 ee)))))))) λg4 h=>rtK h (p2 (gg g4 (kk 5 ee)))) λg3 h=>rtK h (p1 (gg g3 (kk 10 ee)))) λg2 h=>rtK h (gg g1 (gg g2 (kk 18 ee)))
theorem Zs6 {x0:Za} {x1:Zh} {x2:Bool} {r:Bool} {v1:Bool} (h:Q5 x0 x1 x2 v1=some r):CS (Z3e x0 x1 x2 r) Tryz.f140 [1,1,0,1] [(2,bl x2),(3,.ptr (1,1) 0 0),(4,.ptr (1,2) 0 0),(36,bl v1)] [bx 1 (Za.enc x0),bx 2 (Zh.enc x1)]:=
 itK h (λg1 h=>rtK h (gg g1 ee)) λg1 h=>bnK h λa0 Zx h=>have p1 {q p} (k:Scr q p):=(gg g1 (xb Zb.enc Zx k));itK h (λg2 h=>itK h (λg3 h=>itK h (λg4 h=>itK h (λg5 h=>rtK h (p1 (gg g2 (gg g3 (kk 3 (gg g4 (kk 3 (gg g5 (kk 3 ee))))))))) λg5 h=>rtK h (p1 (gg g2 (gg g3 (kk 3 (gg g4 (kk 3 (gg g5 (kk 3 ee))))))))) λg4 h=>rtK h (p1 (gg g2 (gg g3 (kk 3 (gg g4 (kk 7 ee))))))) λg3 h=>rtK h (p1 (gg g2 (gg g3 (kk 11 ee))))) λg2 h=>itK h (λg3 h=>have p2 {q p} (k:Scr q p):=(p1 (gg g2 (gg g3 (kk 6 k))));itK h (λg4 h=>Zk [((1,1),(1,1)),((1,2),(1,2)),((1,3),(2,6144))] 12 (p2 (gg g4 (kk 10 ee))) (Wp h)) λg4 h=>itK h (λg5 h=>have p3 {q p} (k:Scr q p):=(p2 (gg g4 (kk 3 (gg g5 (kk 2 k)))));itK h (λg6 h=>Zk [((1,1),(1,1)),((1,2),(1,2)),((1,3),(2,6144))] 12 (p3 (gg g6 (kk 14 ee))) (Wp h)) λg6 h=>itK h (λg7 h=>Zk [((1,1),(1,1)),((1,2),(1,2)),((1,3),(2,6144))] 12 (p3 (gg g6 (kk 9 (gg g7 (kk 4 ee))))) (Wp h)) λg7 h=>itK h (λg8 h=>Zk [((1,1),(1,1)),((1,2),(1,2)),((1,3),(2,6144))] 12 (p3 (gg g6 (kk 9 (gg g7 (kk 2 (gg g8 (kk 5 ee))))))) (Wp h)) λg8 h=>Zk [((1,1),(1,1)),((1,2),(1,2)),((1,3),(2,6144))] 12 (p3 (gg g6 (kk 9 (gg g7 (kk 2 (gg g8 (kk 5 ee))))))) (Wp h)) λg5 h=>itK h (λg6 h=>Zk [((1,1),(1,1)),((1,2),(1,2)),((1,3),(2,6144))] 12 (p2 (gg g4 (kk 3 (gg g5 (kk 9 (gg g6 (kk 5 ee))))))) (Wp h)) λg6 h=>Zk [((1,1),(1,1)),((1,2),(1,2)),((1,3),(2,6144))] 12 (p2 (gg g4 (kk 3 (gg g5 (kk 9 (gg g6 (kk 5 ee))))))) (Wp h)) λg3 h=>have p4 {q p} (k:Scr q p):=(p1 (gg g2 (gg g3 (kk 10 k))));itK h (λg4 h=>itK h (λg5 h=>Zk [((1,1),(1,1)),((1,2),(1,2)),((1,3),(2,6144))] 12 (p4 (gg g4 (kk 2 (gg g5 (kk 14 ee))))) (Wp h)) λg5 h=>itK h (λg6 h=>Zk [((1,1),(1,1)),((1,2),(1,2)),((1,3),(2,6144))] 12 (p4 (gg g4 (kk 2 (gg g5 (kk 9 (gg g6 (kk 4 ee))))))) (Wp h)) λg6 h=>itK h (λg7 h=>Zk [((1,1),(1,1)),((1,2),(1,2)),((1,3),(2,6144))] 12 (p4 (gg g4 (kk 2 (gg g5 (kk 9 (gg g6 (kk 2 (gg g7 (kk 5 ee))))))))) (Wp h)) λg7 h=>Zk [((1,1),(1,1)),((1,2),(1,2)),((1,3),(2,6144))] 12 (p4 (gg g4 (kk 2 (gg g5 (kk 9 (gg g6 (kk 2 (gg g7 (kk 5 ee))))))))) (Wp h)) λg4 h=>itK h (λg5 h=>Zk [((1,1),(1,1)),((1,2),(1,2)),((1,3),(2,6144))] 12 (p4 (gg g4 (kk 9 (gg g5 (kk 5 ee))))) (Wp h)) λg5 h=>Zk [((1,1),(1,1)),((1,2),(1,2)),((1,3),(2,6144))] 12 (p4 (gg g4 (kk 9 (gg g5 (kk 5 ee))))) (Wp h)
theorem Ycx {x0:Za} {x1:Zh} {x2:Bool} {r:Bool} (h:Zcw x0 x1 x2=some r):Zu Tryz.prog Mo (Z3e x0 x1 x2 r):=
 Zt Tryz.func140 (itK h (λg1 h=>rtK h (gg g1 ee)) λg1 h=>bnK h λr2 Z6 h=>have p1 {q p} (k:Scr q p):=(gg g1 (lr Zb.enc x0.m (rr (Z4 Z6) k)));itK h (λg2 h=>Zk [((1,1),(1,0)),((1,2),(1,1024))] 10 (p1 (gg g2 (kk 12 ee))) (Zs6 h)) λg2 h=>bnK h λr3 Y5 h=>itK h (λg3 h=>Zk [((1,1),(1,0)),((1,2),(1,1024))] 10 (p1 (gg g2 (kk 2 (rr (Z4 Y5) (kk 2 (gg g3 (kk 7 ee))))))) (Zs6 h)) λg3 h=>bnK h λa1 Yw h=>Zk [((1,1),(1,0)),((1,2),(1,1024))] 10 (p1 (gg g2 (kk 2 (rr (Z4 Y5) (kk 2 (gg g3 (kk 4 (xb Ze Yw (kk 3 ee))))))))) (Zs6 h))
abbrev Z29 (x0:Za) (r:Bool):Y:=(141,[.agg (Za.enc x0)],bl r,[.undef])
theorem Z2e {x0:Za} {r:Bool} {v0:Bool} (h:Zbn x0 v0=some r):CS (Z29 x0 r) Tryz.f141 [1,1,1,0,1] [(1,.ptr (1,1) 0 0),(67,bl v0)] [bx 1 (Za.enc x0)]:=
 itK h (λg1 h=>rtK h (gg g1 ee)) λg1 h=>bnK h λa0 Zx h=>have p1 {q p} (k:Scr q p):=(gg g1 (xb Zb.enc Zx (lr Zf.enc a0.queue k)));itK h (λg2 h=>bnK h λa1 Yw h=>have p2 {q p} (k:Scr q p):=(p1 (gg g2 (kk 2 (xb Zf.enc Yw (kk 3 k)))));itK h (λg3 h=>itK h (λg4 h=>bnK h λa2 Kt h=>rtK h (p2 (gg g3 (kk 3 (gg g4 (kk 4 (xb Ze Kt (kk 3 ee)))))))) λg4 h=>rtK h (p2 (gg g3 (kk 3 (gg g4 (kk 7 ee)))))) λg3 h=>rtK h (p2 (gg g3 (kk 11 ee)))) λg2 h=>rtK h (p1 (gg g2 (kk 17 ee)))
theorem Ygl {x0:Za} {r:Bool}:∀{m:Nat} {v1:Int},Zsj x0 m v1=some r->CS (Z29 x0 r) Tryz.f141 [1,0,1,0] [(1,.ptr (1,1) 0 0),(3,il v1)] [bx 1 (Za.enc x0)]:=by
 intro m
 induction m with
 | zero=>intro v1 h;cases h
 | succ m ih=>exactλ{v1} h=>have p1 {q p} (k:Scr q p):=(lr Zb.enc x0.m k);itK h (λg1 h=>bnK h λa3 ha3 h=>have p2 {q p} (k:Scr q p):=(p1 (gg g1 (xb Zb.enc ha3 k)));itK h (λg2 h=>bnK h λa4 ha4 h=>have p3 {q p} (k:Scr q p):=(p2 (gg g2 (kk 3 (xb Zb.enc ha3 (kk 3 (xb Zf.enc ha4 (kk 3 k)))))));itK h (λg3 h=>have p4 {q p} (k:Scr q p):=(p3 (gg g3 (kk 3 (xb Zb.enc ha3 (kk 4 k)))));itK h (λg4 h=>itK h (λg5 h=>rtK h (p4 (gg g4 (kk 4 (gg g5 ee))))) λg5 h=>Zk [((1,1),(1,1))] 14 (p4 (gg g4 (kk 4 (gg g5 ee)))) (ih h)) λg4 h=>Zk [((1,1),(1,1))] 14 (p4 (gg g4 (kk 5 ee))) (ih h)) λg3 h=>Zk [((1,1),(1,1))] 14 (p3 (gg g3 (kk 13 ee))) (ih h)) λg2 h=>Zk [((1,1),(1,1))] 14 (p2 (gg g2 (kk 23 ee))) (ih h)) λg1 h=>itK h (λg2 h=>rtK h (p1 (gg g1 (gg g2 ee)))) λg2 h=>bnK h λr0 Zp h=>itK h (λg3 h=>Zk [((1,1),(1,1))] 17 (p1 (gg g1 (gg g2 (lr Zb.enc x0.m (rr (Z4 Zp) (gg g3 (kk 7 ee))))))) (Z2e h)) λg3 h=>bnK h λr1 Zw h=>Zk [((1,1),(1,1))] 17 (p1 (gg g1 (gg g2 (lr Zb.enc x0.m (rr (Z4 Zp) (gg g3 (kk 5 (rr (Z4 Zw) (kk 2 ee))))))))) (Z2e h)
theorem Ybv {x0:Za} {r:Bool} (h:Zpk x0=some r):Zu Tryz.prog Mo (Z29 x0 r):=
 Zt Tryz.func141 (Zk [((1,1),(1,0))] 6 ee (Ygl h))
abbrev Yhy (x0:Za) (r:Bool):Y:=(142,[.agg (Za.enc x0)],bl r,[.undef])
theorem Yjn {x0:Za} {r:Bool}:∀{m:Nat} {v0:Int},Zo1 x0 m v0=some r->CS (Yhy x0 r) Tryz.f142 [1,0,1,0] [(1,.ptr (1,1) 0 0),(3,il v0)] [bx 1 (Za.enc x0)]:=by
 intro m
 induction m with
 | zero=>intro v0 h;cases h
 | succ m ih=>exactλ{v0} h=>have p1 {q p} (k:Scr q p):=(lr Zn.enc x0.log k);itK h (λg1 h=>bnK h λa0 Zx h=>bnK h λr0 Zp h=>have p2 {q p} (k:Scr q p):=(p1 (gg g1 (xb Zn.enc Zx (rr (Z4 Zp) k))));itK h (λg2 h=>rtK h (p2 (gg g2 (kk 40 ee)))) λg2 h=>have p3 {q p} (k:Scr q p):=(p2 (gg g2 (kk 2 k)));itK h (λg3 h=>bnK h λa1 Yw h=>have p4 {q p} (k:Scr q p):=(p3 (gg g3 (kk 6 (xb Zn.enc Yw (kk 6 k)))));itK h (λg4 h=>rtK h (p4 (gg g4 (kk 35 ee)))) λg4 h=>bnK h λr1 Zw h=>have p5 {q p} (k:Scr q p):=(p4 (gg g4 (kk 4 (lr Zb.enc x0.m (kk 2 (rr (Z4 Zw) (kk 2 k)))))));itK h (λg5 h=>rtK h (p5 (gg g5 (kk 26 ee)))) λg5 h=>bnK h λr2 Z6 h=>have p6 {q p} (k:Scr q p):=(p5 (gg g5 (kk 4 (rr (Zpt Z6) (kk 2 k)))));itK h (λg6 h=>rtK h (p6 (gg g6 (kk 19 ee)))) λg6 h=>bnK h λr3 Y5 h=>have p7 {q p} (k:Scr q p):=(p6 (gg g6 (kk 2 (rr (Z4 Y5) (kk 2 k)))));itK h (λg7 h=>rtK h (p7 (gg g7 (kk 14 ee)))) λg7 h=>bnK h λr4 Qz h=>bnK h λr5 hr5 h=>have p8 {q p} (k:Scr q p):=(p7 (gg g7 (kk 4 (rr (Zcz Qz) (kk 2 (rr (Z4 hr5) (kk 2 k)))))));itK h (λg8 h=>rtK h (p8 (gg g8 (kk 5 ee)))) λg8 h=>bnK h λr6 hr6 h=>itK h (λg9 h=>rtK h (p8 (gg g8 (kk 2 (rr (Z4 hr6) (kk 2 (gg g9 ee))))))) λg9 h=>Zk [((1,1),(1,1))] 16 (p8 (gg g8 (kk 2 (rr (Z4 hr6) (kk 2 (gg g9 ee)))))) (ih h)) λg3 h=>bnK h λr1 Zw h=>have p9 {q p} (k:Scr q p):=(p3 (gg g3 (kk 17 (lr Zb.enc x0.m (kk 2 (rr (Z4 Zw) (kk 2 k)))))));itK h (λg4 h=>rtK h (p9 (gg g4 (kk 26 ee)))) λg4 h=>bnK h λr2 Z6 h=>have p10 {q p} (k:Scr q p):=(p9 (gg g4 (kk 4 (rr (Zpt Z6) (kk 2 k)))));itK h (λg5 h=>rtK h (p10 (gg g5 (kk 19 ee)))) λg5 h=>bnK h λr3 Y5 h=>have p11 {q p} (k:Scr q p):=(p10 (gg g5 (kk 2 (rr (Z4 Y5) (kk 2 k)))));itK h (λg6 h=>rtK h (p11 (gg g6 (kk 14 ee)))) λg6 h=>bnK h λr4 Qz h=>bnK h λr5 hr5 h=>have p12 {q p} (k:Scr q p):=(p11 (gg g6 (kk 4 (rr (Zcz Qz) (kk 2 (rr (Z4 hr5) (kk 2 k)))))));itK h (λg7 h=>rtK h (p12 (gg g7 (kk 5 ee)))) λg7 h=>bnK h λr6 hr6 h=>itK h (λg8 h=>rtK h (p12 (gg g7 (kk 2 (rr (Z4 hr6) (kk 2 (gg g8 ee))))))) λg8 h=>Zk [((1,1),(1,1))] 16 (p12 (gg g7 (kk 2 (rr (Z4 hr6) (kk 2 (gg g8 ee)))))) (ih h)) λg1 h=>rtK h (p1 (gg g1 ee))
theorem Ywp {x0:Za} {r:Bool} (h:Zsk x0=some r):Zu Tryz.prog Mo (Yhy x0 r):=
 Zt Tryz.func142 (Zk [((1,1),(1,0))] 6 ee (Yjn h))
abbrev Z8x (x0:Za) (r:Bool):Y:=(86,[.agg (Za.enc x0)],bl r,[.undef])
theorem Ymz {x0:Za} {r:Bool}:∀{m:Nat} {v0:Int},Zqi x0 m v0=some r->CS (Z8x x0 r) Tryz.f86 [1,1,1,0,1,0] [(1,.ptr (1,1) 0 0),(3,il (x0.conf.masters.length:Int)),(4,il v0)] [bx 1 (Za.enc x0)]:=by
 intro m
 induction m with
 | zero=>intro v0 h;cases h
 | succ m ih=>exactλ{v0} h=>itK h (λg1 h=>bnK h λa0 Zx h=>bnK h λr0 Zp h=>have p1 {q p} (k:Scr q p):=(gg g1 (xb Zb.enc Zx (rr (Y12 Zp) k)));itK h (λg2 h=>rtK h (p1 (gg g2 (kk 43 ee)))) λg2 h=>bnK h λa1 Yw h=>bnK h λa2 Kt h=>bnK h λr1 Zw h=>have p2 {q p} (k:Scr q p):=(p1 (gg g2 (kk 3 (xb Zc.enc Yw (kk 6 (xb Zd.enc Kt (kk 2 (rr (Zm3 Zw) (kk 2 k)))))))));itK h (λg3 h=>rtK h (p2 (gg g3 (kk 29 ee)))) λg3 h=>bnK h λa3 ha3 h=>bnK h λr2 Z6 h=>have p3 {q p} (k:Scr q p):=(p2 (gg g3 (kk 3 (xb Ze ha3 (kk 5 (rr (Z4 Z6) (kk 2 k)))))));itK h (λg4 h=>rtK h (p3 (gg g4 (kk 18 ee)))) λg4 h=>bnK h λr3 Y5 h=>have p4 {q p} (k:Scr q p):=(p3 (gg g4 (kk 3 (xb Zb.enc Zx (kk 6 (xb Zb.enc Zx (kk 6 (rr (Ytl Y5) (kk 2 k)))))))));itK h (λg5 h=>rtK h (p4 (gg g5 ee))) λg5 h=>Zk [((1,1),(1,1))] 14 (p4 (gg g5 ee)) (ih h)) λg1 h=>bnK h λr4 Qz h=>have p5 {q p} (k:Scr q p):=(gg g1 (rr (Ycx Qz) k));itK h (λg2 h=>bnK h λr5 hr5 h=>have p6 {q p} (k:Scr q p):=(p5 (gg g2 (kk 3 (rr (Ycx hr5) (kk 1 k)))));itK h (λg3 h=>bnK h λr6 hr6 h=>itK h (λg4 h=>bnK h λr7 hr7 h=>rtK h (p6 (gg g3 (kk 1 (rr (Ybv hr6) (kk 1 (gg g4 (kk 1 (rr (Ywp hr7) (kk 1 ee)))))))))) λg4 h=>rtK h (p6 (gg g3 (kk 1 (rr (Ybv hr6) (kk 1 (gg g4 (kk 2 ee)))))))) λg3 h=>rtK h (p6 (gg g3 (kk 5 ee)))) λg2 h=>rtK h (p5 (gg g2 (kk 10 ee)))
theorem Jl {x0:Za} {r:Bool} {v1:Bool} (h:W3 x0 v1=some r):CS (Z8x x0 r) Tryz.f86 [1,1,0,1] [(1,.ptr (1,1) 0 0),(3,il (x0.conf.masters.length:Int)),(73,bl v1)] [bx 1 (Za.enc x0)]:=
 itK h (λg1 h=>rtK h (gg g1 ee)) λg1 h=>Zk [((1,1),(1,1))] 6 (gg g1 ee) (Ymz h)
theorem Yku {x0:Za} {r:Bool} (h:Zma x0=some r):Zu Tryz.prog Mo (Z8x x0 r):=
 Zt Tryz.func86 (bnK h λr8 hr8 h=>have p1 {q p} (k:Scr q p):=(lr Zd.enc x0.conf.masters (rr (Zjt hr8) k));itK h (λg1 h=>Zk [((1,1),(1,0))] 7 (p1 (gg g1 (kk 51 ee))) (Jl h)) λg1 h=>bnK h λr9 hr9 h=>have p2 {q p} (k:Scr q p):=(p1 (gg g1 (kk 2 (rr (Z4 hr9) (kk 2 k)))));itK h (λg2 h=>Zk [((1,1),(1,0))] 7 (p2 (gg g2 (kk 46 ee))) (Jl h)) λg2 h=>have p3 {q p} (k:Scr q p):=(p2 (gg g2 (kk 2 (lr Zb.enc x0.m (kk 3 k)))));itK h (λg3 h=>Zk [((1,1),(1,0))] 7 (p3 (gg g3 (kk 40 ee))) (Jl h)) λg3 h=>have p4 {q p} (k:Scr q p):=(p3 (gg g3 (kk 2 (lr Zc.enc x0.buckets (kk 3 k)))));itK h (λg4 h=>Zk [((1,1),(1,0))] 7 (p4 (gg g4 (kk 34 ee))) (Jl h)) λg4 h=>have p5 {q p} (k:Scr q p):=(p4 (gg g4 (kk 2 (lr Ze x0.splits (kk 3 k)))));itK h (λg5 h=>Zk [((1,1),(1,0))] 7 (p5 (gg g5 (kk 28 ee))) (Jl h)) λg5 h=>bnK h λr10 hr10 h=>have p6 {q p} (k:Scr q p):=(p5 (gg g5 (kk 4 (rr (Zxc hr10) (kk 2 k)))));itK h (λg6 h=>Zk [((1,1),(1,0))] 7 (p6 (gg g6 (kk 21 ee))) (Jl h)) λg6 h=>bnK h λr11 hr11 h=>have p7 {q p} (k:Scr q p):=(p6 (gg g6 (kk 4 (rr (Z4 hr11) (kk 2 k)))));itK h (λg7 h=>Zk [((1,1),(1,0))] 7 (p7 (gg g7 (kk 14 ee))) (Jl h)) λg7 h=>bnK h λr12 hr12 h=>have p8 {q p} (k:Scr q p):=(p7 (gg g7 (kk 2 (rr (Ycl hr12) (kk 2 k)))));itK h (λg8 h=>Zk [((1,1),(1,0))] 7 (p8 (gg g8 (kk 9 ee))) (Jl h)) λg8 h=>itK h (λg9 h=>Zk [((1,1),(1,0))] 7 (p8 (gg g8 (kk 3 (gg g9 (kk 5 ee))))) (Jl h)) λg9 h=>Zk [((1,1),(1,0))] 7 (p8 (gg g8 (kk 3 (gg g9 (kk 5 ee))))) (Jl h))
abbrev Yda (x0:Zb) (x1:Int) (r:Int):Y:=(199,[.agg (Zb.enc x0),il x1],il r,[.undef,.undef])
theorem Z2p {x0:Zb} {x1:Int} {r:Int} {v0:Bool} (h:Zlf x0 x1 v0=some r):CS (Yda x0 x1 r) Tryz.f199 [1,0,1] [(1,il x1),(2,.ptr (1,1) 0 0),(16,bl v0)] [bx 1 (Zb.enc x0)]:=
 itK h (λg1 h=>rtK h (gg g1 ee)) λg1 h=>bnK h λa0 Zx h=>bnK h λr0 Zp h=>bnK h λa1 Yw h=>rtK h (gg g1 (xb Zf.enc Zx (rr (Z35 Zp) (xd Ze Yw ee))))
theorem Zpn {x0:Zb} {x1:Int} {r:Int} (h:Zha x0 x1=some r):Zu Tryz.prog Mo (Yda x0 x1 r):=
 Zt Tryz.func199 (bnK h λr1 Zw h=>itK h (λg1 h=>Zk [((1,1),(1,0))] 5 (rr (J7 Zw) (gg g1 (kk 6 ee))) (Z2p h)) λg1 h=>bnK h λr2 Z6 h=>bnK h λr3 Y5 h=>Zk [((1,1),(1,0))] 5 (rr (J7 Zw) (gg g1 (kk 2 (rr (Zer Z6) (kk 2 (rr (Z4 Y5) (kk 2 ee))))))) (Z2p h))
abbrev Ydc (x0:Za) (r:Zg):Y:=(145,[.agg (Za.enc x0)],.agg (Zg.enc r),[.undef])
theorem Zr9 {x0:Za} {r:Zg} {vb0:Zg} (h:Zf6 x0 vb0=some r):CS (Ydc x0 r) Tryz.f145 [1,1,1] [(1,.ptr (1,1) 0 0),(2,.ptr (1,2) 0 0),(3,.ptr (1,3) 0 0)] [bx 1 (Za.enc x0),bx 2 (Zg.enc Zg.z0),bx 3 (Zg.enc vb0)]:=
 itK h (λg1 h=>bnK h λa0 Zx h=>bnK h λr0 Zp h=>rtK h (gg g1 (xb Zb.enc Zx (rr (Zpn Zp) ee)))) λg1 h=>rtK h (gg g1 ee)
theorem Ytt {x0:Za} {r:Zg} (h:Zvp x0=some r):Zu Tryz.prog Mo (Ydc x0 r):=
 Zt Tryz.func145 (itK h (λg1 h=>bnK h λa1 Yw h=>bnK h λr1 Zw h=>itK h (λg2 h=>Zk [((1,1),(1,0)),((1,2),(1,1024)),((1,3),(2,3072))] 18 (gg g1 (xb Zb.enc Yw (rr (Zpn Zw) (gg g2 ee)))) (Zr9 h)) λg2 h=>Zk [((1,1),(1,0)),((1,2),(1,1024)),((1,3),(2,3072))] 18 (gg g1 (xb Zb.enc Yw (rr (Zpn Zw) (gg g2 ee)))) (Zr9 h)) λg1 h=>Zk [((1,1),(1,0)),((1,2),(1,1024)),((1,3),(2,3072))] 9 (gg g1 ee) (Zr9 h))
abbrev Ycc (x0:Zi) (x1:Int) (r:List Zm):Y:=(146,[.agg (Zi.enc x0),il x1],.own 106 (r.map Zm.enc),[.undef,.undef])
theorem Yfs {x0:Zi} {x1:Int} {r:List Zm}:∀{m:Nat} {v0:List Zm} {v1:Int},Zk9 x0 x1 m v0 v1=some r->CS (Ycc x0 x1 r) Tryz.f146 [1,1,0,1,0] [(1,il x1),(2,.ptr (1,1) 0 0),(5,.sl (1,2) 0 (v0.map Zm.enc).length),(6,il v1)] [bx 1 (Zi.enc x0),rx 2 106 (v0.map Zm.enc)]:=by
 intro m
 induction m with
 | zero=>intro v0 v1 h;cases h
 | succ m ih=>exactλ{v0} {v1} h=>itK h (λg1 h=>bnK h λa0 Zx h=>itK h (λg2 h=>bnK h λr0 Zp h=>bnK h λz0 Wr h=>Zk [((1,1),(1,1)),((1,2),(6,3072))] 18 (lr Zm.enc x0.posts (gg g1 (xb Zm.enc Zx (gg g2 (xb Zm.enc Zx (rr (Z5s Zp) (kk 1 (ta Zm.enc [{a0 with req:=r0}] z0 (kk 1 (oe Ze r0.data_ (oa 8 Zm.enc_len {a0 with req:=r0} (ox Zm.enc Wr (ln Zm.enc z0 (oe Zm.enc z0 ee)))))))))))))) (ih h)) λg2 h=>Zk [((1,1),(1,1)),((1,2),(1,2))] 14 (lr Zm.enc x0.posts (gg g1 (xb Zm.enc Zx (gg g2 (ln Zm.enc v0 ee))))) (ih h)) λg1 h=>rtK h (lr Zm.enc x0.posts (gg g1 (kk 1 (oe Zm.enc v0 ee))))
theorem Yup {x0:Zi} {x1:Int} {r:List Zm} (h:Zvc x0 x1=some r):Zu Tryz.prog Mo (Ycc x0 x1 r):=
 Zt Tryz.func146 (Zk [((1,1),(1,0)),((1,2),(2,0))] 8 (tp (.num ([].map Zm.enc).length 0 0 []) (ob (show 0=([].map Zm.enc).length from rfl) ee)) (Yfs h))
abbrev Yco (x0:Zb) (x1:Zf) (r:Zb×Bool):Y:=(147,[.agg (Zb.enc x0),.agg (Zf.enc x1)],.tup [.agg [.own 104 (r.1.queue.map Zf.enc),il r.1.beat,il r.1.done,il r.1.tries,bl r.1.parted,bl r.1.broken],bl r.2],[.undef,.undef])
theorem Zt4 {x0:Zb} {x1:Zf} {r:Zb×Bool} {vb0:Zb} {v0:Bool} (h:Zf9 x0 x1 vb0 v0=some r):CS (Yco x0 x1 r) Tryz.f147 [1,1,0,1] [(3,.ptr (1,1) 0 0),(4,.ptr (1,2) 0 0),(6,.ptr (1,4) 0 0),(22,bl v0)] [bx 1 (Zf.enc x1),rx 3 104 ([].map Zf.enc),bx 2 [.sl (1,3) 0 ([].map Zf.enc).length,il 0,il 0,il 0,bl false,bl false],rx 5 104 (vb0.queue.map Zf.enc),bx 4 [.sl (1,5) 0 (vb0.queue.map Zf.enc).length,il vb0.beat,il vb0.done,il vb0.tries,bl vb0.parted,bl vb0.broken]]:=
 itK h (λg1 h=>rtK h (gg g1 (kk 1 (oe Zf.enc vb0.queue ee)))) λg1 h=>bnK h λr0 Zp h=>bnK h λz0 Wr h=>rtK h (gg g1 (rr (Z5s Zp) (kk 1 (ta Zf.enc [r0] z0 (kk 2 (oe Ze r0.data_ (oa 6 Zf.enc_len r0 (ox Zf.enc Wr (oe Zf.enc z0 (oe Zf.enc z0 ee))))))))))
theorem Ytv {x0:Zb} {x1:Zf} {r:Zb×Bool} (h:Zwe x0 x1=some r):Zu Tryz.prog Mo (Yco x0 x1 r):=
 Zt Tryz.func147 (bnK h λr1 Zw h=>bnK h λr2 Z6 h=>have p1 {q p} (k:Scr q p):=(rr (Zec Zw) (rr (J7 Z6) k));itK h (λg1 h=>Zk [((1,1),(1,1024)),((1,2),(1,2048)),((1,4),(2,2048)),((1,5),(2,1024))] 7 (p1 (gg g1 (kk 8 (ln Zf.enc r1.queue ee)))) (Zt4 h)) λg1 h=>bnK h λr3 Y5 h=>itK h (λg2 h=>Zk [((1,1),(1,1024)),((1,2),(1,2048)),((1,4),(2,2048)),((1,5),(2,1024))] 7 (p1 (gg g1 (kk 1 (rr (Z8c Y5) (kk 2 (gg g2 (kk 4 (ln Zf.enc r1.queue ee)))))))) (Zt4 h)) λg2 h=>Zk [((1,1),(1,1024)),((1,2),(1,2048)),((1,4),(2,2048)),((1,5),(2,1024))] 7 (p1 (gg g1 (kk 1 (rr (Z8c Y5) (kk 2 (gg g2 (kk 2 (lr Zf.enc x0.queue (kk 2 (ln Zf.enc r1.queue ee)))))))))) (Zt4 h))
abbrev Z4n (x0:Zc) (x1:Zd) (r:Zc):Y:=(148,[.agg (Zc.enc x0),.agg (Zd.enc x1)],.agg (Zc.enc r),[.undef,.undef])
theorem Zwy {x0:Zc} {x1:Zd} {r:Zc} {v0:Bool} (h:Zfw x0 x1 v0=some r):CS (Z4n x0 x1 r) Tryz.f148 [1,0,1] [(2,.ptr (1,1) 0 0),(3,.ptr (1,2) 0 0),(4,.ptr (1,3) 0 0),(13,bl v0)] [bx 1 (Zc.enc x0),bx 2 (Zd.enc x1),bx 3 (Zc.enc Zc.z0)]:=
 itK h (λg1 h=>rtK h (gg g1 ee)) λg1 h=>itK h (λg2 h=>rtK h (gg g1 (gg g2 ee))) λg2 h=>rtK h (gg g1 (gg g2 ee))
theorem Yjc {x0:Zc} {x1:Zd} {r:Zc} (h:Zn1 x0 x1=some r):Zu Tryz.prog Mo (Z4n x0 x1 r):=
 Zt Tryz.func148 (itK h (λg1 h=>Zk [((1,1),(1,0)),((1,2),(1,1024)),((1,3),(1,2048))] 5 (gg g1 (kk 4 ee)) (Zwy h)) λg1 h=>bnK h λr0 Zp h=>Zk [((1,1),(1,0)),((1,2),(1,1024)),((1,3),(1,2048))] 5 (gg g1 (kk 2 (rr (Zm3 Zp) (kk 2 ee)))) (Zwy h))
abbrev Ydi (x0:Zb) (r:Zb×Bool):Y:=(200,[.agg (Zb.enc x0)],.tup [.agg [.own 104 (r.1.queue.map Zf.enc),il r.1.beat,il r.1.done,il r.1.tries,bl r.1.parted,bl r.1.broken],bl r.2],[.undef])
theorem Z1q {x0:Zb} {r:Zb×Bool} {vb0:Zb} {v0:Bool} (h:Zlw x0 vb0 v0=some r):CS (Ydi x0 r) Tryz.f200 [1,1,0,1] [(2,.ptr (1,1) 0 0),(4,.ptr (1,3) 0 0),(16,bl v0)] [rx 2 104 ([].map Zf.enc),bx 1 [.sl (1,2) 0 ([].map Zf.enc).length,il 0,il 0,il 0,bl false,bl false],rx 4 104 (vb0.queue.map Zf.enc),bx 3 [.sl (1,4) 0 (vb0.queue.map Zf.enc).length,il vb0.beat,il vb0.done,il vb0.tries,bl vb0.parted,bl vb0.broken]]:=
 itK h (λg1 h=>rtK h (gg g1 (kk 1 (oe Zf.enc vb0.queue ee)))) λg1 h=>rtK h (gg g1 (kk 1 (oe Zf.enc vb0.queue ee)))
theorem Yuu {x0:Zb} {r:Zb×Bool} (h:Zvl x0=some r):Zu Tryz.prog Mo (Ydi x0 r):=
 Zt Tryz.func200 (bnK h λr0 Zp h=>bnK h λr1 Zw h=>itK h (λg1 h=>Zk [((1,1),(1,1024)),((1,3),(2,2048)),((1,4),(2,1024))] 7 (rr (Zec Zp) (rr (J7 Zw) (gg g1 (kk 5 (ln Zf.enc r0.queue ee))))) (Z1q h)) λg1 h=>Zk [((1,1),(1,1024)),((1,3),(2,2048)),((1,4),(2,1024))] 7 (rr (Zec Zp) (rr (J7 Zw) (gg g1 (kk 5 (ln Zf.enc r0.queue ee))))) (Z1q h))
abbrev Z4p (x0:Zc) (x1:Zd) (r:Zc):Y:=(201,[.agg (Zc.enc x0),.agg (Zd.enc x1)],.agg (Zc.enc r),[.undef,.undef])
theorem Zwo {x0:Zc} {x1:Zd} {r:Zc} {v0:Bool} (h:Zga x0 x1 v0=some r):CS (Z4p x0 x1 r) Tryz.f201 [1,0,1] [(2,.ptr (1,1) 0 0),(3,.ptr (1,2) 0 0),(4,.ptr (1,3) 0 0),(11,bl v0)] [bx 1 (Zc.enc x0),bx 2 (Zd.enc x1),bx 3 (Zc.enc Zc.z0)]:=
 itK h (λg1 h=>rtK h (gg g1 ee)) λg1 h=>rtK h (gg g1 ee)
theorem Ykh {x0:Zc} {x1:Zd} {r:Zc} (h:Zpa x0 x1=some r):Zu Tryz.prog Mo (Z4p x0 x1 r):=
 Zt Tryz.func201 (itK h (λg1 h=>bnK h λr0 Zp h=>Zk [((1,1),(1,0)),((1,2),(1,1024)),((1,3),(1,2048))] 5 (gg g1 (kk 2 (rr (Zm3 Zp) (kk 1 ee)))) (Zwo h)) λg1 h=>Zk [((1,1),(1,0)),((1,2),(1,1024)),((1,3),(1,2048))] 5 (gg g1 (kk 3 ee)) (Zwo h))
abbrev Ycj (x0:Z2) (x1:Zl) (x2:Int) (r:Z2):Y:=(202,[.agg (Z2.enc x0),.agg (Zl.enc x1),il x2],.agg (Z2.enc r),[.undef,.undef,.undef])
theorem Z1x {x0:Z2} {x1:Zl} {x2:Int} {r:Z2} {v0:Bool} (h:Zlo x0 x1 x2 v0=some r):CS (Ycj x0 x1 x2 r) Tryz.f202 [1,0,1] [(2,il x2),(3,.ptr (1,1) 0 0),(4,.ptr (1,2) 0 0),(6,.ptr (1,3) 0 0),(15,bl v0)] [bx 1 (Z2.enc x0),bx 2 (Zl.enc x1),bx 3 (Z2.enc Z2.z0)]:=
 itK h (λg1 h=>bnK h λr0 Zp h=>rtK h (gg g1 (rr (Z61 Zp) ee))) λg1 h=>rtK h (gg g1 ee)
theorem Yuz {x0:Z2} {x1:Zl} {x2:Int} {r:Z2} (h:Zvo x0 x1 x2=some r):Zu Tryz.prog Mo (Ycj x0 x1 x2 r):=
 Zt Tryz.func202 (bnK h λr1 Zw h=>itK h (λg1 h=>Zk [((1,1),(1,0)),((1,2),(1,1024)),((1,3),(1,2048))] 5 (rr (Zxc Zw) (gg g1 (kk 4 ee))) (Z1x h)) λg1 h=>Zk [((1,1),(1,0)),((1,2),(1,1024)),((1,3),(1,2048))] 5 (rr (Zxc Zw) (gg g1 (kk 4 ee))) (Z1x h))
abbrev Yu3 (x0:Za) (x1:Zh) (r:Za):Y:=(149,[.agg (Za.ow x0),.agg (Zh.enc x1)],.agg (Za.ow r),[.undef,.undef])
theorem Z26 {x0:Za} {x1:Zh} {r:Za} (h:Zki x0 x1=some r):Zu Tryz.prog Mo (Yu3 x0 x1 r):=
 Zt Tryz.func149 (bnK h λa0 Zx h=>bnK h λr0 Zp h=>bnK h λy0 Wc h=>have p1 {q p} (k:Scr q p):=(xd Zb.enc Zx (rr (Yuu Zp) (xq Zb.enc Zx y0 (kk 1 (oe Zf.enc r0.1.queue (ob (Zum Zb.enc Wc) k))))));itK h (λg1 h=>bnK h λa1 Yw h=>bnK h λa2 Kt h=>bnK h λr1 Zw h=>bnK h λy1 hy1 h=>rtK h (p1 (gg g1 (xd Zc.enc Yw (xd Zd.enc Kt (rr (Ykh Zw) (xp Zc.enc Yw hy1 (kk 8 (oe Zd.enc x0.conf.masters (ob (Qi Zb.enc Wc) (ob (Qi Zc.enc hy1) (oe Ze x0.splits (Zj.so x0.model (oe Zn.enc x0.log ee)))))))))))))) λg1 h=>itK h (λg2 h=>bnK h λr2 Z6 h=>rtK h (p1 (gg g1 (gg g2 (kk 1 (oe Zd.enc x0.conf.masters (rr (Yuz Z6) (kk 8 (oe Zd.enc x0.conf.masters (ob (Qi Zb.enc Wc) (oe Zc.enc x0.buckets (oe Ze x0.splits (Zj.so x0.model (oe Zn.enc x0.log ee)))))))))))))) λg2 h=>rtK h (p1 (gg g1 (gg g2 (kk 8 (oe Zd.enc x0.conf.masters (ob (Qi Zb.enc Wc) (oe Zc.enc x0.buckets (oe Ze x0.splits (Zj.so x0.model (oe Zn.enc x0.log ee)))))))))))
abbrev Ypk (x0:List Int) (x1:Int) (r:Int):Y:=(244,[.tr (x0.map Ze),il x1],il r,[.undef,.undef])
theorem Z9t {x0:List Int} {x1:Int} {r:Int} {v0:Bool} (h:Zzg x0 x1 v0=some r):CS (Ypk x0 x1 r) Tryz.f244 [1,0,1] [(0,.tr (x0.map Ze)),(1,il x1),(11,bl v0)] []:=
 itK h (λg1 h=>rtK h (gg g1 ee)) λg1 h=>bnK h λn0 hn0 h=>bnK h λa0 Zx h=>rtK h (gg g1 (lr Ze x0 (tp (.obl) (ob (nz0 hn0) (xb Ze Zx ee)))))
theorem Zzl {x0:List Int} {x1:Int} {r:Int} (h:Zzs x0 x1=some r):Zu Tryz.prog Mo (Ypk x0 x1 r):=
 Zt Tryz.func244 (itK h (λg1 h=>Zk [] 5 (lr Ze x0 (gg g1 (kk 2 ee))) (Z9t h)) λg1 h=>Zk [] 5 (lr Ze x0 (gg g1 (kk 2 ee))) (Z9t h))
abbrev Yu4 (x0:Zl) (x1:Zi) (x2:Int) (r:Int):Y:=(203,[.agg (Zl.enc x0),.agg (Zi.enc x1),il x2],il r,[.undef,.undef,.undef])
theorem Ysi {x0:Zl} {x1:Zi} {x2:Int} {r:Int} (h:Zwc x0 x1 x2=some r):Zu Tryz.prog Mo (Yu4 x0 x1 x2 r):=
 Zt Tryz.func203 (bnK h λr0 Zp h=>rtK h (rr (Zzl Zp) ee))
abbrev Yox (x0:Zf) (x1:Int) (r:Int):Y:=(205,[.agg (Zf.enc x0),il x1],il r,[.undef,.undef])
theorem Z9k {x0:Zf} {x1:Int} {r:Int} (h:Zmq x0 x1=some r):Zu Tryz.prog Mo (Yox x0 x1 r):=
 Zt Tryz.func205 (itK h (λg1 h=>rtK h (gg g1 ee)) λg1 h=>bnK h λa0 Zx h=>rtK h (gg g1 (xb Ze Zx ee)))
abbrev Ycb (x0:Int) (r:Int):Y:=(211,[il x0],il r,[.undef])
theorem Z2g {x0:Int} {r:Int} {v0:Bool} (h:Zs2 x0 v0=some r):CS (Ycb x0 r) Tryz.f211 [1,0,0,1] [(0,il x0),(3,bl v0)] []:=
 itK h (λg1 h=>rtK h (gg g1 ee)) λg1 h=>itK h (λg2 h=>rtK h (gg g1 (gg g2 ee))) λg2 h=>itK h (λg3 h=>rtK h (gg g1 (gg g2 (gg g3 ee)))) λg3 h=>rtK h (gg g1 (gg g2 (gg g3 ee)))
theorem Z3x {x0:Int} {r:Int} (h:Zvm x0=some r):Zu Tryz.prog Mo (Ycb x0 r):=
 Zt Tryz.func211 (itK h (λg1 h=>Zk [] 6 (gg g1 (kk 2 ee)) (Z2g h)) λg1 h=>Zk [] 6 (gg g1 (kk 2 ee)) (Z2g h))
abbrev Yxv (x0:List Int) (x1:Int) (x2:Int) (r:Bool):Y:=(263,[.tr (x0.map Ze),il x1,il x2],bl r,[.undef,.undef,.undef])
theorem Z6o {x0:List Int} {x1:Int} {x2:Int} {r:Bool} (h:Zt3 x0 x1 x2=some r):Zu Tryz.prog Mo (Yxv x0 x1 x2 r):=
 Zt Tryz.func263 (bnK h λr0 Zp h=>itK h (λg1 h=>bnK h λr1 Zw h=>have p1 {q p} (k:Scr q p):=(rr (Zv3 Zp) (gg g1 (kk 2 (rr (Zpt Zw) (kk 1 k)))));itK h (λg2 h=>bnK h λr2 Z6 h=>rtK h (p1 (gg g2 (kk 2 (lr Ze x0 (kk 2 (rr (Jp Z6) (kk 3 ee)))))))) λg2 h=>rtK h (p1 (gg g2 (kk 7 ee)))) λg1 h=>rtK h (rr (Zv3 Zp) (gg g1 (kk 11 ee))))
abbrev Z51 (x0:List Int) (x1:Int) (x2:Int) (x3:Int) (r:List Int×Bool):Y:=(245,[.tr (x0.map Ze),il x1,il x2,il x3],.tup [.own 3 (r.1.map Ze),bl r.2],[.undef,.undef,.undef,.undef])
theorem Yji {x0:List Int} {x1:Int} {x2:Int} {x3:Int} {r:List Int×Bool}:∀{m:Nat} {v0:Int} {v1:List Int} {v2:Int},Zop x0 x1 x2 x3 m v0 v1 v2=some r->CS (Z51 x0 x1 x2 x3 r) Tryz.f245 [1,1,1,0,1,0] [(1,il x1),(2,il x2),(3,il v0),(10,.sl (1,1) 0 (v1.map Ze).length),(11,il v2)] [rx 1 3 (v1.map Ze)]:=by
 intro m
 induction m with
 | zero=>intro v0 v1 v2 h;cases h
 | succ m ih=>exactλ{v0} {v1} {v2} h=>bnK h λr0 Zp h=>itK h (λg1 h=>bnK h λa0 Zx h=>bnK h λy0 Wc h=>Zk [((1,1),(1,1))] 13 (rr (Jp Zp) (gg g1 (kk 1 (xp Ze Zx Wc (kk 1 (tp (.num (y0.map Ze).length 0 0 []) (ob (Qi Ze Wc) ee))))))) (ih h)) λg1 h=>rtK h (rr (Jp Zp) (gg g1 (kk 1 (oe Ze v1 ee))))
theorem Z4b {x0:List Int} {x1:Int} {x2:Int} {x3:Int} {r:List Int×Bool} {v1:List Int} {v3:Bool} (h:Zn3 x0 x1 x2 x3 v1 v3=some r):CS (Z51 x0 x1 x2 x3 r) Tryz.f245 [1,1,0,1] [(1,il x1),(2,il x2),(3,il x3),(10,.sl (1,1) 0 (v1.map Ze).length),(27,bl v3)] [rx 1 3 (v1.map Ze)]:=
 itK h (λg1 h=>rtK h (gg g1 (kk 1 (oe Ze v1 ee)))) λg1 h=>Zk [((1,1),(1,1))] 6 (gg g1 (ln Ze v1 ee)) (Yji h)
theorem Yxm {x0:List Int} {x1:Int} {x2:Int} {x3:Int} {r:List Int×Bool} (h:Zyu x0 x1 x2 x3=some r):Zu Tryz.prog Mo (Z51 x0 x1 x2 x3 r):=
 Zt Tryz.func245 (bnK h λz0 Wr h=>bnK h λr1 Zw h=>have p1 {q p} (k:Scr q p):=(ta Ze x0 z0 (ol 1 Zcj Zqx x0 (ob (apl Ze Wr) (ob (apm Ze Wr) (oe Ze z0 (rr (Z6o Zw) k))))));itK h (λg1 h=>Zk [((1,1),(2,2048))] 7 (p1 (gg g1 (kk 6 (ln Ze z0 ee)))) (Z4b h)) λg1 h=>bnK h λr2 Z6 h=>bnK h λr3 Y5 h=>Zk [((1,1),(2,2048))] 7 (p1 (gg g1 (kk 2 (rr (Zcz Z6) (kk 2 (rr (Z4 Y5) (kk 2 (ln Ze z0 ee)))))))) (Z4b h))
abbrev Zrm (x0:Zo) (x1:Bool) (x2:Int) (x3:Int) (r:Zo×Int×Bool):Y:=(247,[.agg (Zo.enc x0),bl x1,il x2,il x3],.tup [.agg (Zo.ow r.1),il r.2.1,bl r.2.2],[.undef,.undef,.undef,.undef])
theorem Zxr {x0:Zo} {x1:Bool} {x2:Int} {x3:Int} {r:Zo×Int×Bool} {vb0:Zo} {v0:Bool} (h:Zj2 x0 x1 x2 x3 vb0 v0=some r):CS (Zrm x0 x1 x2 x3 r) Tryz.f247 [1,1,1,0,0,1,1,1,1,1,1,1,1,1,1,1] [(8,.ptr (1,1) 0 0),(11,.ptr (1,4) 0 0),(101,bl v0)] (Zo.bk Zo.z0 2++[bx 1 (Zo.rl Zo.z0 2)]++Zo.bk vb0 5++[bx 4 (Zo.rl vb0 5)]):=
 itK h (λg1 h=>bnK h λa0 Zx h=>bnK h λs0 hs0 h=>rtK h (gg g1 (xd Ze Zx (tp (.num (1:Int).toNat ((vb0.fifo.length:Int):Int).toNat (((vb0.fifo.length:Int):Int).toNat - (1:Int).toNat) []) (kk 2 (tp (.mk 0 (s0.map Ze)) (oe Ze vb0.fifo (ob (sln hs0).1 (ob (Yj2 Ze vb0.fifo) (ob (sll Ze hs0) (ob (alr 1 Zcj vb0.fifo) (ob (Eq.refl (((vb0.fifo.length:Int):Int).toNat - (1:Int).toNat)) (oe Ze vb0.regs (ob (sla Ze hs0) (ob (slr Ze hs0) ee))))))))))))))) λg1 h=>rtK h (gg g1 (kk 2 (Zo.so vb0 ee)))
theorem Zxl {x0:Zo} {x1:Bool} {x2:Int} {x3:Int} {r:Zo×Int×Bool} {vb0:Zo} {v1:Bool} (h:Zj1 x0 x1 x2 x3 vb0 v1=some r):CS (Zrm x0 x1 x2 x3 r) Tryz.f247 [1,1,1,0,0,1,1,1,1,1,1,1,1,1] [(1,bl x1),(2,il x2),(3,il x3),(8,.ptr (1,1) 0 0),(11,.ptr (1,4) 0 0),(81,bl v1)] (Zo.bk Zo.z0 2++[bx 1 (Zo.rl Zo.z0 2)]++Zo.bk vb0 5++[bx 4 (Zo.rl vb0 5)]):=
 itK h (λg1 h=>bnK h λz0 Wr h=>rtK h (gg g1 (ta Ze [x3] z0 (kk 3 (oa 1 Zcj x3 (ox Ze Wr (oe Ze z0 (oe Ze vb0.regs (oe Ze z0 ee))))))))) λg1 h=>itK h (λg2 h=>itK h (λg3 h=>Zk (ffi 1 6) 3 (gg g1 (gg g2 (kk 2 (gg g3 (kk 2 (lr Ze vb0.fifo (kk 2 (Zo.sc Zo.z0 (Zo.sc vb0 ee))))))))) (Zxr h)) λg3 h=>Zk (ffi 1 6) 3 (gg g1 (gg g2 (kk 2 (gg g3 (kk 4 (Zo.sc Zo.z0 (Zo.sc vb0 ee))))))) (Zxr h)) λg2 h=>Zk (ffi 1 6) 3 (gg g1 (gg g2 (kk 7 (Zo.sc Zo.z0 (Zo.sc vb0 ee))))) (Zxr h)
theorem Z7j {x0:Zo} {x1:Bool} {x2:Int} {x3:Int} {r:Zo×Int×Bool} {vb0:Zo} {v2:Bool} (h:Zqc x0 x1 x2 x3 vb0 v2=some r):CS (Zrm x0 x1 x2 x3 r) Tryz.f247 [1,1,1,0,0,1,1,1,1,1] [(1,bl x1),(2,il x2),(3,il x3),(8,.ptr (1,1) 0 0),(11,.ptr (1,4) 0 0),(59,bl v2)] (Zo.bk Zo.z0 2++[bx 1 (Zo.rl Zo.z0 2)]++Zo.bk vb0 5++[bx 4 (Zo.rl vb0 5)]):=
 itK h (λg1 h=>rtK h (gg g1 (kk 2 (Zo.so vb0 ee)))) λg1 h=>itK h (λg2 h=>bnK h λr0 Zp h=>bnK h λn0 hn0 h=>rtK h (gg g1 (gg g2 (rr (Zcz Zp) (tp (.obl) (kk 2 (ob (nz0 hn0) (Zo.so vb0 ee)))))))) λg2 h=>itK h (λg3 h=>itK h (λg4 h=>Zk (ffi 1 6) 6 (gg g1 (gg g2 (gg g3 (kk 1 (gg g4 (kk 2 (lr Ze vb0.fifo (kk 2 (Zo.sc Zo.z0 (Zo.sc vb0 ee)))))))))) (Zxl h)) λg4 h=>Zk (ffi 1 6) 6 (gg g1 (gg g2 (gg g3 (kk 1 (gg g4 (kk 4 (Zo.sc Zo.z0 (Zo.sc vb0 ee)))))))) (Zxl h)) λg3 h=>Zk (ffi 1 6) 6 (gg g1 (gg g2 (gg g3 (kk 6 (Zo.sc Zo.z0 (Zo.sc vb0 ee)))))) (Zxl h)
theorem Z7m {x0:Zo} {x1:Bool} {x2:Int} {x3:Int} {r:Zo×Int×Bool} {vb0:Zo} {v3:Bool} (h:Zqq x0 x1 x2 x3 vb0 v3=some r):CS (Zrm x0 x1 x2 x3 r) Tryz.f247 [1,1,1,0,0,1] [(1,bl x1),(2,il x2),(3,il x3),(8,.ptr (1,1) 0 0),(11,.ptr (1,4) 0 0),(35,bl v3)] (Zo.bk Zo.z0 2++[bx 1 (Zo.rl Zo.z0 2)]++Zo.bk vb0 5++[bx 4 (Zo.rl vb0 5)]):=
 itK h (λg1 h=>bnK h λa1 Yw h=>bnK h λy0 Wc h=>rtK h (gg g1 (kk 1 (xp Ze Yw Wc (kk 2 (ob (Qi Ze Wc) (oe Ze vb0.fifo ee))))))) λg1 h=>bnK h λr1 Zw h=>itK h (λg2 h=>bnK h λa2 Kt h=>rtK h (gg g1 (rr (Z4 Zw) (gg g2 (kk 1 (xd Ze Kt (kk 2 (Zo.so vb0 ee)))))))) λg2 h=>itK h (λg3 h=>Zk (ffi 1 6) 6 (gg g1 (rr (Z4 Zw) (gg g2 (gg g3 (kk 1 (Zo.sc Zo.z0 (Zo.sc vb0 ee))))))) (Z7j h)) λg3 h=>Zk (ffi 1 6) 6 (gg g1 (rr (Z4 Zw) (gg g2 (gg g3 (kk 1 (Zo.sc Zo.z0 (Zo.sc vb0 ee))))))) (Z7j h)
theorem Zqu {x0:Zo} {x1:Bool} {x2:Int} {x3:Int} {r:Zo×Int×Bool} {vb0:Zo} {v4:Bool} (h:Zae x0 x1 x2 x3 vb0 v4=some r):CS (Zrm x0 x1 x2 x3 r) Tryz.f247 [1,1,0,1] [(1,bl x1),(2,il x2),(3,il x3),(8,.ptr (1,1) 0 0),(11,.ptr (1,4) 0 0),(33,bl v4)] (Zo.bk Zo.z0 2++[bx 1 (Zo.rl Zo.z0 2)]++Zo.bk vb0 5++[bx 4 (Zo.rl vb0 5)]):=
 itK h (λg1 h=>rtK h (gg g1 (kk 2 (Zo.so vb0 ee)))) λg1 h=>bnK h λr2 Z6 h=>itK h (λg2 h=>Zk (ffi 1 6) 6 (gg g1 (rr (Z4 Z6) (gg g2 (kk 1 (Zo.sc Zo.z0 (Zo.sc vb0 ee)))))) (Z7m h)) λg2 h=>Zk (ffi 1 6) 6 (gg g1 (rr (Z4 Z6) (gg g2 (kk 1 (Zo.sc Zo.z0 (Zo.sc vb0 ee)))))) (Z7m h)
theorem Ylt {x0:Zo} {x1:Bool} {x2:Int} {x3:Int} {r:Zo×Int×Bool} (h:Z1h x0 x1 x2 x3=some r):Zu Tryz.prog Mo (Zrm x0 x1 x2 x3 r):=
 Zt Tryz.func247 (bnK h λr3 Y5 h=>bnK h λr4 Qz h=>have p1 {q p} (k:Scr q p):=(rr (Yh2 Y5) (rr (Ykv Qz) k));itK h (λg1 h=>Zk ([((1,1),(1,1024)),((1,4),(2,2048))]++Zo.ff 5 2 1024) 7 (p1 (gg g1 (kk 7 (Zo.sc r3 ee)))) (Zqu h)) λg1 h=>itK h (λg2 h=>Zk ([((1,1),(1,1024)),((1,4),(2,2048))]++Zo.ff 5 2 1024) 7 (p1 (gg g1 (kk 4 (gg g2 (kk 3 (Zo.sc r3 ee)))))) (Zqu h)) λg2 h=>itK h (λg3 h=>bnK h λr5 hr5 h=>bnK h λr6 hr6 h=>Zk ([((1,1),(1,1024)),((1,4),(2,2048))]++Zo.ff 5 2 1024) 7 (p1 (gg g1 (kk 4 (gg g2 (kk 1 (gg g3 (kk 1 (rr (Zcz hr5) (kk 2 (rr (Z4 hr6) (kk 4 (Zo.sc r3 ee)))))))))))) (Zqu h)) λg3 h=>Zk ([((1,1),(1,1024)),((1,4),(2,2048))]++Zo.ff 5 2 1024) 7 (p1 (gg g1 (kk 4 (gg g2 (kk 1 (gg g3 (kk 7 (Zo.sc r3 ee)))))))) (Zqu h))
abbrev Ygf (x0:List Int) (x1:Int) (x2:Int) (r:Int×Bool):Y:=(246,[.tr (x0.map Ze),il x1,il x2],.tup [il r.1,bl r.2],[.undef,.undef,.undef])
theorem Yjp {x0:List Int} {x1:Int} {x2:Int} {r:Int×Bool}:∀{m:Nat} {v0:Int} {v1:Int},Zoe x0 x1 x2 m v0 v1=some r->CS (Ygf x0 x1 x2 r) Tryz.f246 [1,1,1,0,1,0] [(0,.tr (x0.map Ze)),(1,il x1),(8,il v0),(9,il v1)] []:=by
 intro m
 induction m with
 | zero=>intro v0 v1 h;cases h
 | succ m ih=>exactλ{v0} {v1} h=>itK h (λg1 h=>bnK h λa0 Zx h=>Zk [] 11 (gg g1 (xb Ze Zx ee)) (ih h)) λg1 h=>rtK h (gg g1 ee)
theorem Yyf {x0:List Int} {x1:Int} {x2:Int} {r:Int×Bool} (h:Zyv x0 x1 x2=some r):Zu Tryz.prog Mo (Ygf x0 x1 x2 r):=
 Zt Tryz.func246 (bnK h λr0 Zp h=>itK h (λg1 h=>rtK h (rr (Z6o Zp) (gg g1 ee))) λg1 h=>bnK h λr1 Zw h=>Zk [] 13 (rr (Z6o Zp) (gg g1 (rr (Jp Zw) ee))) (Yjp h))
abbrev Zvg (x0:Zj) (x1:Bool) (x2:Int) (x3:Int) (x4:Int) (r:Zj×Int×Int):Y:=(204,[.agg (Zj.enc x0),bl x1,il x2,il x3,il x4],.tup [.agg (Zj.ow r.1),il r.2.1,il r.2.2],[.undef,.undef,.undef,.undef,.undef])
theorem Z18 {x0:Zj} {x1:Bool} {x2:Int} {x3:Int} {x4:Int} {r:Zj×Int×Int} {vb0:Zj} {vb1:Zo} {v0:Int} {v1:Bool} (h:Zk5 x0 x1 x2 x3 x4 vb0 vb1 v0 v1=some r):CS (Zvg x0 x1 x2 x3 x4 r) Tryz.f204 [1,1,1,0,1,0,1,1,1,0,1,1] [(10,.ptr (1,1) 0 0),(13,.ptr (1,5) 0 0),(16,.ptr (1,9) 0 0),(17,il v0),(87,bl v1)] (Zj.bk Zj.z0 2++[bx 1 (Zj.rl Zj.z0 2)]++Zj.bk vb0 6++[bx 5 (Zj.rl vb0 6)]++Zo.bk vb1 10++[bx 9 (Zo.rl vb1 10)]):=
 itK h (λg1 h=>rtK h (gg g1 (kk 3 (oe Ze vb0.mem (Zo.so vb1 ee))))) λg1 h=>rtK h (gg g1 (kk 3 (Zj.so vb0 ee)))
theorem Z1d {x0:Zj} {x1:Bool} {x2:Int} {x3:Int} {x4:Int} {r:Zj×Int×Int} {vb2:Zj} {v2:Int} {v3:Bool} (h:Zk1 x0 x1 x2 x3 x4 vb2 v2 v3=some r):CS (Zvg x0 x1 x2 x3 x4 r) Tryz.f204 [1,1,1,0,1,0,1] [(1,bl x1),(2,il x2),(3,il x3),(4,il x4),(5,.ptr (1,1) 0 0),(10,.ptr (1,2) 0 0),(13,.ptr (1,6) 0 0),(43,il v2),(44,bl v3)] ([bx 1 (Zj.enc x0)]++Zj.bk Zj.z0 3++[bx 2 (Zj.rl Zj.z0 3)]++Zj.bk vb2 7++[bx 6 (Zj.rl vb2 7)]):=
 itK h (λg1 h=>itK h (λg2 h=>bnK h λr0 Zp h=>rtK h (gg g1 (gg g2 (rr (Yxm Zp) (kk 3 (oe Ze r0.1 (Zo.so vb2.dev ee))))))) λg2 h=>bnK h λr1 Zw h=>rtK h (gg g1 (gg g2 (rr (Yyf Zw) (kk 3 (Zj.so vb2 ee)))))) λg1 h=>itK h (λg2 h=>bnK h λr2 Z6 h=>itK h (λg3 h=>Zk ([((1,1),(1,2)),((1,2),(1,3)),((1,3),(1,4)),((1,4),(1,5)),((1,5),(1,6)),((1,6),(1,7)),((1,7),(1,8)),((1,8),(1,9)),((1,9),(3,11264))]++Zo.ff 10 3 6144) 8 (gg g1 (gg g2 (rr (Ylt Z6) (gg g3 (kk 1 (Zj.sc Zj.z0 (Zj.sc vb2 (Zo.sc r2.1 ee)))))))) (Z18 h)) λg3 h=>Zk ([((1,1),(1,2)),((1,2),(1,3)),((1,3),(1,4)),((1,4),(1,5)),((1,5),(1,6)),((1,6),(1,7)),((1,7),(1,8)),((1,8),(1,9)),((1,9),(3,11264))]++Zo.ff 10 3 6144) 8 (gg g1 (gg g2 (rr (Ylt Z6) (gg g3 (kk 1 (Zj.sc Zj.z0 (Zj.sc vb2 (Zo.sc r2.1 ee)))))))) (Z18 h)) λg2 h=>rtK h (gg g1 (gg g2 (kk 3 (Zj.so vb2 ee))))
theorem Zlc {x0:Zj} {x1:Bool} {x2:Int} {x3:Int} {x4:Int} {r:Zj×Int×Int} {vb2:Zj} {v4:Bool} (h:Ky x0 x1 x2 x3 x4 vb2 v4=some r):CS (Zvg x0 x1 x2 x3 x4 r) Tryz.f204 [1,1,0,1] [(1,bl x1),(2,il x2),(3,il x3),(4,il x4),(5,.ptr (1,1) 0 0),(10,.ptr (1,2) 0 0),(13,.ptr (1,6) 0 0),(40,bl v4)] ([bx 1 (Zj.enc x0)]++Zj.bk Zj.z0 3++[bx 2 (Zj.rl Zj.z0 3)]++Zj.bk vb2 7++[bx 6 (Zj.rl vb2 7)]):=
 itK h (λg1 h=>rtK h (gg g1 (kk 3 (Zj.so vb2 ee)))) λg1 h=>bnK h λr3 Y5 h=>itK h (λg2 h=>Zk (ffi 1 9) 11 (gg g1 (rr (Z3x Y5) (gg g2 (Zj.sc Zj.z0 (Zj.sc vb2 ee))))) (Z1d h)) λg2 h=>Zk (ffi 1 9) 11 (gg g1 (rr (Z3x Y5) (gg g2 (Zj.sc Zj.z0 (Zj.sc vb2 ee))))) (Z1d h)
theorem Ydg {x0:Zj} {x1:Bool} {x2:Int} {x3:Int} {x4:Int} {r:Zj×Int×Int} (h:Zp0 x0 x1 x2 x3 x4=some r):Zu Tryz.prog Mo (Zvg x0 x1 x2 x3 x4 r):=
 Zt Tryz.func204 (bnK h λr4 Qz h=>bnK h λr5 hr5 h=>have p1 {q p} (k:Scr q p):=(rr (Yfw Qz) (rr (Ycl hr5) k));itK h (λg1 h=>Zk ([((1,1),(1,0)),((1,2),(1,1024)),((1,6),(2,2048))]++Zj.ff 7 2 1024) 7 (p1 (gg g1 (kk 8 (Zj.sc r4 ee)))) (Zlc h)) λg1 h=>bnK h λr6 hr6 h=>have p2 {q p} (k:Scr q p):=(p1 (gg g1 (kk 2 (rr (Zpt hr6) (kk 2 k)))));itK h (λg2 h=>Zk ([((1,1),(1,0)),((1,2),(1,1024)),((1,6),(2,2048))]++Zj.ff 7 2 1024) 7 (p2 (gg g2 (kk 3 (Zj.sc r4 ee)))) (Zlc h)) λg2 h=>itK h (λg3 h=>bnK h λr7 hr7 h=>bnK h λr8 hr8 h=>Zk ([((1,1),(1,0)),((1,2),(1,1024)),((1,6),(2,2048))]++Zj.ff 7 2 1024) 7 (p2 (gg g2 (kk 1 (gg g3 (kk 2 (rr (Zcz hr7) (kk 2 (rr (Z4 hr8) (kk 4 (Zj.sc r4 ee)))))))))) (Zlc h)) λg3 h=>Zk ([((1,1),(1,0)),((1,2),(1,1024)),((1,6),(2,2048))]++Zj.ff 7 2 1024) 7 (p2 (gg g2 (kk 1 (gg g3 (kk 8 (Zj.sc r4 ee)))))) (Zlc h))
abbrev Yg7 (x0:Zb) (r:Zb×Bool):Y:=(206,[.agg (Zb.enc x0)],.tup [.agg [.own 104 (r.1.queue.map Zf.enc),il r.1.beat,il r.1.done,il r.1.tries,bl r.1.parted,bl r.1.broken],bl r.2],[.undef])
theorem Z4g {x0:Zb} {r:Zb×Bool} {vb0:Zb} {v0:Bool} (h:Zny x0 vb0 v0=some r):CS (Yg7 x0 r) Tryz.f206 [1,1,0,1] [(1,.ptr (1,1) 0 0),(2,.ptr (1,2) 0 0),(4,.ptr (1,4) 0 0),(16,bl v0)] [bx 1 (Zb.enc x0),rx 3 104 ([].map Zf.enc),bx 2 [.sl (1,3) 0 ([].map Zf.enc).length,il 0,il 0,il 0,bl false,bl false],rx 5 104 (vb0.queue.map Zf.enc),bx 4 [.sl (1,5) 0 (vb0.queue.map Zf.enc).length,il vb0.beat,il vb0.done,il vb0.tries,bl vb0.parted,bl vb0.broken]]:=
 itK h (λg1 h=>rtK h (gg g1 (kk 1 (oe Zf.enc vb0.queue ee)))) λg1 h=>bnK h λr0 Zp h=>itK h (λg2 h=>bnK h λs0 hs0 h=>rtK h (gg g1 (rr (Zer Zp) (gg g2 (tp (.num (1:Int).toNat ((vb0.queue.length:Int):Int).toNat (((vb0.queue.length:Int):Int).toNat - (1:Int).toNat) []) (kk 1 (tp (.mk 0 (s0.map Zf.enc)) (oe Zf.enc vb0.queue (ob (sln hs0).1 (ob (Yj2 Zf.enc vb0.queue) (ob (sll Zf.enc hs0) (ob (alr 6 Zf.enc_len vb0.queue) (ob (Eq.refl (((vb0.queue.length:Int):Int).toNat - (1:Int).toNat)) (ob (sla Zf.enc hs0) (ob (slr Zf.enc hs0) ee))))))))))))))) λg2 h=>rtK h (gg g1 (rr (Zer Zp) (gg g2 (kk 1 (oe Zf.enc vb0.queue ee)))))
theorem Yws {x0:Zb} {r:Zb×Bool} (h:Zyk x0=some r):Zu Tryz.prog Mo (Yg7 x0 r):=
 Zt Tryz.func206 (bnK h λr1 Zw h=>bnK h λr2 Z6 h=>itK h (λg1 h=>Zk [((1,1),(1,0)),((1,2),(1,1024)),((1,4),(2,2048)),((1,5),(2,1024))] 7 (rr (Zec Zw) (rr (J7 Z6) (gg g1 (kk 5 (ln Zf.enc r1.queue ee))))) (Z4g h)) λg1 h=>Zk [((1,1),(1,0)),((1,2),(1,1024)),((1,4),(2,2048)),((1,5),(2,1024))] 7 (rr (Zec Zw) (rr (J7 Z6) (gg g1 (kk 5 (ln Zf.enc r1.queue ee))))) (Z4g h))
abbrev Z7k (x0:Za) (x1:Zi) (r:Za):Y:=(150,[.agg (Za.ow x0),.agg (Zi.enc x1)],.agg (Za.ow r),[.undef,.undef])
theorem Zx0 {x0:Za} {x1:Zi} {r:Za} {vb0:Za} {vb1:Zb} {vb2:Zn} (h:Zdx x0 x1 vb0 vb1 vb2=some r):CS (Z7k x0 x1 r) Tryz.f150 [1,1,1,1,1,1,1,1] [(2,.ptr (1,1) 0 0),(4,.ptr (1,10) 0 0),(5,.ptr (1,19) 0 0),(6,.ptr (1,20) 0 0),(8,.ptr (1,21) 0 0)] (Za.bk vb0 2++[bx 1 (Za.rl vb0 2)]++Za.bk Za.z0 11++[bx 10 (Za.rl Za.z0 11),bx 19 (Zh.enc x0.data_),bx 20 (Zb.enc vb1),bx 21 (Zn.enc vb2)]):=
 bnK h λz0 Wr h=>bnK h λr0 Zp h=>bnK h λa0 Zx h=>bnK h λy0 Wc h=>have p1 {q p} (k:Scr q p):=(ta Zn.enc [vb2] z0 (kk 1 (oa 7 Zn.enc_len vb2 (ox Zn.enc Wr (oe Zn.enc z0 (rr (Yws Zp) (xq Zb.enc Zx y0 (kk 1 (oe Zf.enc r0.1.queue (ob (Zum Zb.enc Wc) k))))))))));itK h (λg1 h=>itK h (λg2 h=>rtK h (p1 (gg g1 (kk 3 (gg g2 (kk 8 (oe Zd.enc vb0.conf.masters (ob (Qi Zb.enc Wc) (oe Zc.enc vb0.buckets (oe Ze vb0.splits (Zj.so vb0.model (oe Zn.enc z0 ee)))))))))))) λg2 h=>rtK h (p1 (gg g1 (kk 3 (gg g2 (kk 8 (oe Zd.enc vb0.conf.masters (ob (Qi Zb.enc Wc) (oe Zc.enc vb0.buckets (oe Ze vb0.splits (Zj.so vb0.model (oe Zn.enc z0 ee)))))))))))) λg1 h=>rtK h (p1 (gg g1 (kk 12 (oe Zd.enc vb0.conf.masters (ob (Qi Zb.enc Wc) (oe Zc.enc vb0.buckets (oe Ze vb0.splits (Zj.so vb0.model (oe Zn.enc z0 ee)))))))))
theorem Ymd {x0:Za} {x1:Zi} {r:Za} (h:Zqn x0 x1=some r):Zu Tryz.prog Mo (Z7k x0 x1 r):=
 Zt Tryz.func150 (bnK h λa1 Yw h=>itK h (λg1 h=>bnK h λy1 hy1 h=>bnK h λr1 Zw h=>rtK h (xd Zb.enc Yw (gg g1 (xp Zb.enc Yw hy1 (kk 8 (oe Zd.enc x0.conf.masters (ob (Qi Zb.enc hy1) (oe Zc.enc x0.buckets (oe Ze x0.splits (Zj.so x0.model (oe Zn.enc x0.log (rr (Z26 Zw) (kk 8 (Za.so r1 ee)))))))))))))) λg1 h=>itK h (λg2 h=>bnK h λy2 hy2 h=>bnK h λr2 Z6 h=>bnK h λa2 Kt h=>bnK h λy3 hy3 h=>bnK h λr3 Y5 h=>rtK h (xd Zb.enc Yw (gg g1 (gg g2 (xp Zb.enc Yw hy2 (kk 1 (oe Zd.enc x0.conf.masters (rr (Ysi Z6) (xp Ze Kt hy3 (kk 8 (oe Zd.enc x0.conf.masters (ob (Qi Zb.enc hy2) (oe Zc.enc x0.buckets (ob (Qi Ze hy3) (Zj.so x0.model (oe Zn.enc x0.log (rr (Z26 Y5) (kk 8 (Za.so r3 ee))))))))))))))))))) λg2 h=>bnK h λa3 ha3 h=>bnK h λr4 Qz h=>have p1 {q p} (k:Scr q p):=(xd Zb.enc Yw (gg g1 (gg g2 (xb Zf.enc ha3 (rr (Zpn Qz) k)))));itK h (λg3 h=>bnK h λr5 hr5 h=>bnK h λr6 hr6 h=>Zk [((1,1),(1,0)),((1,2),(0,0)),((1,3),(0,7)),((1,4),(0,10)),((1,5),(0,11)),((1,6),(11,12288)),((1,7),(11,12289)),((1,8),(11,12291)),((1,9),(0,36)),((1,10),(1,2048)),((1,19),(2,2048)),((1,20),(4,6144)),((1,21),(9,15360))] 29 (p1 (gg g3 (rr (Z9k hr5) (kk 3 (Zj.so x0.model (rr (Ydg hr6) (Za.sc {x0 with data_:=Zh.z0,model:=r6.1} ee))))))) (Zx0 h)) λg3 h=>Zk ([((1,1),(1,0))]++Za.ff 2 0 0++[((1,10),(1,2048)),((1,19),(2,2048)),((1,20),(4,6144)),((1,21),(9,15360))]) 29 (p1 (gg g3 (Za.sc {x0 with data_:=Zh.z0} ee))) (Zx0 h))
abbrev Yyq (x0:Zi) (x1:Int) (r:Int):Y:=(212,[.agg (Zi.enc x0),il x1],il r,[.undef,.undef])
theorem Yyc {x0:Zi} {x1:Int} {r:Int} (h:Zyp x0 x1=some r):Zu Tryz.prog Mo (Yyq x0 x1 r):=
 Zt Tryz.func212 (bnK h λr0 Zp h=>itK h (λg1 h=>rtK h (rr (Zzl Zp) (gg g1 (kk 3 ee)))) λg1 h=>itK h (λg2 h=>rtK h (rr (Zzl Zp) (gg g1 (kk 2 (gg g2 ee))))) λg2 h=>rtK h (rr (Zzl Zp) (gg g1 (kk 2 (gg g2 ee)))))
abbrev Ywz (x0:Zl) (x1:Zi) (x2:Int) (r:Int):Y:=(213,[.agg (Zl.enc x0),.agg (Zi.enc x1),il x2],il r,[.undef,.undef,.undef])
theorem Yww {x0:Zl} {x1:Zi} {x2:Int} {r:Int} (h:Zx7 x0 x1 x2=some r):Zu Tryz.prog Mo (Ywz x0 x1 x2 r):=
 Zt Tryz.func213 (bnK h λr0 Zp h=>rtK h (rr (Zzl Zp) ee))
abbrev Zbs (x0:Za) (x1:Zi) (r:Za):Y:=(152,[.agg (Za.ow x0),.agg (Zi.enc x1)],.agg (Za.ow r),[.undef,.undef])
end Go.Proofs.YtagdmghmblplbaaGreat.Ev
