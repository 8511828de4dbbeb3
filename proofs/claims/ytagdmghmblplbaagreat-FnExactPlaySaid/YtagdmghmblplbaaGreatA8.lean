/- A part of the proof of FnExactPlay: see the text YtagdmghmblplbaaGreatLawFnExactPlay for what is proved and its conditions. Conditions here: those in each line. -/
import Derived.Test.YtagdmghmblplbaaGreatA7
set_option linter.unusedSimpArgs false
set_option linter.unusedVariables false
set_option linter.unusedSectionVars false
namespace Go.Proofs.YtagdmghmblplbaaGreat.Ev
open Go Go.Proofs
variable [Anchor]
theorem Z9s {x0:Za} {x1:Za} {r:Bool} (h:Zwv x0 x1=some r):Zv Tryz.prog Mo (Zd4 x0 x1 r):=
 Zt Tryz.func25 (bnK h λr0 Zo h=>have p1 {q p} (k:Scr q p):=(rr (Ygj Zo) k);itK h (λg1 h=>rtK h (p1 (gg g1 ee))) λg1 h=>itK h (λg2 h=>rtK h (p1 (gg g1 (gg g2 ee)))) λg2 h=>bnK h λr1 Zw h=>have p2 {q p} (k:Scr q p):=(p1 (gg g1 (gg g2 (rr (Ywn Zw) k))));itK h (λg3 h=>rtK h (p2 (gg g3 ee))) λg3 h=>bnK h λr2 Z6 h=>have p3 {q p} (k:Scr q p):=(p2 (gg g3 (rr (Y1e Z6) k)));itK h (λg4 h=>rtK h (p3 (gg g4 ee))) λg4 h=>bnK h λr3 Yu h=>have p4 {q p} (k:Scr q p):=(p3 (gg g4 (rr (Yl9 Yu) k)));itK h (λg5 h=>rtK h (p4 (gg g5 ee))) λg5 h=>bnK h λr4 Kx h=>have p5 {q p} (k:Scr q p):=(p4 (gg g5 (rr (Ki Kx) k)));itK h (λg6 h=>rtK h (p5 (gg g6 ee))) λg6 h=>itK h (λg7 h=>rtK h (p5 (gg g6 (gg g7 ee)))) λg7 h=>have p6 {q p} (k:Scr q p):=(p5 (gg g6 (gg g7 k)));itK h (λg8 h=>rtK h (p6 (gg g8 ee))) λg8 h=>itK h (λg9 h=>rtK h (p6 (gg g8 (gg g9 ee)))) λg9 h=>bnK h λr5 hr5 h=>have p7 {q p} (k:Scr q p):=(p6 (gg g8 (gg g9 (rr (Yf2 hr5) k))));itK h (λg10 h=>rtK h (p7 (gg g10 ee))) λg10 h=>bnK h λr6 hr6 h=>have p8 {q p} (k:Scr q p):=(p7 (gg g10 (rr (Yf2 hr6) k)));itK h (λg11 h=>rtK h (p8 (gg g11 ee))) λg11 h=>bnK h λr7 hr7 h=>have p9 {q p} (k:Scr q p):=(p8 (gg g11 (rr (Ytk hr7) k)));itK h (λg12 h=>rtK h (p9 (gg g12 ee))) λg12 h=>itK h (λg13 h=>rtK h (p9 (gg g12 (gg g13 ee)))) λg13 h=>bnK h λr8 hr8 h=>itK h (λg14 h=>rtK h (p9 (gg g12 (gg g13 (rr (Ybm hr8) (gg g14 ee)))))) λg14 h=>rtK h (p9 (gg g12 (gg g13 (rr (Ybm hr8) (gg g14 ee))))))
abbrev Yxk (x0:Zl) (x1:Zl) (r:Bool):Y:=(128,[.agg (Zl.enc x0),.agg (Zl.enc x1)],bl r,[.undef,.undef])
theorem Yx5 {x0:Zl} {x1:Zl} {r:Bool} (h:Zso x0 x1=some r):Zv Tryz.prog Mo (Yxk x0 x1 r):=
 Zt Tryz.func128 (itK h (λg1 h=>rtK h (gg g1 ee)) λg1 h=>itK h (λg2 h=>rtK h (gg g1 (gg g2 ee))) λg2 h=>bnK h λr0 Zo h=>itK h (λg3 h=>rtK h (gg g1 (gg g2 (rr (Z80 Zo) (gg g3 ee))))) λg3 h=>rtK h (gg g1 (gg g2 (rr (Z80 Zo) (gg g3 ee)))))
abbrev Ycb (x0:List Zl) (x1:List Zl) (r:Bool):Y:=(72,[.tr (x0.map Zl.enc),.tr (x1.map Zl.enc)],bl r,[.undef,.undef])
theorem Yfp {x0:List Zl} {x1:List Zl} {r:Bool}:∀{m:Nat} {v0:Int},Zk2 x0 x1 m v0=some r->CS (Ycb x0 x1 r) Tryz.f72 [1,1,0,1,0] [(0,.tr (x0.map Zl.enc)),(1,.tr (x1.map Zl.enc)),(5,il v0)] []:=by
 intro m
 induction m with
 | zero=>intro v0 h;cases h
 | succ m ih=>exactλ{v0} h=>itK h (λg1 h=>bnK h λa0 Z0 h=>bnK h λa1 Y3 h=>bnK h λr0 Zo h=>have p1 {q p} (k:Scr q p):=(lr Zl.enc x0 (gg g1 (xb Zl.enc Z0 (xb Zl.enc Y3 (rr (Yx5 Zo) k)))));itK h (λg2 h=>rtK h (p1 (gg g2 ee))) λg2 h=>Zk [] 14 (p1 (gg g2 ee)) (ih h)) λg1 h=>rtK h (lr Zl.enc x0 (gg g1 ee))
theorem Ycz {x0:List Zl} {x1:List Zl} {r:Bool} (h:Zvf x0 x1=some r):Zv Tryz.prog Mo (Ycb x0 x1 r):=
 Zt Tryz.func72 (itK h (λg1 h=>rtK h (lr Zl.enc x0 (lr Zl.enc x1 (gg g1 ee)))) λg1 h=>Zk [] 11 (lr Zl.enc x0 (lr Zl.enc x1 (gg g1 ee))) (Yfp h))
abbrev Zr0 (x0:Ze) (x1:Ze) (r:Bool):Y:=(26,[.agg (Ze.enc x0),.agg (Ze.enc x1)],bl r,[.undef,.undef])
theorem Yni {x0:Ze} {x1:Ze} {r:Bool} (h:Zrv x0 x1=some r):Zv Tryz.prog Mo (Zr0 x0 x1 r):=
 Zt Tryz.func26 (bnK h λr0 Zo h=>itK h (λg1 h=>rtK h (rr (Ycz Zo) (gg g1 ee))) λg1 h=>bnK h λr1 Zw h=>have p1 {q p} (k:Scr q p):=(rr (Ycz Zo) (gg g1 (rr (Ki Zw) k)));itK h (λg2 h=>rtK h (p1 (gg g2 ee))) λg2 h=>bnK h λr2 Z6 h=>itK h (λg3 h=>rtK h (p1 (gg g2 (rr (Ki Z6) (gg g3 ee))))) λg3 h=>rtK h (p1 (gg g2 (rr (Ki Z6) (gg g3 ee)))))
abbrev Z68 (x0:List Zr) (x1:Int) (r:Int):Y:=(20,[.tr (x0.map Zr.enc),il x1],il r,[.undef,.undef])
theorem Ybe {x0:List Zr} {x1:Int} {r:Int}:∀{m:Nat} {v0:Int} {v1:Int},Zo3 x0 x1 m v0 v1=some r->CS (Z68 x0 x1 r) Tryz.f20 [1,0,1,0] [(0,.tr (x0.map Zr.enc)),(1,il v0),(5,il v1)] []:=by
 intro m
 induction m with
 | zero=>intro v0 v1 h;cases h
 | succ m ih=>exactλ{v0} {v1} h=>have p1 {q p} (k:Scr q p):=(lr Zr.enc x0 k);itK h (λg1 h=>bnK h λa0 Z0 h=>have p2 {q p} (k:Scr q p):=(p1 (gg g1 (xb Zr.enc Z0 k)));itK h (λg2 h=>rtK h (p2 (gg g2 ee))) λg2 h=>have p3 {q p} (k:Scr q p):=(p2 (gg g2 (xb Zr.enc Z0 k)));itK h (λg3 h=>rtK h (p3 (gg g3 ee))) λg3 h=>have p4 {q p} (k:Scr q p):=(p3 (gg g3 (xb Zr.enc Z0 (kk 1 k))));itK h (λg4 h=>rtK h (p4 (gg g4 ee))) λg4 h=>have p5 {q p} (k:Scr q p):=(p4 (gg g4 (xb Zr.enc Z0 k)));itK h (λg5 h=>rtK h (p5 (gg g5 ee))) λg5 h=>have p6 {q p} (k:Scr q p):=(p5 (gg g5 (xb Zr.enc Z0 k)));itK h (λg6 h=>rtK h (p6 (gg g6 ee))) λg6 h=>itK h (λg7 h=>rtK h (p6 (gg g6 (xb Zr.enc Z0 (gg g7 ee))))) λg7 h=>itK h (λg8 h=>rtK h (p6 (gg g6 (xb Zr.enc Z0 (gg g7 (xb Zr.enc Z0 (gg g8 ee))))))) λg8 h=>Zk [] 58 (p6 (gg g6 (xb Zr.enc Z0 (gg g7 (xb Zr.enc Z0 (gg g8 ee)))))) (ih h)) λg1 h=>rtK h (p1 (gg g1 ee))
theorem Ymh {x0:List Zr} {x1:Int} {r:Int} (h:Zqc x0 x1=some r):Zv Tryz.prog Mo (Z68 x0 x1 r):=
 Zt Tryz.func20 (Zk [] 6 ee (Ybe h))
abbrev Z4h (x0:List Zc) (x1:Int) (r:Int):Y:=(130,[.tr (x0.map Zc.enc),il x1],il r,[.undef,.undef])
theorem Z8a {x0:List Zc} {x1:Int} {r:Int}:∀{m:Nat} {v0:Int} {v1:Int},Zmb x0 x1 m v0 v1=some r->CS (Z4h x0 x1 r) Tryz.f130 [1,0,1,0] [(0,.tr (x0.map Zc.enc)),(1,il v0),(5,il v1)] []:=by
 intro m
 induction m with
 | zero=>intro v0 v1 h;cases h
 | succ m ih=>exactλ{v0} {v1} h=>have p1 {q p} (k:Scr q p):=(lr Zc.enc x0 k);itK h (λg1 h=>bnK h λa0 Z0 h=>have p2 {q p} (k:Scr q p):=(p1 (gg g1 (xb Zc.enc Z0 k)));itK h (λg2 h=>rtK h (p2 (gg g2 ee))) λg2 h=>have p3 {q p} (k:Scr q p):=(p2 (gg g2 (xb Zc.enc Z0 (kk 1 k))));itK h (λg3 h=>rtK h (p3 (gg g3 ee))) λg3 h=>itK h (λg4 h=>rtK h (p3 (gg g3 (xb Zc.enc Z0 (gg g4 ee))))) λg4 h=>itK h (λg5 h=>rtK h (p3 (gg g3 (xb Zc.enc Z0 (gg g4 (xb Zc.enc Z0 (gg g5 ee))))))) λg5 h=>Zk [] 37 (p3 (gg g3 (xb Zc.enc Z0 (gg g4 (xb Zc.enc Z0 (gg g5 ee)))))) (ih h)) λg1 h=>rtK h (p1 (gg g1 ee))
theorem Z4l {x0:List Zc} {x1:Int} {r:Int} (h:Zn6 x0 x1=some r):Zv Tryz.prog Mo (Z4h x0 x1 r):=
 Zt Tryz.func130 (Zk [] 6 ee (Z8a h))
abbrev Ypg (x0:Zh) (x1:Int) (r:Int):Y:=(77,[.agg (Zh.enc x0),il x1],il r,[.undef,.undef])
theorem Yp2 {x0:Zh} {x1:Int} {r:Int} (h:Zzf x0 x1=some r):Zv Tryz.prog Mo (Ypg x0 x1 r):=
 Zt Tryz.func77 (bnK h λr0 Zo h=>itK h (λg1 h=>rtK h (rr (Z4l Zo) (gg g1 ee))) λg1 h=>rtK h (rr (Z4l Zo) (gg g1 ee)))
abbrev Z9t (x0:List Int) (x1:Int) (r:Int):Y:=(80,[.tr (x0.map Zd),il x1],il r,[.undef,.undef])
theorem Yew {x0:List Int} {x1:Int} {r:Int}:∀{m:Nat} {v0:Int} {v1:Int},Zqt x0 x1 m v0 v1=some r->CS (Z9t x0 x1 r) Tryz.f80 [1,0,1,0] [(0,.tr (x0.map Zd)),(1,il v0),(5,il v1)] []:=by
 intro m
 induction m with
 | zero=>intro v0 v1 h;cases h
 | succ m ih=>exactλ{v0} {v1} h=>itK h (λg1 h=>bnK h λa0 Z0 h=>itK h (λg2 h=>rtK h (lr Zd x0 (gg g1 (xb Zd Z0 (gg g2 ee))))) λg2 h=>Zk [] 16 (lr Zd x0 (gg g1 (xb Zd Z0 (gg g2 ee)))) (ih h)) λg1 h=>rtK h (lr Zd x0 (gg g1 ee))
theorem J5 {x0:List Int} {x1:Int} {r:Int} (h:Zc2 x0 x1=some r):Zv Tryz.prog Mo (Z9t x0 x1 r):=
 Zt Tryz.func80 (Zk [] 6 ee (Yew h))
abbrev Z7u (x0:List Zi) (x1:Int) (r:Int):Y:=(131,[.tr (x0.map Zi.enc),il x1],il r,[.undef,.undef])
theorem Yea {x0:List Zi} {x1:Int} {r:Int}:∀{m:Nat} {v0:Int} {v1:Int},Zqw x0 x1 m v0 v1=some r->CS (Z7u x0 x1 r) Tryz.f131 [1,0,1,0] [(0,.tr (x0.map Zi.enc)),(1,il v0),(5,il v1)] []:=by
 intro m
 induction m with
 | zero=>intro v0 v1 h;cases h
 | succ m ih=>exactλ{v0} {v1} h=>have p1 {q p} (k:Scr q p):=(lr Zi.enc x0 k);itK h (λg1 h=>bnK h λa0 Z0 h=>have p2 {q p} (k:Scr q p):=(p1 (gg g1 (xb Zi.enc Z0 (kk 1 k))));itK h (λg2 h=>rtK h (p2 (gg g2 ee))) λg2 h=>have p3 {q p} (k:Scr q p):=(p2 (gg g2 (xb Zi.enc Z0 k)));itK h (λg3 h=>rtK h (p3 (gg g3 ee))) λg3 h=>have p4 {q p} (k:Scr q p):=(p3 (gg g3 (xb Zi.enc Z0 k)));itK h (λg4 h=>rtK h (p4 (gg g4 ee))) λg4 h=>have p5 {q p} (k:Scr q p):=(p4 (gg g4 (xb Zi.enc Z0 k)));itK h (λg5 h=>rtK h (p5 (gg g5 ee))) λg5 h=>itK h (λg6 h=>rtK h (p5 (gg g5 (xb Zi.enc Z0 (kk 1 (gg g6 ee)))))) λg6 h=>bnK h λr0 Zo h=>have p6 {q p} (k:Scr q p):=(p5 (gg g5 (xb Zi.enc Z0 (kk 1 (gg g6 (xb Zi.enc Z0 (rr (J5 Zo) k)))))));itK h (λg7 h=>rtK h (p6 (gg g7 ee))) λg7 h=>Zk [] 51 (p6 (gg g7 ee)) (ih h)) λg1 h=>rtK h (p1 (gg g1 ee))
theorem Yqq {x0:List Zi} {x1:Int} {r:Int} (h:Zr1 x0 x1=some r):Zv Tryz.prog Mo (Z7u x0 x1 r):=
 Zt Tryz.func131 (Zk [] 6 ee (Yea h))
abbrev Z9u (x0:List Zb) (x1:Int) (r:Int):Y:=(78,[.tr (x0.map Zb.enc),il x1],il r,[.undef,.undef])
theorem Ydr {x0:List Zb} {x1:Int} {r:Int}:∀{m:Nat} {v0:Int} {v1:Int},Zqu x0 x1 m v0 v1=some r->CS (Z9u x0 x1 r) Tryz.f78 [1,0,1,0] [(0,.tr (x0.map Zb.enc)),(1,il v0),(5,il v1)] []:=by
 intro m
 induction m with
 | zero=>intro v0 v1 h;cases h
 | succ m ih=>exactλ{v0} {v1} h=>have p1 {q p} (k:Scr q p):=(lr Zb.enc x0 k);itK h (λg1 h=>bnK h λa0 Z0 h=>bnK h λr0 Zo h=>have p2 {q p} (k:Scr q p):=(p1 (gg g1 (xb Zb.enc Z0 (rr (Yqq Zo) k))));itK h (λg2 h=>rtK h (p2 (gg g2 ee))) λg2 h=>have p3 {q p} (k:Scr q p):=(p2 (gg g2 (xb Zb.enc Z0 k)));itK h (λg3 h=>rtK h (p3 (gg g3 ee))) λg3 h=>have p4 {q p} (k:Scr q p):=(p3 (gg g3 (xb Zb.enc Z0 k)));itK h (λg4 h=>rtK h (p4 (gg g4 ee))) λg4 h=>have p5 {q p} (k:Scr q p):=(p4 (gg g4 (xb Zb.enc Z0 k)));itK h (λg5 h=>rtK h (p5 (gg g5 ee))) λg5 h=>itK h (λg6 h=>rtK h (p5 (gg g5 (xb Zb.enc Z0 (kk 1 (gg g6 ee)))))) λg6 h=>have p6 {q p} (k:Scr q p):=(p5 (gg g5 (xb Zb.enc Z0 (kk 1 (gg g6 (xb Zb.enc Z0 (kk 1 k)))))));itK h (λg7 h=>rtK h (p6 (gg g7 ee))) λg7 h=>Zk [] 51 (p6 (gg g7 ee)) (ih h)) λg1 h=>rtK h (p1 (gg g1 ee))
theorem Ypm {x0:List Zb} {x1:Int} {r:Int} (h:Ztu x0 x1=some r):Zv Tryz.prog Mo (Z9u x0 x1 r):=
 Zt Tryz.func78 (Zk [] 6 ee (Ydr h))
abbrev Z09 (x0:List Zf) (x1:Int) (r:Int):Y:=(79,[.tr (x0.map Zf.enc),il x1],il r,[.undef,.undef])
theorem Z7m {x0:List Zf} {x1:Int} {r:Int}:∀{m:Nat} {v0:Int} {v1:Int},Zkf x0 x1 m v0 v1=some r->CS (Z09 x0 x1 r) Tryz.f79 [1,0,1,0] [(0,.tr (x0.map Zf.enc)),(1,il v0),(5,il v1)] []:=by
 intro m
 induction m with
 | zero=>intro v0 v1 h;cases h
 | succ m ih=>exactλ{v0} {v1} h=>itK h (λg1 h=>bnK h λa0 Z0 h=>have p1 {q p} (k:Scr q p):=(lr Zf.enc x0 (gg g1 (xb Zf.enc Z0 k)));itK h (λg2 h=>rtK h (p1 (gg g2 ee))) λg2 h=>itK h (λg3 h=>rtK h (p1 (gg g2 (xb Zf.enc Z0 (gg g3 ee))))) λg3 h=>Zk [] 23 (p1 (gg g2 (xb Zf.enc Z0 (gg g3 ee)))) (ih h)) λg1 h=>rtK h (lr Zf.enc x0 (gg g1 ee))
theorem Yhj {x0:List Zf} {x1:Int} {r:Int} (h:Zkz x0 x1=some r):Zv Tryz.prog Mo (Z09 x0 x1 r):=
 Zt Tryz.func79 (Zk [] 6 ee (Z7m h))
abbrev Yuj (x0:Zn) (x1:Int) (r:Int):Y:=(132,[.agg (Zn.enc x0),il x1],il r,[.undef,.undef])
theorem Ycn {x0:Zn} {x1:Int} {r:Int} (h:Z3a x0 x1=some r):Zv Tryz.prog Mo (Yuj x0 x1 r):=
 Zt Tryz.func132 (bnK h λr0 Zo h=>itK h (λg1 h=>rtK h (rr (J5 Zo) (gg g1 ee))) λg1 h=>bnK h λr1 Zw h=>itK h (λg2 h=>rtK h (rr (J5 Zo) (gg g1 (rr (J5 Zw) (gg g2 ee))))) λg2 h=>rtK h (rr (J5 Zo) (gg g1 (rr (J5 Zw) (gg g2 ee)))))
abbrev Ymb (x0:Zj) (x1:Int) (r:Int):Y:=(81,[.agg (Zj.enc x0),il x1],il r,[.undef,.undef])
theorem Z7a {x0:Zj} {x1:Int} {r:Int} (h:Zw5 x0 x1=some r):Zv Tryz.prog Mo (Ymb x0 x1 r):=
 Zt Tryz.func81 (bnK h λr0 Zo h=>itK h (λg1 h=>rtK h (rr (J5 Zo) (gg g1 ee))) λg1 h=>bnK h λr1 Zw h=>itK h (λg2 h=>rtK h (rr (J5 Zo) (gg g1 (rr (Ycn Zw) (gg g2 ee))))) λg2 h=>rtK h (rr (J5 Zo) (gg g1 (rr (Ycn Zw) (gg g2 ee)))))
abbrev Zgz (x0:Za) (x1:Int) (r:Int):Y:=(29,[.agg (Za.enc x0),il x1],il r,[.undef,.undef])
theorem Ycf {x0:Za} {x1:Int} {r:Int} (h:Zo8 x0 x1=some r):Zv Tryz.prog Mo (Zgz x0 x1 r):=
 Zt Tryz.func29 (bnK h λr0 Zo h=>have p1 {q p} (k:Scr q p):=(rr (Yp2 Zo) k);itK h (λg1 h=>rtK h (p1 (gg g1 ee))) λg1 h=>bnK h λr1 Zw h=>have p2 {q p} (k:Scr q p):=(p1 (gg g1 (rr (Ypm Zw) k)));itK h (λg2 h=>rtK h (p2 (gg g2 ee))) λg2 h=>bnK h λr2 Z6 h=>have p3 {q p} (k:Scr q p):=(p2 (gg g2 (rr (Yhj Z6) k)));itK h (λg3 h=>rtK h (p3 (gg g3 ee))) λg3 h=>bnK h λr3 Yu h=>have p4 {q p} (k:Scr q p):=(p3 (gg g3 (rr (J5 Yu) k)));itK h (λg4 h=>rtK h (p4 (gg g4 ee))) λg4 h=>bnK h λr4 Kx h=>itK h (λg5 h=>rtK h (p4 (gg g4 (rr (Z7a Kx) (gg g5 ee))))) λg5 h=>bnK h λr5 hr5 h=>have p5 {q p} (k:Scr q p):=(p4 (gg g4 (rr (Z7a Kx) (gg g5 (rr (Ymh hr5) k)))));itK h (λg6 h=>rtK h (p5 (gg g6 ee))) λg6 h=>rtK h (p5 (gg g6 ee)))
end Go.Proofs.YtagdmghmblplbaaGreat.Ev
