/- A part of the proof of FnExactRunOut: see the text YtagdmghmblplbaaGreatLawFnExactRunOut for what is proved and its conditions. Conditions here: those in each line. -/
import Derived.Test.YtagdmghmblplbaaGreatA7
set_option linter.unusedSimpArgs false
set_option linter.unusedVariables false
set_option linter.unusedSectionVars false
namespace Go.Proofs.YtagdmghmblplbaaGreat.Ev
open Go Go.Proofs
variable [Anchor]
theorem Z2w {x0:Za} {x1:Za} {r:Bool} (h:Zrp x0 x1=some r):Zu Tryz.prog Mo (Zat x0 x1 r):=
 Zr Tryz.func25 (bnK h λr0 Zn h=>have p1 {q p} (k:Scr q p):=(rr (Yxw Zn) k);itK h (λg1 h=>rtK h (p1 (gg g1 ee))) λg1 h=>itK h (λg2 h=>rtK h (p1 (gg g1 (gg g2 ee)))) λg2 h=>bnK h λr1 Zw h=>have p2 {q p} (k:Scr q p):=(p1 (gg g1 (gg g2 (rr (Yyb Zw) k))));itK h (λg3 h=>rtK h (p2 (gg g3 ee))) λg3 h=>bnK h λr2 Z6 h=>have p3 {q p} (k:Scr q p):=(p2 (gg g3 (rr (Y23 Z6) k)));itK h (λg4 h=>rtK h (p3 (gg g4 ee))) λg4 h=>bnK h λr3 Y2 h=>have p4 {q p} (k:Scr q p):=(p3 (gg g4 (rr (Ym7 Y2) k)));itK h (λg5 h=>rtK h (p4 (gg g5 ee))) λg5 h=>bnK h λr4 Qh h=>have p5 {q p} (k:Scr q p):=(p4 (gg g5 (rr (Ko Qh) k)));itK h (λg6 h=>rtK h (p5 (gg g6 ee))) λg6 h=>itK h (λg7 h=>rtK h (p5 (gg g6 (gg g7 ee)))) λg7 h=>have p6 {q p} (k:Scr q p):=(p5 (gg g6 (gg g7 k)));itK h (λg8 h=>rtK h (p6 (gg g8 ee))) λg8 h=>itK h (λg9 h=>rtK h (p6 (gg g8 (gg g9 ee)))) λg9 h=>bnK h λr5 hr5 h=>have p7 {q p} (k:Scr q p):=(p6 (gg g8 (gg g9 (rr (Ygz hr5) k))));itK h (λg10 h=>rtK h (p7 (gg g10 ee))) λg10 h=>bnK h λr6 hr6 h=>have p8 {q p} (k:Scr q p):=(p7 (gg g10 (rr (Ygz hr6) k)));itK h (λg11 h=>rtK h (p8 (gg g11 ee))) λg11 h=>bnK h λr7 hr7 h=>have p9 {q p} (k:Scr q p):=(p8 (gg g11 (rr (Ysq hr7) k)));itK h (λg12 h=>rtK h (p9 (gg g12 ee))) λg12 h=>itK h (λg13 h=>rtK h (p9 (gg g12 (gg g13 ee)))) λg13 h=>bnK h λr8 hr8 h=>itK h (λg14 h=>rtK h (p9 (gg g12 (gg g13 (rr (Ydr hr8) (gg g14 ee)))))) λg14 h=>rtK h (p9 (gg g12 (gg g13 (rr (Ydr hr8) (gg g14 ee))))))
abbrev Yzj (x0:Zl) (x1:Zl) (r:Bool):Y:=(128,[.agg (Zl.enc x0),.agg (Zl.enc x1)],bl r,[.undef,.undef])
theorem Yzu {x0:Zl} {x1:Zl} {r:Bool} (h:Zt7 x0 x1=some r):Zu Tryz.prog Mo (Yzj x0 x1 r):=
 Zr Tryz.func128 (itK h (λg1 h=>rtK h (gg g1 ee)) λg1 h=>itK h (λg2 h=>rtK h (gg g1 (gg g2 ee))) λg2 h=>bnK h λr0 Zn h=>itK h (λg3 h=>rtK h (gg g1 (gg g2 (rr (Z8n Zn) (gg g3 ee))))) λg3 h=>rtK h (gg g1 (gg g2 (rr (Z8n Zn) (gg g3 ee)))))
abbrev Ybz (x0:List Zl) (x1:List Zl) (r:Bool):Y:=(72,[.tr (x0.map Zl.enc),.tr (x1.map Zl.enc)],bl r,[.undef,.undef])
theorem Yfy {x0:List Zl} {x1:List Zl} {r:Bool}:∀{m:Nat} {v0:Int},Zmb x0 x1 m v0=some r->CS (Ybz x0 x1 r) Tryz.f72 [1,1,0,1,0] [(0,.tr (x0.map Zl.enc)),(1,.tr (x1.map Zl.enc)),(5,il v0)] []:=by
 intro m
 induction m with
 | zero=>intro v0 h;cases h
 | succ m ih=>exactλ{v0} h=>itK h (λg1 h=>bnK h λa0 Zz h=>bnK h λa1 Yv h=>bnK h λr0 Zn h=>have p1 {q p} (k:Scr q p):=(lr Zl.enc x0 (gg g1 (xb Zl.enc Zz (xb Zl.enc Yv (rr (Yzu Zn) k)))));itK h (λg2 h=>rtK h (p1 (gg g2 ee))) λg2 h=>Zj [] 14 (p1 (gg g2 ee)) (ih h)) λg1 h=>rtK h (lr Zl.enc x0 (gg g1 ee))
theorem Ydc {x0:List Zl} {x1:List Zl} {r:Bool} (h:Zvp x0 x1=some r):Zu Tryz.prog Mo (Ybz x0 x1 r):=
 Zr Tryz.func72 (itK h (λg1 h=>rtK h (lr Zl.enc x0 (lr Zl.enc x1 (gg g1 ee)))) λg1 h=>Zj [] 11 (lr Zl.enc x0 (lr Zl.enc x1 (gg g1 ee))) (Yfy h))
abbrev Ztp (x0:Zf) (x1:Zf) (r:Bool):Y:=(26,[.agg (Zf.enc x0),.agg (Zf.enc x1)],bl r,[.undef,.undef])
theorem Yos {x0:Zf} {x1:Zf} {r:Bool} (h:Zs1 x0 x1=some r):Zu Tryz.prog Mo (Ztp x0 x1 r):=
 Zr Tryz.func26 (bnK h λr0 Zn h=>itK h (λg1 h=>rtK h (rr (Ydc Zn) (gg g1 ee))) λg1 h=>bnK h λr1 Zw h=>have p1 {q p} (k:Scr q p):=(rr (Ydc Zn) (gg g1 (rr (Ko Zw) k)));itK h (λg2 h=>rtK h (p1 (gg g2 ee))) λg2 h=>bnK h λr2 Z6 h=>itK h (λg3 h=>rtK h (p1 (gg g2 (rr (Ko Z6) (gg g3 ee))))) λg3 h=>rtK h (p1 (gg g2 (rr (Ko Z6) (gg g3 ee)))))
abbrev Z69 (x0:List Zm) (x1:Int) (r:Int):Y:=(20,[.tr (x0.map Zm.enc),il x1],il r,[.undef,.undef])
theorem Ybv {x0:List Zm} {x1:Int} {r:Int}:∀{m:Nat} {v0:Int} {v1:Int},Zpi x0 x1 m v0 v1=some r->CS (Z69 x0 x1 r) Tryz.f20 [1,0,1,0] [(0,.tr (x0.map Zm.enc)),(1,il v0),(5,il v1)] []:=by
 intro m
 induction m with
 | zero=>intro v0 v1 h;cases h
 | succ m ih=>exactλ{v0} {v1} h=>have p1 {q p} (k:Scr q p):=(lr Zm.enc x0 k);itK h (λg1 h=>bnK h λa0 Zz h=>have p2 {q p} (k:Scr q p):=(p1 (gg g1 (xb Zm.enc Zz k)));itK h (λg2 h=>rtK h (p2 (gg g2 ee))) λg2 h=>have p3 {q p} (k:Scr q p):=(p2 (gg g2 (xb Zm.enc Zz k)));itK h (λg3 h=>rtK h (p3 (gg g3 ee))) λg3 h=>have p4 {q p} (k:Scr q p):=(p3 (gg g3 (xb Zm.enc Zz (kk 1 k))));itK h (λg4 h=>rtK h (p4 (gg g4 ee))) λg4 h=>have p5 {q p} (k:Scr q p):=(p4 (gg g4 (xb Zm.enc Zz k)));itK h (λg5 h=>rtK h (p5 (gg g5 ee))) λg5 h=>have p6 {q p} (k:Scr q p):=(p5 (gg g5 (xb Zm.enc Zz k)));itK h (λg6 h=>rtK h (p6 (gg g6 ee))) λg6 h=>itK h (λg7 h=>rtK h (p6 (gg g6 (xb Zm.enc Zz (gg g7 ee))))) λg7 h=>itK h (λg8 h=>rtK h (p6 (gg g6 (xb Zm.enc Zz (gg g7 (xb Zm.enc Zz (gg g8 ee))))))) λg8 h=>Zj [] 58 (p6 (gg g6 (xb Zm.enc Zz (gg g7 (xb Zm.enc Zz (gg g8 ee)))))) (ih h)) λg1 h=>rtK h (p1 (gg g1 ee))
theorem Yne {x0:List Zm} {x1:Int} {r:Int} (h:Zqt x0 x1=some r):Zu Tryz.prog Mo (Z69 x0 x1 r):=
 Zr Tryz.func20 (Zj [] 6 ee (Ybv h))
abbrev Z4r (x0:List Zd) (x1:Int) (r:Int):Y:=(130,[.tr (x0.map Zd.enc),il x1],il r,[.undef,.undef])
theorem Z8r {x0:List Zd} {x1:Int} {r:Int}:∀{m:Nat} {v0:Int} {v1:Int},Zns x0 x1 m v0 v1=some r->CS (Z4r x0 x1 r) Tryz.f130 [1,0,1,0] [(0,.tr (x0.map Zd.enc)),(1,il v0),(5,il v1)] []:=by
 intro m
 induction m with
 | zero=>intro v0 v1 h;cases h
 | succ m ih=>exactλ{v0} {v1} h=>have p1 {q p} (k:Scr q p):=(lr Zd.enc x0 k);itK h (λg1 h=>bnK h λa0 Zz h=>have p2 {q p} (k:Scr q p):=(p1 (gg g1 (xb Zd.enc Zz k)));itK h (λg2 h=>rtK h (p2 (gg g2 ee))) λg2 h=>have p3 {q p} (k:Scr q p):=(p2 (gg g2 (xb Zd.enc Zz (kk 1 k))));itK h (λg3 h=>rtK h (p3 (gg g3 ee))) λg3 h=>itK h (λg4 h=>rtK h (p3 (gg g3 (xb Zd.enc Zz (gg g4 ee))))) λg4 h=>itK h (λg5 h=>rtK h (p3 (gg g3 (xb Zd.enc Zz (gg g4 (xb Zd.enc Zz (gg g5 ee))))))) λg5 h=>Zj [] 37 (p3 (gg g3 (xb Zd.enc Zz (gg g4 (xb Zd.enc Zz (gg g5 ee)))))) (ih h)) λg1 h=>rtK h (p1 (gg g1 ee))
theorem Z4d {x0:List Zd} {x1:Int} {r:Int} (h:Zo5 x0 x1=some r):Zu Tryz.prog Mo (Z4r x0 x1 r):=
 Zr Tryz.func130 (Zj [] 6 ee (Z8r h))
abbrev Ypo (x0:Zk) (x1:Int) (r:Int):Y:=(77,[.agg (Zk.enc x0),il x1],il r,[.undef,.undef])
theorem Yog {x0:Zk} {x1:Int} {r:Int} (h:Zzw x0 x1=some r):Zu Tryz.prog Mo (Ypo x0 x1 r):=
 Zr Tryz.func77 (bnK h λr0 Zn h=>itK h (λg1 h=>rtK h (rr (Z4d Zn) (gg g1 ee))) λg1 h=>rtK h (rr (Z4d Zn) (gg g1 ee)))
abbrev Z73 (x0:List Int) (x1:Int) (r:Int):Y:=(80,[.tr (x0.map Ze),il x1],il r,[.undef,.undef])
theorem Yep {x0:List Int} {x1:Int} {r:Int}:∀{m:Nat} {v0:Int} {v1:Int},Zrc x0 x1 m v0 v1=some r->CS (Z73 x0 x1 r) Tryz.f80 [1,0,1,0] [(0,.tr (x0.map Ze)),(1,il v0),(5,il v1)] []:=by
 intro m
 induction m with
 | zero=>intro v0 v1 h;cases h
 | succ m ih=>exactλ{v0} {v1} h=>itK h (λg1 h=>bnK h λa0 Zz h=>itK h (λg2 h=>rtK h (lr Ze x0 (gg g1 (xb Ze Zz (gg g2 ee))))) λg2 h=>Zj [] 16 (lr Ze x0 (gg g1 (xb Ze Zz (gg g2 ee)))) (ih h)) λg1 h=>rtK h (lr Ze x0 (gg g1 ee))
theorem J8 {x0:List Int} {x1:Int} {r:Int} (h:Zc5 x0 x1=some r):Zu Tryz.prog Mo (Z73 x0 x1 r):=
 Zr Tryz.func80 (Zj [] 6 ee (Yep h))
abbrev Z9r (x0:List Zg) (x1:Int) (r:Int):Y:=(131,[.tr (x0.map Zg.enc),il x1],il r,[.undef,.undef])
theorem Ye0 {x0:List Zg} {x1:Int} {r:Int}:∀{m:Nat} {v0:Int} {v1:Int},Zq7 x0 x1 m v0 v1=some r->CS (Z9r x0 x1 r) Tryz.f131 [1,0,1,0] [(0,.tr (x0.map Zg.enc)),(1,il v0),(5,il v1)] []:=by
 intro m
 induction m with
 | zero=>intro v0 v1 h;cases h
 | succ m ih=>exactλ{v0} {v1} h=>have p1 {q p} (k:Scr q p):=(lr Zg.enc x0 k);itK h (λg1 h=>bnK h λa0 Zz h=>have p2 {q p} (k:Scr q p):=(p1 (gg g1 (xb Zg.enc Zz (kk 1 k))));itK h (λg2 h=>rtK h (p2 (gg g2 ee))) λg2 h=>have p3 {q p} (k:Scr q p):=(p2 (gg g2 (xb Zg.enc Zz k)));itK h (λg3 h=>rtK h (p3 (gg g3 ee))) λg3 h=>have p4 {q p} (k:Scr q p):=(p3 (gg g3 (xb Zg.enc Zz k)));itK h (λg4 h=>rtK h (p4 (gg g4 ee))) λg4 h=>have p5 {q p} (k:Scr q p):=(p4 (gg g4 (xb Zg.enc Zz k)));itK h (λg5 h=>rtK h (p5 (gg g5 ee))) λg5 h=>itK h (λg6 h=>rtK h (p5 (gg g5 (xb Zg.enc Zz (kk 1 (gg g6 ee)))))) λg6 h=>bnK h λr0 Zn h=>have p6 {q p} (k:Scr q p):=(p5 (gg g5 (xb Zg.enc Zz (kk 1 (gg g6 (xb Zg.enc Zz (rr (J8 Zn) k)))))));itK h (λg7 h=>rtK h (p6 (gg g7 ee))) λg7 h=>Zj [] 51 (p6 (gg g7 ee)) (ih h)) λg1 h=>rtK h (p1 (gg g1 ee))
theorem Yp9 {x0:List Zg} {x1:Int} {r:Int} (h:Ztb x0 x1=some r):Zu Tryz.prog Mo (Z9r x0 x1 r):=
 Zr Tryz.func131 (Zj [] 6 ee (Ye0 h))
abbrev Z75 (x0:List Zb) (x1:Int) (r:Int):Y:=(78,[.tr (x0.map Zb.enc),il x1],il r,[.undef,.undef])
theorem Yev {x0:List Zb} {x1:Int} {r:Int}:∀{m:Nat} {v0:Int} {v1:Int},Zrd x0 x1 m v0 v1=some r->CS (Z75 x0 x1 r) Tryz.f78 [1,0,1,0] [(0,.tr (x0.map Zb.enc)),(1,il v0),(5,il v1)] []:=by
 intro m
 induction m with
 | zero=>intro v0 v1 h;cases h
 | succ m ih=>exactλ{v0} {v1} h=>have p1 {q p} (k:Scr q p):=(lr Zb.enc x0 k);itK h (λg1 h=>bnK h λa0 Zz h=>bnK h λr0 Zn h=>have p2 {q p} (k:Scr q p):=(p1 (gg g1 (xb Zb.enc Zz (rr (Yp9 Zn) k))));itK h (λg2 h=>rtK h (p2 (gg g2 ee))) λg2 h=>have p3 {q p} (k:Scr q p):=(p2 (gg g2 (xb Zb.enc Zz k)));itK h (λg3 h=>rtK h (p3 (gg g3 ee))) λg3 h=>have p4 {q p} (k:Scr q p):=(p3 (gg g3 (xb Zb.enc Zz k)));itK h (λg4 h=>rtK h (p4 (gg g4 ee))) λg4 h=>have p5 {q p} (k:Scr q p):=(p4 (gg g4 (xb Zb.enc Zz k)));itK h (λg5 h=>rtK h (p5 (gg g5 ee))) λg5 h=>itK h (λg6 h=>rtK h (p5 (gg g5 (xb Zb.enc Zz (kk 1 (gg g6 ee)))))) λg6 h=>have p6 {q p} (k:Scr q p):=(p5 (gg g5 (xb Zb.enc Zz (kk 1 (gg g6 (xb Zb.enc Zz (kk 1 k)))))));itK h (λg7 h=>rtK h (p6 (gg g7 ee))) λg7 h=>Zj [] 51 (p6 (gg g7 ee)) (ih h)) λg1 h=>rtK h (p1 (gg g1 ee))
theorem Ypi {x0:List Zb} {x1:Int} {r:Int} (h:Ztf x0 x1=some r):Zu Tryz.prog Mo (Z75 x0 x1 r):=
 Zr Tryz.func78 (Zj [] 6 ee (Yev h))
abbrev Z2o (x0:List Zc) (x1:Int) (r:Int):Y:=(79,[.tr (x0.map Zc.enc),il x1],il r,[.undef,.undef])
theorem Z7v {x0:List Zc} {x1:Int} {r:Int}:∀{m:Nat} {v0:Int} {v1:Int},Zk6 x0 x1 m v0 v1=some r->CS (Z2o x0 x1 r) Tryz.f79 [1,0,1,0] [(0,.tr (x0.map Zc.enc)),(1,il v0),(5,il v1)] []:=by
 intro m
 induction m with
 | zero=>intro v0 v1 h;cases h
 | succ m ih=>exactλ{v0} {v1} h=>itK h (λg1 h=>bnK h λa0 Zz h=>have p1 {q p} (k:Scr q p):=(lr Zc.enc x0 (gg g1 (xb Zc.enc Zz k)));itK h (λg2 h=>rtK h (p1 (gg g2 ee))) λg2 h=>itK h (λg3 h=>rtK h (p1 (gg g2 (xb Zc.enc Zz (gg g3 ee))))) λg3 h=>Zj [] 23 (p1 (gg g2 (xb Zc.enc Zz (gg g3 ee)))) (ih h)) λg1 h=>rtK h (lr Zc.enc x0 (gg g1 ee))
theorem Yf1 {x0:List Zc} {x1:Int} {r:Int} (h:Zmg x0 x1=some r):Zu Tryz.prog Mo (Z2o x0 x1 r):=
 Zr Tryz.func79 (Zj [] 6 ee (Z7v h))
abbrev Ys9 (x0:Zo) (x1:Int) (r:Int):Y:=(132,[.agg (Zo.enc x0),il x1],il r,[.undef,.undef])
theorem Yb9 {x0:Zo} {x1:Int} {r:Int} (h:Z3p x0 x1=some r):Zu Tryz.prog Mo (Ys9 x0 x1 r):=
 Zr Tryz.func132 (bnK h λr0 Zn h=>itK h (λg1 h=>rtK h (rr (J8 Zn) (gg g1 ee))) λg1 h=>bnK h λr1 Zw h=>itK h (λg2 h=>rtK h (rr (J8 Zn) (gg g1 (rr (J8 Zw) (gg g2 ee))))) λg2 h=>rtK h (rr (J8 Zn) (gg g1 (rr (J8 Zw) (gg g2 ee)))))
abbrev Ym6 (x0:Zi) (x1:Int) (r:Int):Y:=(81,[.agg (Zi.enc x0),il x1],il r,[.undef,.undef])
theorem Z7a {x0:Zi} {x1:Int} {r:Int} (h:Zxk x0 x1=some r):Zu Tryz.prog Mo (Ym6 x0 x1 r):=
 Zr Tryz.func81 (bnK h λr0 Zn h=>itK h (λg1 h=>rtK h (rr (J8 Zn) (gg g1 ee))) λg1 h=>bnK h λr1 Zw h=>itK h (λg2 h=>rtK h (rr (J8 Zn) (gg g1 (rr (Yb9 Zw) (gg g2 ee))))) λg2 h=>rtK h (rr (J8 Zn) (gg g1 (rr (Yb9 Zw) (gg g2 ee)))))
abbrev Zhf (x0:Za) (x1:Int) (r:Int):Y:=(29,[.agg (Za.enc x0),il x1],il r,[.undef,.undef])
theorem Ydh {x0:Za} {x1:Int} {r:Int} (h:Zp6 x0 x1=some r):Zu Tryz.prog Mo (Zhf x0 x1 r):=
 Zr Tryz.func29 (bnK h λr0 Zn h=>have p1 {q p} (k:Scr q p):=(rr (Yog Zn) k);itK h (λg1 h=>rtK h (p1 (gg g1 ee))) λg1 h=>bnK h λr1 Zw h=>have p2 {q p} (k:Scr q p):=(p1 (gg g1 (rr (Ypi Zw) k)));itK h (λg2 h=>rtK h (p2 (gg g2 ee))) λg2 h=>bnK h λr2 Z6 h=>have p3 {q p} (k:Scr q p):=(p2 (gg g2 (rr (Yf1 Z6) k)));itK h (λg3 h=>rtK h (p3 (gg g3 ee))) λg3 h=>bnK h λr3 Y2 h=>have p4 {q p} (k:Scr q p):=(p3 (gg g3 (rr (J8 Y2) k)));itK h (λg4 h=>rtK h (p4 (gg g4 ee))) λg4 h=>bnK h λr4 Qh h=>itK h (λg5 h=>rtK h (p4 (gg g4 (rr (Z7a Qh) (gg g5 ee))))) λg5 h=>bnK h λr5 hr5 h=>have p5 {q p} (k:Scr q p):=(p4 (gg g4 (rr (Z7a Qh) (gg g5 (rr (Yne hr5) k)))));itK h (λg6 h=>rtK h (p5 (gg g6 ee))) λg6 h=>rtK h (p5 (gg g6 ee)))
end Go.Proofs.YtagdmghmblplbaaGreat.Ev
