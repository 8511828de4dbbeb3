/- A part of the proof of FnExactBusStep: see the text YtagdmghmblplbaaGreatLawFnExactBusStep for what is proved and its conditions. Conditions here: those in each line. -/
import Derived.Test.YtagdmghmblplbaaGreatA7
set_option linter.unusedSimpArgs false
set_option linter.unusedVariables false
set_option linter.unusedSectionVars false
namespace Go.Proofs.YtagdmghmblplbaaGreat.Ev
open Go Go.Proofs
variable [Anchor]
theorem Z0u {x0:Za} {x1:Za} {r:Bool} (h:Zqz x0 x1=some r):Zu Tryz.prog Mo (Zau x0 x1 r):=
 Zs Tryz.func25 (bnK h λr0 Zo h=>have p1 {q p} (k:Scr q p):=(rr (Yxm Zo) k);itK h (λg1 h=>rtK h (p1 (gg g1 ee))) λg1 h=>itK h (λg2 h=>rtK h (p1 (gg g1 (gg g2 ee)))) λg2 h=>bnK h λr1 Zw h=>have p2 {q p} (k:Scr q p):=(p1 (gg g1 (gg g2 (rr (Ywg Zw) k))));itK h (λg3 h=>rtK h (p2 (gg g3 ee))) λg3 h=>bnK h λr2 Z6 h=>have p3 {q p} (k:Scr q p):=(p2 (gg g3 (rr (Yzo Z6) k)));itK h (λg4 h=>rtK h (p3 (gg g4 ee))) λg4 h=>bnK h λr3 Y7 h=>have p4 {q p} (k:Scr q p):=(p3 (gg g4 (rr (Yl5 Y7) k)));itK h (λg5 h=>rtK h (p4 (gg g5 ee))) λg5 h=>bnK h λr4 Q5 h=>have p5 {q p} (k:Scr q p):=(p4 (gg g5 (rr (Ko Q5) k)));itK h (λg6 h=>rtK h (p5 (gg g6 ee))) λg6 h=>itK h (λg7 h=>rtK h (p5 (gg g6 (gg g7 ee)))) λg7 h=>have p6 {q p} (k:Scr q p):=(p5 (gg g6 (gg g7 k)));itK h (λg8 h=>rtK h (p6 (gg g8 ee))) λg8 h=>itK h (λg9 h=>rtK h (p6 (gg g8 (gg g9 ee)))) λg9 h=>bnK h λr5 hr5 h=>have p7 {q p} (k:Scr q p):=(p6 (gg g8 (gg g9 (rr (Ye7 hr5) k))));itK h (λg10 h=>rtK h (p7 (gg g10 ee))) λg10 h=>bnK h λr6 hr6 h=>have p8 {q p} (k:Scr q p):=(p7 (gg g10 (rr (Ye7 hr6) k)));itK h (λg11 h=>rtK h (p8 (gg g11 ee))) λg11 h=>bnK h λr7 hr7 h=>have p9 {q p} (k:Scr q p):=(p8 (gg g11 (rr (Ysf hr7) k)));itK h (λg12 h=>rtK h (p9 (gg g12 ee))) λg12 h=>itK h (λg13 h=>rtK h (p9 (gg g12 (gg g13 ee)))) λg13 h=>bnK h λr8 hr8 h=>itK h (λg14 h=>rtK h (p9 (gg g12 (gg g13 (rr (Ybw hr8) (gg g14 ee)))))) λg14 h=>rtK h (p9 (gg g12 (gg g13 (rr (Ybw hr8) (gg g14 ee))))))
abbrev Ywk (x0:Zl) (x1:Zl) (r:Bool):Y:=(128,[.agg (Zl.enc x0),.agg (Zl.enc x1)],bl r,[.undef,.undef])
theorem Yyf {x0:Zl} {x1:Zl} {r:Bool} (h:Zs5 x0 x1=some r):Zu Tryz.prog Mo (Ywk x0 x1 r):=
 Zs Tryz.func128 (itK h (λg1 h=>rtK h (gg g1 ee)) λg1 h=>itK h (λg2 h=>rtK h (gg g1 (gg g2 ee))) λg2 h=>bnK h λr0 Zo h=>itK h (λg3 h=>rtK h (gg g1 (gg g2 (rr (Z82 Zo) (gg g3 ee))))) λg3 h=>rtK h (gg g1 (gg g2 (rr (Z82 Zo) (gg g3 ee)))))
abbrev Ya5 (x0:List Zl) (x1:List Zl) (r:Bool):Y:=(72,[.tr (x0.map Zl.enc),.tr (x1.map Zl.enc)],bl r,[.undef,.undef])
theorem Ygg {x0:List Zl} {x1:List Zl} {r:Bool}:∀{m:Nat} {v0:Int},Zk1 x0 x1 m v0=some r->CS (Ya5 x0 x1 r) Tryz.f72 [1,1,0,1,0] [(0,.tr (x0.map Zl.enc)),(1,.tr (x1.map Zl.enc)),(5,il v0)] []:=by
 intro m
 induction m with
 | zero=>intro v0 h;cases h
 | succ m ih=>exactλ{v0} h=>itK h (λg1 h=>bnK h λa0 Zz h=>bnK h λa1 Yv h=>bnK h λr0 Zo h=>have p1 {q p} (k:Scr q p):=(lr Zl.enc x0 (gg g1 (xb Zl.enc Zz (xb Zl.enc Yv (rr (Yyf Zo) k)))));itK h (λg2 h=>rtK h (p1 (gg g2 ee))) λg2 h=>Zj [] 14 (p1 (gg g2 ee)) (ih h)) λg1 h=>rtK h (lr Zl.enc x0 (gg g1 ee))
theorem Yce {x0:List Zl} {x1:List Zl} {r:Bool} (h:Zur x0 x1=some r):Zu Tryz.prog Mo (Ya5 x0 x1 r):=
 Zs Tryz.func72 (itK h (λg1 h=>rtK h (lr Zl.enc x0 (lr Zl.enc x1 (gg g1 ee)))) λg1 h=>Zj [] 11 (lr Zl.enc x0 (lr Zl.enc x1 (gg g1 ee))) (Ygg h))
abbrev Ztk (x0:Zi) (x1:Zi) (r:Bool):Y:=(26,[.agg (Zi.enc x0),.agg (Zi.enc x1)],bl r,[.undef,.undef])
theorem Yn6 {x0:Zi} {x1:Zi} {r:Bool} (h:Zri x0 x1=some r):Zu Tryz.prog Mo (Ztk x0 x1 r):=
 Zs Tryz.func26 (bnK h λr0 Zo h=>itK h (λg1 h=>rtK h (rr (Yce Zo) (gg g1 ee))) λg1 h=>bnK h λr1 Zw h=>have p1 {q p} (k:Scr q p):=(rr (Yce Zo) (gg g1 (rr (Ko Zw) k)));itK h (λg2 h=>rtK h (p1 (gg g2 ee))) λg2 h=>bnK h λr2 Z6 h=>itK h (λg3 h=>rtK h (p1 (gg g2 (rr (Ko Z6) (gg g3 ee))))) λg3 h=>rtK h (p1 (gg g2 (rr (Ko Z6) (gg g3 ee)))))
abbrev Zcq (x0:Zp) (x1:Zp) (r:Bool):Y:=(34,[.agg (Zp.enc x0),.agg (Zp.enc x1)],bl r,[.undef,.undef])
theorem Z48 {x0:Zp} {x1:Zp} {r:Bool} (h:Zxz x0 x1=some r):Zu Tryz.prog Mo (Zcq x0 x1 r):=
 Zs Tryz.func34 (itK h (λg1 h=>rtK h (gg g1 ee)) λg1 h=>itK h (λg2 h=>rtK h (gg g1 (gg g2 ee))) λg2 h=>have p1 {q p} (k:Scr q p):=(gg g1 (gg g2 k));itK h (λg3 h=>rtK h (p1 (gg g3 ee))) λg3 h=>itK h (λg4 h=>rtK h (p1 (gg g3 (gg g4 ee)))) λg4 h=>itK h (λg5 h=>rtK h (p1 (gg g3 (gg g4 (gg g5 ee))))) λg5 h=>have p2 {q p} (k:Scr q p):=(p1 (gg g3 (gg g4 (gg g5 k))));itK h (λg6 h=>rtK h (p2 (gg g6 ee))) λg6 h=>itK h (λg7 h=>rtK h (p2 (gg g6 (gg g7 ee)))) λg7 h=>itK h (λg8 h=>rtK h (p2 (gg g6 (gg g7 (gg g8 ee))))) λg8 h=>itK h (λg9 h=>rtK h (p2 (gg g6 (gg g7 (gg g8 (gg g9 ee)))))) λg9 h=>rtK h (p2 (gg g6 (gg g7 (gg g8 (gg g9 ee))))))
abbrev Z6z (x0:List Zm) (x1:Int) (r:Int):Y:=(20,[.tr (x0.map Zm.enc),il x1],il r,[.undef,.undef])
theorem Ya0 {x0:List Zm} {x1:Int} {r:Int}:∀{m:Nat} {v0:Int} {v1:Int},Zou x0 x1 m v0 v1=some r->CS (Z6z x0 x1 r) Tryz.f20 [1,0,1,0] [(0,.tr (x0.map Zm.enc)),(1,il v0),(5,il v1)] []:=by
 intro m
 induction m with
 | zero=>intro v0 v1 h;cases h
 | succ m ih=>exactλ{v0} {v1} h=>have p1 {q p} (k:Scr q p):=(lr Zm.enc x0 k);itK h (λg1 h=>bnK h λa0 Zz h=>have p2 {q p} (k:Scr q p):=(p1 (gg g1 (xb Zm.enc Zz k)));itK h (λg2 h=>rtK h (p2 (gg g2 ee))) λg2 h=>have p3 {q p} (k:Scr q p):=(p2 (gg g2 (xb Zm.enc Zz k)));itK h (λg3 h=>rtK h (p3 (gg g3 ee))) λg3 h=>have p4 {q p} (k:Scr q p):=(p3 (gg g3 (xb Zm.enc Zz (kk 1 k))));itK h (λg4 h=>rtK h (p4 (gg g4 ee))) λg4 h=>have p5 {q p} (k:Scr q p):=(p4 (gg g4 (xb Zm.enc Zz k)));itK h (λg5 h=>rtK h (p5 (gg g5 ee))) λg5 h=>have p6 {q p} (k:Scr q p):=(p5 (gg g5 (xb Zm.enc Zz k)));itK h (λg6 h=>rtK h (p6 (gg g6 ee))) λg6 h=>itK h (λg7 h=>rtK h (p6 (gg g6 (xb Zm.enc Zz (gg g7 ee))))) λg7 h=>itK h (λg8 h=>rtK h (p6 (gg g6 (xb Zm.enc Zz (gg g7 (xb Zm.enc Zz (gg g8 ee))))))) λg8 h=>Zj [] 58 (p6 (gg g6 (xb Zm.enc Zz (gg g7 (xb Zm.enc Zz (gg g8 ee)))))) (ih h)) λg1 h=>rtK h (p1 (gg g1 ee))
theorem Yln {x0:List Zm} {x1:Int} {r:Int} (h:Zpp x0 x1=some r):Zu Tryz.prog Mo (Z6z x0 x1 r):=
 Zs Tryz.func20 (Zj [] 6 ee (Ya0 h))
abbrev Z3k (x0:List Zd) (x1:Int) (r:Int):Y:=(130,[.tr (x0.map Zd.enc),il x1],il r,[.undef,.undef])
theorem Z8o {x0:List Zd} {x1:Int} {r:Int}:∀{m:Nat} {v0:Int} {v1:Int},Zmk x0 x1 m v0 v1=some r->CS (Z3k x0 x1 r) Tryz.f130 [1,0,1,0] [(0,.tr (x0.map Zd.enc)),(1,il v0),(5,il v1)] []:=by
 intro m
 induction m with
 | zero=>intro v0 v1 h;cases h
 | succ m ih=>exactλ{v0} {v1} h=>have p1 {q p} (k:Scr q p):=(lr Zd.enc x0 k);itK h (λg1 h=>bnK h λa0 Zz h=>have p2 {q p} (k:Scr q p):=(p1 (gg g1 (xb Zd.enc Zz k)));itK h (λg2 h=>rtK h (p2 (gg g2 ee))) λg2 h=>have p3 {q p} (k:Scr q p):=(p2 (gg g2 (xb Zd.enc Zz (kk 1 k))));itK h (λg3 h=>rtK h (p3 (gg g3 ee))) λg3 h=>itK h (λg4 h=>rtK h (p3 (gg g3 (xb Zd.enc Zz (gg g4 ee))))) λg4 h=>itK h (λg5 h=>rtK h (p3 (gg g3 (xb Zd.enc Zz (gg g4 (xb Zd.enc Zz (gg g5 ee))))))) λg5 h=>Zj [] 37 (p3 (gg g3 (xb Zd.enc Zz (gg g4 (xb Zd.enc Zz (gg g5 ee)))))) (ih h)) λg1 h=>rtK h (p1 (gg g1 ee))
theorem Z3w {x0:List Zd} {x1:Int} {r:Int} (h:Znt x0 x1=some r):Zu Tryz.prog Mo (Z3k x0 x1 r):=
 Zs Tryz.func130 (Zj [] 6 ee (Z8o h))
abbrev Ypd (x0:Zk) (x1:Int) (r:Int):Y:=(77,[.agg (Zk.enc x0),il x1],il r,[.undef,.undef])
theorem Yn0 {x0:Zk} {x1:Int} {r:Int} (h:Zyp x0 x1=some r):Zu Tryz.prog Mo (Ypd x0 x1 r):=
 Zs Tryz.func77 (bnK h λr0 Zo h=>itK h (λg1 h=>rtK h (rr (Z3w Zo) (gg g1 ee))) λg1 h=>rtK h (rr (Z3w Zo) (gg g1 ee)))
abbrev Z81 (x0:List Int) (x1:Int) (r:Int):Y:=(80,[.tr (x0.map Ze),il x1],il r,[.undef,.undef])
theorem Ydm {x0:List Int} {x1:Int} {r:Int}:∀{m:Nat} {v0:Int} {v1:Int},Zqh x0 x1 m v0 v1=some r->CS (Z81 x0 x1 r) Tryz.f80 [1,0,1,0] [(0,.tr (x0.map Ze)),(1,il v0),(5,il v1)] []:=by
 intro m
 induction m with
 | zero=>intro v0 v1 h;cases h
 | succ m ih=>exactλ{v0} {v1} h=>itK h (λg1 h=>bnK h λa0 Zz h=>itK h (λg2 h=>rtK h (lr Ze x0 (gg g1 (xb Ze Zz (gg g2 ee))))) λg2 h=>Zj [] 16 (lr Ze x0 (gg g1 (xb Ze Zz (gg g2 ee)))) (ih h)) λg1 h=>rtK h (lr Ze x0 (gg g1 ee))
theorem J6 {x0:List Int} {x1:Int} {r:Int} (h:Zc8 x0 x1=some r):Zu Tryz.prog Mo (Z81 x0 x1 r):=
 Zs Tryz.func80 (Zj [] 6 ee (Ydm h))
abbrev Z8m (x0:List Zf) (x1:Int) (r:Int):Y:=(131,[.tr (x0.map Zf.enc),il x1],il r,[.undef,.undef])
theorem Ydr {x0:List Zf} {x1:Int} {r:Int}:∀{m:Nat} {v0:Int} {v1:Int},Zqq x0 x1 m v0 v1=some r->CS (Z8m x0 x1 r) Tryz.f131 [1,0,1,0] [(0,.tr (x0.map Zf.enc)),(1,il v0),(5,il v1)] []:=by
 intro m
 induction m with
 | zero=>intro v0 v1 h;cases h
 | succ m ih=>exactλ{v0} {v1} h=>have p1 {q p} (k:Scr q p):=(lr Zf.enc x0 k);itK h (λg1 h=>bnK h λa0 Zz h=>have p2 {q p} (k:Scr q p):=(p1 (gg g1 (xb Zf.enc Zz (kk 1 k))));itK h (λg2 h=>rtK h (p2 (gg g2 ee))) λg2 h=>have p3 {q p} (k:Scr q p):=(p2 (gg g2 (xb Zf.enc Zz k)));itK h (λg3 h=>rtK h (p3 (gg g3 ee))) λg3 h=>have p4 {q p} (k:Scr q p):=(p3 (gg g3 (xb Zf.enc Zz k)));itK h (λg4 h=>rtK h (p4 (gg g4 ee))) λg4 h=>have p5 {q p} (k:Scr q p):=(p4 (gg g4 (xb Zf.enc Zz k)));itK h (λg5 h=>rtK h (p5 (gg g5 ee))) λg5 h=>itK h (λg6 h=>rtK h (p5 (gg g5 (xb Zf.enc Zz (kk 1 (gg g6 ee)))))) λg6 h=>bnK h λr0 Zo h=>have p6 {q p} (k:Scr q p):=(p5 (gg g5 (xb Zf.enc Zz (kk 1 (gg g6 (xb Zf.enc Zz (rr (J6 Zo) k)))))));itK h (λg7 h=>rtK h (p6 (gg g7 ee))) λg7 h=>Zj [] 51 (p6 (gg g7 ee)) (ih h)) λg1 h=>rtK h (p1 (gg g1 ee))
theorem Ync {x0:List Zf} {x1:Int} {r:Int} (h:Zsz x0 x1=some r):Zu Tryz.prog Mo (Z8m x0 x1 r):=
 Zs Tryz.func131 (Zj [] 6 ee (Ydr h))
abbrev Z73 (x0:List Zb) (x1:Int) (r:Int):Y:=(78,[.tr (x0.map Zb.enc),il x1],il r,[.undef,.undef])
theorem Yd6 {x0:List Zb} {x1:Int} {r:Int}:∀{m:Nat} {v0:Int} {v1:Int},Zql x0 x1 m v0 v1=some r->CS (Z73 x0 x1 r) Tryz.f78 [1,0,1,0] [(0,.tr (x0.map Zb.enc)),(1,il v0),(5,il v1)] []:=by
 intro m
 induction m with
 | zero=>intro v0 v1 h;cases h
 | succ m ih=>exactλ{v0} {v1} h=>have p1 {q p} (k:Scr q p):=(lr Zb.enc x0 k);itK h (λg1 h=>bnK h λa0 Zz h=>bnK h λr0 Zo h=>have p2 {q p} (k:Scr q p):=(p1 (gg g1 (xb Zb.enc Zz (rr (Ync Zo) k))));itK h (λg2 h=>rtK h (p2 (gg g2 ee))) λg2 h=>have p3 {q p} (k:Scr q p):=(p2 (gg g2 (xb Zb.enc Zz k)));itK h (λg3 h=>rtK h (p3 (gg g3 ee))) λg3 h=>have p4 {q p} (k:Scr q p):=(p3 (gg g3 (xb Zb.enc Zz k)));itK h (λg4 h=>rtK h (p4 (gg g4 ee))) λg4 h=>have p5 {q p} (k:Scr q p):=(p4 (gg g4 (xb Zb.enc Zz k)));itK h (λg5 h=>rtK h (p5 (gg g5 ee))) λg5 h=>itK h (λg6 h=>rtK h (p5 (gg g5 (xb Zb.enc Zz (kk 1 (gg g6 ee)))))) λg6 h=>have p6 {q p} (k:Scr q p):=(p5 (gg g5 (xb Zb.enc Zz (kk 1 (gg g6 (xb Zb.enc Zz (kk 1 k)))))));itK h (λg7 h=>rtK h (p6 (gg g7 ee))) λg7 h=>Zj [] 51 (p6 (gg g7 ee)) (ih h)) λg1 h=>rtK h (p1 (gg g1 ee))
theorem Ypt {x0:List Zb} {x1:Int} {r:Int} (h:Ztf x0 x1=some r):Zu Tryz.prog Mo (Z73 x0 x1 r):=
 Zs Tryz.func78 (Zj [] 6 ee (Yd6 h))
abbrev Z0v (x0:List Zc) (x1:Int) (r:Int):Y:=(79,[.tr (x0.map Zc.enc),il x1],il r,[.undef,.undef])
theorem Z69 {x0:List Zc} {x1:Int} {r:Int}:∀{m:Nat} {v0:Int} {v1:Int},Zkh x0 x1 m v0 v1=some r->CS (Z0v x0 x1 r) Tryz.f79 [1,0,1,0] [(0,.tr (x0.map Zc.enc)),(1,il v0),(5,il v1)] []:=by
 intro m
 induction m with
 | zero=>intro v0 v1 h;cases h
 | succ m ih=>exactλ{v0} {v1} h=>itK h (λg1 h=>bnK h λa0 Zz h=>have p1 {q p} (k:Scr q p):=(lr Zc.enc x0 (gg g1 (xb Zc.enc Zz k)));itK h (λg2 h=>rtK h (p1 (gg g2 ee))) λg2 h=>itK h (λg3 h=>rtK h (p1 (gg g2 (xb Zc.enc Zz (gg g3 ee))))) λg3 h=>Zj [] 23 (p1 (gg g2 (xb Zc.enc Zz (gg g3 ee)))) (ih h)) λg1 h=>rtK h (lr Zc.enc x0 (gg g1 ee))
theorem Yf8 {x0:List Zc} {x1:Int} {r:Int} (h:Zll x0 x1=some r):Zu Tryz.prog Mo (Z0v x0 x1 r):=
 Zs Tryz.func79 (Zj [] 6 ee (Z69 h))
abbrev Yrn (x0:Zn) (x1:Int) (r:Int):Y:=(132,[.agg (Zn.enc x0),il x1],il r,[.undef,.undef])
theorem Ybn {x0:Zn} {x1:Int} {r:Int} (h:Z22 x0 x1=some r):Zu Tryz.prog Mo (Yrn x0 x1 r):=
 Zs Tryz.func132 (bnK h λr0 Zo h=>itK h (λg1 h=>rtK h (rr (J6 Zo) (gg g1 ee))) λg1 h=>bnK h λr1 Zw h=>itK h (λg2 h=>rtK h (rr (J6 Zo) (gg g1 (rr (J6 Zw) (gg g2 ee))))) λg2 h=>rtK h (rr (J6 Zo) (gg g1 (rr (J6 Zw) (gg g2 ee)))))
abbrev Yls (x0:Zh) (x1:Int) (r:Int):Y:=(81,[.agg (Zh.enc x0),il x1],il r,[.undef,.undef])
theorem Z60 {x0:Zh} {x1:Int} {r:Int} (h:Zw6 x0 x1=some r):Zu Tryz.prog Mo (Yls x0 x1 r):=
 Zs Tryz.func81 (bnK h λr0 Zo h=>itK h (λg1 h=>rtK h (rr (J6 Zo) (gg g1 ee))) λg1 h=>bnK h λr1 Zw h=>itK h (λg2 h=>rtK h (rr (J6 Zo) (gg g1 (rr (Ybn Zw) (gg g2 ee))))) λg2 h=>rtK h (rr (J6 Zo) (gg g1 (rr (Ybn Zw) (gg g2 ee)))))
abbrev Zgx (x0:Za) (x1:Int) (r:Int):Y:=(29,[.agg (Za.enc x0),il x1],il r,[.undef,.undef])
theorem Yb9 {x0:Za} {x1:Int} {r:Int} (h:Zph x0 x1=some r):Zu Tryz.prog Mo (Zgx x0 x1 r):=
 Zs Tryz.func29 (bnK h λr0 Zo h=>have p1 {q p} (k:Scr q p):=(rr (Yn0 Zo) k);itK h (λg1 h=>rtK h (p1 (gg g1 ee))) λg1 h=>bnK h λr1 Zw h=>have p2 {q p} (k:Scr q p):=(p1 (gg g1 (rr (Ypt Zw) k)));itK h (λg2 h=>rtK h (p2 (gg g2 ee))) λg2 h=>bnK h λr2 Z6 h=>have p3 {q p} (k:Scr q p):=(p2 (gg g2 (rr (Yf8 Z6) k)));itK h (λg3 h=>rtK h (p3 (gg g3 ee))) λg3 h=>bnK h λr3 Y7 h=>have p4 {q p} (k:Scr q p):=(p3 (gg g3 (rr (J6 Y7) k)));itK h (λg4 h=>rtK h (p4 (gg g4 ee))) λg4 h=>bnK h λr4 Q5 h=>itK h (λg5 h=>rtK h (p4 (gg g4 (rr (Z60 Q5) (gg g5 ee))))) λg5 h=>bnK h λr5 hr5 h=>have p5 {q p} (k:Scr q p):=(p4 (gg g4 (rr (Z60 Q5) (gg g5 (rr (Yln hr5) k)))));itK h (λg6 h=>rtK h (p5 (gg g6 ee))) λg6 h=>rtK h (p5 (gg g6 ee)))
end Go.Proofs.YtagdmghmblplbaaGreat.Ev
