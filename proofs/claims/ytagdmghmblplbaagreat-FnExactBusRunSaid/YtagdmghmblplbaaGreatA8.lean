/- A part of the proof of FnExactBusRun: see the text YtagdmghmblplbaaGreatLawFnExactBusRun for what is proved and its conditions. Conditions here: those in each line. -/
import Derived.Test.YtagdmghmblplbaaGreatA7
set_option linter.unusedSimpArgs false
set_option linter.unusedVariables false
set_option linter.unusedSectionVars false
namespace Go.Proofs.YtagdmghmblplbaaGreat.Ev
open Go Go.Proofs
variable [Anchor]
theorem Z2i {x0:Za} {x1:Za} {r:Bool} (h:Zrl x0 x1=some r):Zu Tryz.prog Mo (Zat x0 x1 r):=
 Zt Tryz.func25 (bnK h λr0 Zp h=>have p1 {q p} (k:Scr q p):=(rr (Yyw Zp) k);itK h (λg1 h=>rtK h (p1 (gg g1 ee))) λg1 h=>itK h (λg2 h=>rtK h (p1 (gg g1 (gg g2 ee)))) λg2 h=>bnK h λr1 Zw h=>have p2 {q p} (k:Scr q p):=(p1 (gg g1 (gg g2 (rr (Yxd Zw) k))));itK h (λg3 h=>rtK h (p2 (gg g3 ee))) λg3 h=>bnK h λr2 Z6 h=>have p3 {q p} (k:Scr q p):=(p2 (gg g3 (rr (Y1b Z6) k)));itK h (λg4 h=>rtK h (p3 (gg g4 ee))) λg4 h=>bnK h λr3 Y5 h=>have p4 {q p} (k:Scr q p):=(p3 (gg g4 (rr (Ymh Y5) k)));itK h (λg5 h=>rtK h (p4 (gg g5 ee))) λg5 h=>bnK h λr4 Qz h=>have p5 {q p} (k:Scr q p):=(p4 (gg g5 (rr (Kh Qz) k)));itK h (λg6 h=>rtK h (p5 (gg g6 ee))) λg6 h=>itK h (λg7 h=>rtK h (p5 (gg g6 (gg g7 ee)))) λg7 h=>have p6 {q p} (k:Scr q p):=(p5 (gg g6 (gg g7 k)));itK h (λg8 h=>rtK h (p6 (gg g8 ee))) λg8 h=>itK h (λg9 h=>rtK h (p6 (gg g8 (gg g9 ee)))) λg9 h=>bnK h λr5 hr5 h=>have p7 {q p} (k:Scr q p):=(p6 (gg g8 (gg g9 (rr (Yha hr5) k))));itK h (λg10 h=>rtK h (p7 (gg g10 ee))) λg10 h=>bnK h λr6 hr6 h=>have p8 {q p} (k:Scr q p):=(p7 (gg g10 (rr (Yha hr6) k)));itK h (λg11 h=>rtK h (p8 (gg g11 ee))) λg11 h=>bnK h λr7 hr7 h=>have p9 {q p} (k:Scr q p):=(p8 (gg g11 (rr (Ys9 hr7) k)));itK h (λg12 h=>rtK h (p9 (gg g12 ee))) λg12 h=>itK h (λg13 h=>rtK h (p9 (gg g12 (gg g13 ee)))) λg13 h=>bnK h λr8 hr8 h=>itK h (λg14 h=>rtK h (p9 (gg g12 (gg g13 (rr (Yb8 hr8) (gg g14 ee)))))) λg14 h=>rtK h (p9 (gg g12 (gg g13 (rr (Yb8 hr8) (gg g14 ee))))))
abbrev Yw1 (x0:Zm) (x1:Zm) (r:Bool):Y:=(128,[.agg (Zm.enc x0),.agg (Zm.enc x1)],bl r,[.undef,.undef])
theorem Yzb {x0:Zm} {x1:Zm} {r:Bool} (h:Zty x0 x1=some r):Zu Tryz.prog Mo (Yw1 x0 x1 r):=
 Zt Tryz.func128 (itK h (λg1 h=>rtK h (gg g1 ee)) λg1 h=>itK h (λg2 h=>rtK h (gg g1 (gg g2 ee))) λg2 h=>bnK h λr0 Zp h=>itK h (λg3 h=>rtK h (gg g1 (gg g2 (rr (Z8h Zp) (gg g3 ee))))) λg3 h=>rtK h (gg g1 (gg g2 (rr (Z8h Zp) (gg g3 ee)))))
abbrev Yc3 (x0:List Zm) (x1:List Zm) (r:Bool):Y:=(72,[.tr (x0.map Zm.enc),.tr (x1.map Zm.enc)],bl r,[.undef,.undef])
theorem Yid {x0:List Zm} {x1:List Zm} {r:Bool}:∀{m:Nat} {v0:Int},Zk8 x0 x1 m v0=some r->CS (Yc3 x0 x1 r) Tryz.f72 [1,1,0,1,0] [(0,.tr (x0.map Zm.enc)),(1,.tr (x1.map Zm.enc)),(5,il v0)] []:=by
 intro m
 induction m with
 | zero=>intro v0 h;cases h
 | succ m ih=>exactλ{v0} h=>itK h (λg1 h=>bnK h λa0 Zx h=>bnK h λa1 Yw h=>bnK h λr0 Zp h=>have p1 {q p} (k:Scr q p):=(lr Zm.enc x0 (gg g1 (xb Zm.enc Zx (xb Zm.enc Yw (rr (Yzb Zp) k)))));itK h (λg2 h=>rtK h (p1 (gg g2 ee))) λg2 h=>Zk [] 14 (p1 (gg g2 ee)) (ih h)) λg1 h=>rtK h (lr Zm.enc x0 (gg g1 ee))
theorem Yb3 {x0:List Zm} {x1:List Zm} {r:Bool} (h:Zvx x0 x1=some r):Zu Tryz.prog Mo (Yc3 x0 x1 r):=
 Zt Tryz.func72 (itK h (λg1 h=>rtK h (lr Zm.enc x0 (lr Zm.enc x1 (gg g1 ee)))) λg1 h=>Zk [] 11 (lr Zm.enc x0 (lr Zm.enc x1 (gg g1 ee))) (Yid h))
abbrev Zsl (x0:Zi) (x1:Zi) (r:Bool):Y:=(26,[.agg (Zi.enc x0),.agg (Zi.enc x1)],bl r,[.undef,.undef])
theorem Yny {x0:Zi} {x1:Zi} {r:Bool} (h:Zt9 x0 x1=some r):Zu Tryz.prog Mo (Zsl x0 x1 r):=
 Zt Tryz.func26 (bnK h λr0 Zp h=>itK h (λg1 h=>rtK h (rr (Yb3 Zp) (gg g1 ee))) λg1 h=>bnK h λr1 Zw h=>have p1 {q p} (k:Scr q p):=(rr (Yb3 Zp) (gg g1 (rr (Kh Zw) k)));itK h (λg2 h=>rtK h (p1 (gg g2 ee))) λg2 h=>bnK h λr2 Z6 h=>itK h (λg3 h=>rtK h (p1 (gg g2 (rr (Kh Z6) (gg g3 ee))))) λg3 h=>rtK h (p1 (gg g2 (rr (Kh Z6) (gg g3 ee)))))
abbrev Yy7 (x0:Zg) (x1:Zg) (r:Bool):Y:=(34,[.agg (Zg.enc x0),.agg (Zg.enc x1)],bl r,[.undef,.undef])
theorem Yw8 {x0:Zg} {x1:Zg} {r:Bool} (h:Ztg x0 x1=some r):Zu Tryz.prog Mo (Yy7 x0 x1 r):=
 Zt Tryz.func34 (itK h (λg1 h=>rtK h (gg g1 ee)) λg1 h=>itK h (λg2 h=>rtK h (gg g1 (gg g2 ee))) λg2 h=>have p1 {q p} (k:Scr q p):=(gg g1 (gg g2 k));itK h (λg3 h=>rtK h (p1 (gg g3 ee))) λg3 h=>itK h (λg4 h=>rtK h (p1 (gg g3 (gg g4 ee)))) λg4 h=>itK h (λg5 h=>rtK h (p1 (gg g3 (gg g4 (gg g5 ee))))) λg5 h=>have p2 {q p} (k:Scr q p):=(p1 (gg g3 (gg g4 (gg g5 k))));itK h (λg6 h=>rtK h (p2 (gg g6 ee))) λg6 h=>itK h (λg7 h=>rtK h (p2 (gg g6 (gg g7 ee)))) λg7 h=>itK h (λg8 h=>rtK h (p2 (gg g6 (gg g7 (gg g8 ee))))) λg8 h=>itK h (λg9 h=>rtK h (p2 (gg g6 (gg g7 (gg g8 (gg g9 ee)))))) λg9 h=>rtK h (p2 (gg g6 (gg g7 (gg g8 (gg g9 ee))))))
abbrev J8 (x0:List Zg) (x1:List Zg) (r:Bool):Y:=(39,[.tr (x0.map Zg.enc),.tr (x1.map Zg.enc)],bl r,[.undef,.undef])
theorem Yhn {x0:List Zg} {x1:List Zg} {r:Bool}:∀{m:Nat} {v0:Int},Zko x0 x1 m v0=some r->CS (J8 x0 x1 r) Tryz.f39 [1,1,0,1,0] [(0,.tr (x0.map Zg.enc)),(1,.tr (x1.map Zg.enc)),(5,il v0)] []:=by
 intro m
 induction m with
 | zero=>intro v0 h;cases h
 | succ m ih=>exactλ{v0} h=>itK h (λg1 h=>bnK h λa0 Zx h=>bnK h λa1 Yw h=>bnK h λr0 Zp h=>have p1 {q p} (k:Scr q p):=(lr Zg.enc x0 (gg g1 (xb Zg.enc Zx (xb Zg.enc Yw (rr (Yw8 Zp) k)))));itK h (λg2 h=>rtK h (p1 (gg g2 ee))) λg2 h=>Zk [] 14 (p1 (gg g2 ee)) (ih h)) λg1 h=>rtK h (lr Zg.enc x0 (gg g1 ee))
theorem Z21 {x0:List Zg} {x1:List Zg} {r:Bool} (h:Zvn x0 x1=some r):Zu Tryz.prog Mo (J8 x0 x1 r):=
 Zt Tryz.func39 (itK h (λg1 h=>rtK h (lr Zg.enc x0 (lr Zg.enc x1 (gg g1 ee)))) λg1 h=>Zk [] 11 (lr Zg.enc x0 (lr Zg.enc x1 (gg g1 ee))) (Yhn h))
abbrev Z68 (x0:List Zn) (x1:Int) (r:Int):Y:=(20,[.tr (x0.map Zn.enc),il x1],il r,[.undef,.undef])
theorem Ybo {x0:List Zn} {x1:Int} {r:Int}:∀{m:Nat} {v0:Int} {v1:Int},Zpg x0 x1 m v0 v1=some r->CS (Z68 x0 x1 r) Tryz.f20 [1,0,1,0] [(0,.tr (x0.map Zn.enc)),(1,il v0),(5,il v1)] []:=by
 intro m
 induction m with
 | zero=>intro v0 v1 h;cases h
 | succ m ih=>exactλ{v0} {v1} h=>have p1 {q p} (k:Scr q p):=(lr Zn.enc x0 k);itK h (λg1 h=>bnK h λa0 Zx h=>have p2 {q p} (k:Scr q p):=(p1 (gg g1 (xb Zn.enc Zx k)));itK h (λg2 h=>rtK h (p2 (gg g2 ee))) λg2 h=>have p3 {q p} (k:Scr q p):=(p2 (gg g2 (xb Zn.enc Zx k)));itK h (λg3 h=>rtK h (p3 (gg g3 ee))) λg3 h=>have p4 {q p} (k:Scr q p):=(p3 (gg g3 (xb Zn.enc Zx (kk 1 k))));itK h (λg4 h=>rtK h (p4 (gg g4 ee))) λg4 h=>have p5 {q p} (k:Scr q p):=(p4 (gg g4 (xb Zn.enc Zx k)));itK h (λg5 h=>rtK h (p5 (gg g5 ee))) λg5 h=>have p6 {q p} (k:Scr q p):=(p5 (gg g5 (xb Zn.enc Zx k)));itK h (λg6 h=>rtK h (p6 (gg g6 ee))) λg6 h=>itK h (λg7 h=>rtK h (p6 (gg g6 (xb Zn.enc Zx (gg g7 ee))))) λg7 h=>itK h (λg8 h=>rtK h (p6 (gg g6 (xb Zn.enc Zx (gg g7 (xb Zn.enc Zx (gg g8 ee))))))) λg8 h=>Zk [] 58 (p6 (gg g6 (xb Zn.enc Zx (gg g7 (xb Zn.enc Zx (gg g8 ee)))))) (ih h)) λg1 h=>rtK h (p1 (gg g1 ee))
theorem Yma {x0:List Zn} {x1:Int} {r:Int} (h:Zqr x0 x1=some r):Zu Tryz.prog Mo (Z68 x0 x1 r):=
 Zt Tryz.func20 (Zk [] 6 ee (Ybo h))
abbrev Z4v (x0:List Zd) (x1:Int) (r:Int):Y:=(130,[.tr (x0.map Zd.enc),il x1],il r,[.undef,.undef])
theorem Z9p {x0:List Zd} {x1:Int} {r:Int}:∀{m:Nat} {v0:Int} {v1:Int},Znp x0 x1 m v0 v1=some r->CS (Z4v x0 x1 r) Tryz.f130 [1,0,1,0] [(0,.tr (x0.map Zd.enc)),(1,il v0),(5,il v1)] []:=by
 intro m
 induction m with
 | zero=>intro v0 v1 h;cases h
 | succ m ih=>exactλ{v0} {v1} h=>have p1 {q p} (k:Scr q p):=(lr Zd.enc x0 k);itK h (λg1 h=>bnK h λa0 Zx h=>have p2 {q p} (k:Scr q p):=(p1 (gg g1 (xb Zd.enc Zx k)));itK h (λg2 h=>rtK h (p2 (gg g2 ee))) λg2 h=>have p3 {q p} (k:Scr q p):=(p2 (gg g2 (xb Zd.enc Zx (kk 1 k))));itK h (λg3 h=>rtK h (p3 (gg g3 ee))) λg3 h=>itK h (λg4 h=>rtK h (p3 (gg g3 (xb Zd.enc Zx (gg g4 ee))))) λg4 h=>itK h (λg5 h=>rtK h (p3 (gg g3 (xb Zd.enc Zx (gg g4 (xb Zd.enc Zx (gg g5 ee))))))) λg5 h=>Zk [] 37 (p3 (gg g3 (xb Zd.enc Zx (gg g4 (xb Zd.enc Zx (gg g5 ee)))))) (ih h)) λg1 h=>rtK h (p1 (gg g1 ee))
theorem Z4e {x0:List Zd} {x1:Int} {r:Int} (h:Zod x0 x1=some r):Zu Tryz.prog Mo (Z4v x0 x1 r):=
 Zt Tryz.func130 (Zk [] 6 ee (Z9p h))
abbrev Ype (x0:Zl) (x1:Int) (r:Int):Y:=(77,[.agg (Zl.enc x0),il x1],il r,[.undef,.undef])
theorem Yoa {x0:Zl} {x1:Int} {r:Int} (h:Z04 x0 x1=some r):Zu Tryz.prog Mo (Ype x0 x1 r):=
 Zt Tryz.func77 (bnK h λr0 Zp h=>itK h (λg1 h=>rtK h (rr (Z4e Zp) (gg g1 ee))) λg1 h=>rtK h (rr (Z4e Zp) (gg g1 ee)))
abbrev Z80 (x0:List Int) (x1:Int) (r:Int):Y:=(80,[.tr (x0.map Ze),il x1],il r,[.undef,.undef])
theorem Yef {x0:List Int} {x1:Int} {r:Int}:∀{m:Nat} {v0:Int} {v1:Int},Zq5 x0 x1 m v0 v1=some r->CS (Z80 x0 x1 r) Tryz.f80 [1,0,1,0] [(0,.tr (x0.map Ze)),(1,il v0),(5,il v1)] []:=by
 intro m
 induction m with
 | zero=>intro v0 v1 h;cases h
 | succ m ih=>exactλ{v0} {v1} h=>itK h (λg1 h=>bnK h λa0 Zx h=>itK h (λg2 h=>rtK h (lr Ze x0 (gg g1 (xb Ze Zx (gg g2 ee))))) λg2 h=>Zk [] 16 (lr Ze x0 (gg g1 (xb Ze Zx (gg g2 ee)))) (ih h)) λg1 h=>rtK h (lr Ze x0 (gg g1 ee))
theorem Zaa {x0:List Int} {x1:Int} {r:Int} (h:Zc6 x0 x1=some r):Zu Tryz.prog Mo (Z80 x0 x1 r):=
 Zt Tryz.func80 (Zk [] 6 ee (Yef h))
abbrev Z73 (x0:List Zf) (x1:Int) (r:Int):Y:=(131,[.tr (x0.map Zf.enc),il x1],il r,[.undef,.undef])
theorem Yd3 {x0:List Zf} {x1:Int} {r:Int}:∀{m:Nat} {v0:Int} {v1:Int},Zq7 x0 x1 m v0 v1=some r->CS (Z73 x0 x1 r) Tryz.f131 [1,0,1,0] [(0,.tr (x0.map Zf.enc)),(1,il v0),(5,il v1)] []:=by
 intro m
 induction m with
 | zero=>intro v0 v1 h;cases h
 | succ m ih=>exactλ{v0} {v1} h=>have p1 {q p} (k:Scr q p):=(lr Zf.enc x0 k);itK h (λg1 h=>bnK h λa0 Zx h=>have p2 {q p} (k:Scr q p):=(p1 (gg g1 (xb Zf.enc Zx (kk 1 k))));itK h (λg2 h=>rtK h (p2 (gg g2 ee))) λg2 h=>have p3 {q p} (k:Scr q p):=(p2 (gg g2 (xb Zf.enc Zx k)));itK h (λg3 h=>rtK h (p3 (gg g3 ee))) λg3 h=>have p4 {q p} (k:Scr q p):=(p3 (gg g3 (xb Zf.enc Zx k)));itK h (λg4 h=>rtK h (p4 (gg g4 ee))) λg4 h=>have p5 {q p} (k:Scr q p):=(p4 (gg g4 (xb Zf.enc Zx k)));itK h (λg5 h=>rtK h (p5 (gg g5 ee))) λg5 h=>itK h (λg6 h=>rtK h (p5 (gg g5 (xb Zf.enc Zx (kk 1 (gg g6 ee)))))) λg6 h=>bnK h λr0 Zp h=>have p6 {q p} (k:Scr q p):=(p5 (gg g5 (xb Zf.enc Zx (kk 1 (gg g6 (xb Zf.enc Zx (rr (Zaa Zp) k)))))));itK h (λg7 h=>rtK h (p6 (gg g7 ee))) λg7 h=>Zk [] 51 (p6 (gg g7 ee)) (ih h)) λg1 h=>rtK h (p1 (gg g1 ee))
theorem Yqz {x0:List Zf} {x1:Int} {r:Int} (h:Zr4 x0 x1=some r):Zu Tryz.prog Mo (Z73 x0 x1 r):=
 Zt Tryz.func131 (Zk [] 6 ee (Yd3 h))
abbrev Z9w (x0:List Zb) (x1:Int) (r:Int):Y:=(78,[.tr (x0.map Zb.enc),il x1],il r,[.undef,.undef])
theorem Yet {x0:List Zb} {x1:Int} {r:Int}:∀{m:Nat} {v0:Int} {v1:Int},Zq2 x0 x1 m v0 v1=some r->CS (Z9w x0 x1 r) Tryz.f78 [1,0,1,0] [(0,.tr (x0.map Zb.enc)),(1,il v0),(5,il v1)] []:=by
 intro m
 induction m with
 | zero=>intro v0 v1 h;cases h
 | succ m ih=>exactλ{v0} {v1} h=>have p1 {q p} (k:Scr q p):=(lr Zb.enc x0 k);itK h (λg1 h=>bnK h λa0 Zx h=>bnK h λr0 Zp h=>have p2 {q p} (k:Scr q p):=(p1 (gg g1 (xb Zb.enc Zx (rr (Yqz Zp) k))));itK h (λg2 h=>rtK h (p2 (gg g2 ee))) λg2 h=>have p3 {q p} (k:Scr q p):=(p2 (gg g2 (xb Zb.enc Zx k)));itK h (λg3 h=>rtK h (p3 (gg g3 ee))) λg3 h=>have p4 {q p} (k:Scr q p):=(p3 (gg g3 (xb Zb.enc Zx k)));itK h (λg4 h=>rtK h (p4 (gg g4 ee))) λg4 h=>have p5 {q p} (k:Scr q p):=(p4 (gg g4 (xb Zb.enc Zx k)));itK h (λg5 h=>rtK h (p5 (gg g5 ee))) λg5 h=>itK h (λg6 h=>rtK h (p5 (gg g5 (xb Zb.enc Zx (kk 1 (gg g6 ee)))))) λg6 h=>have p6 {q p} (k:Scr q p):=(p5 (gg g5 (xb Zb.enc Zx (kk 1 (gg g6 (xb Zb.enc Zx (kk 1 k)))))));itK h (λg7 h=>rtK h (p6 (gg g7 ee))) λg7 h=>Zk [] 51 (p6 (gg g7 ee)) (ih h)) λg1 h=>rtK h (p1 (gg g1 ee))
theorem Ynx {x0:List Zb} {x1:Int} {r:Int} (h:Zti x0 x1=some r):Zu Tryz.prog Mo (Z9w x0 x1 r):=
 Zt Tryz.func78 (Zk [] 6 ee (Yet h))
abbrev Z1c (x0:List Zc) (x1:Int) (r:Int):Y:=(79,[.tr (x0.map Zc.enc),il x1],il r,[.undef,.undef])
theorem Z7t {x0:List Zc} {x1:Int} {r:Int}:∀{m:Nat} {v0:Int} {v1:Int},Zkm x0 x1 m v0 v1=some r->CS (Z1c x0 x1 r) Tryz.f79 [1,0,1,0] [(0,.tr (x0.map Zc.enc)),(1,il v0),(5,il v1)] []:=by
 intro m
 induction m with
 | zero=>intro v0 v1 h;cases h
 | succ m ih=>exactλ{v0} {v1} h=>itK h (λg1 h=>bnK h λa0 Zx h=>have p1 {q p} (k:Scr q p):=(lr Zc.enc x0 (gg g1 (xb Zc.enc Zx k)));itK h (λg2 h=>rtK h (p1 (gg g2 ee))) λg2 h=>itK h (λg3 h=>rtK h (p1 (gg g2 (xb Zc.enc Zx (gg g3 ee))))) λg3 h=>Zk [] 23 (p1 (gg g2 (xb Zc.enc Zx (gg g3 ee)))) (ih h)) λg1 h=>rtK h (lr Zc.enc x0 (gg g1 ee))
theorem Yf1 {x0:List Zc} {x1:Int} {r:Int} (h:Zlk x0 x1=some r):Zu Tryz.prog Mo (Z1c x0 x1 r):=
 Zt Tryz.func79 (Zk [] 6 ee (Z7t h))
abbrev Yva (x0:Zo) (x1:Int) (r:Int):Y:=(132,[.agg (Zo.enc x0),il x1],il r,[.undef,.undef])
theorem Yc6 {x0:Zo} {x1:Int} {r:Int} (h:Z3m x0 x1=some r):Zu Tryz.prog Mo (Yva x0 x1 r):=
 Zt Tryz.func132 (bnK h λr0 Zp h=>itK h (λg1 h=>rtK h (rr (Zaa Zp) (gg g1 ee))) λg1 h=>bnK h λr1 Zw h=>itK h (λg2 h=>rtK h (rr (Zaa Zp) (gg g1 (rr (Zaa Zw) (gg g2 ee))))) λg2 h=>rtK h (rr (Zaa Zp) (gg g1 (rr (Zaa Zw) (gg g2 ee)))))
abbrev Ym2 (x0:Zj) (x1:Int) (r:Int):Y:=(81,[.agg (Zj.enc x0),il x1],il r,[.undef,.undef])
theorem Z7i {x0:Zj} {x1:Int} {r:Int} (h:Zxj x0 x1=some r):Zu Tryz.prog Mo (Ym2 x0 x1 r):=
 Zt Tryz.func81 (bnK h λr0 Zp h=>itK h (λg1 h=>rtK h (rr (Zaa Zp) (gg g1 ee))) λg1 h=>bnK h λr1 Zw h=>itK h (λg2 h=>rtK h (rr (Zaa Zp) (gg g1 (rr (Yc6 Zw) (gg g2 ee))))) λg2 h=>rtK h (rr (Zaa Zp) (gg g1 (rr (Yc6 Zw) (gg g2 ee)))))
abbrev Zg7 (x0:Za) (x1:Int) (r:Int):Y:=(29,[.agg (Za.enc x0),il x1],il r,[.undef,.undef])
theorem Yc2 {x0:Za} {x1:Int} {r:Int} (h:Zpu x0 x1=some r):Zu Tryz.prog Mo (Zg7 x0 x1 r):=
 Zt Tryz.func29 (bnK h λr0 Zp h=>have p1 {q p} (k:Scr q p):=(rr (Yoa Zp) k);itK h (λg1 h=>rtK h (p1 (gg g1 ee))) λg1 h=>bnK h λr1 Zw h=>have p2 {q p} (k:Scr q p):=(p1 (gg g1 (rr (Ynx Zw) k)));itK h (λg2 h=>rtK h (p2 (gg g2 ee))) λg2 h=>bnK h λr2 Z6 h=>have p3 {q p} (k:Scr q p):=(p2 (gg g2 (rr (Yf1 Z6) k)));itK h (λg3 h=>rtK h (p3 (gg g3 ee))) λg3 h=>bnK h λr3 Y5 h=>have p4 {q p} (k:Scr q p):=(p3 (gg g3 (rr (Zaa Y5) k)));itK h (λg4 h=>rtK h (p4 (gg g4 ee))) λg4 h=>bnK h λr4 Qz h=>itK h (λg5 h=>rtK h (p4 (gg g4 (rr (Z7i Qz) (gg g5 ee))))) λg5 h=>bnK h λr5 hr5 h=>have p5 {q p} (k:Scr q p):=(p4 (gg g4 (rr (Z7i Qz) (gg g5 (rr (Yma hr5) k)))));itK h (λg6 h=>rtK h (p5 (gg g6 ee))) λg6 h=>rtK h (p5 (gg g6 ee)))
abbrev Zbz (x0:List Zg) (x1:Int) (r:Int):Y:=(41,[.tr (x0.map Zg.enc),il x1],il r,[.undef,.undef])
theorem Ybk {x0:List Zg} {x1:Int} {r:Int}:∀{m:Nat} {v0:Int} {v1:Int},Zph x0 x1 m v0 v1=some r->CS (Zbz x0 x1 r) Tryz.f41 [1,0,1,0] [(0,.tr (x0.map Zg.enc)),(1,il v0),(5,il v1)] []:=by
 intro m
 induction m with
 | zero=>intro v0 v1 h;cases h
 | succ m ih=>exactλ{v0} {v1} h=>have p1 {q p} (k:Scr q p):=(lr Zg.enc x0 k);itK h (λg1 h=>bnK h λa0 Zx h=>have p2 {q p} (k:Scr q p):=(p1 (gg g1 (xb Zg.enc Zx k)));itK h (λg2 h=>rtK h (p2 (gg g2 ee))) λg2 h=>have p3 {q p} (k:Scr q p):=(p2 (gg g2 (xb Zg.enc Zx k)));itK h (λg3 h=>rtK h (p3 (gg g3 ee))) λg3 h=>have p4 {q p} (k:Scr q p):=(p3 (gg g3 (xb Zg.enc Zx k)));itK h (λg4 h=>rtK h (p4 (gg g4 ee))) λg4 h=>have p5 {q p} (k:Scr q p):=(p4 (gg g4 (xb Zg.enc Zx k)));itK h (λg5 h=>rtK h (p5 (gg g5 ee))) λg5 h=>have p6 {q p} (k:Scr q p):=(p5 (gg g5 (xb Zg.enc Zx k)));itK h (λg6 h=>rtK h (p6 (gg g6 ee))) λg6 h=>have p7 {q p} (k:Scr q p):=(p6 (gg g6 (xb Zg.enc Zx k)));itK h (λg7 h=>rtK h (p7 (gg g7 ee))) λg7 h=>have p8 {q p} (k:Scr q p):=(p7 (gg g7 (xb Zg.enc Zx (kk 1 k))));itK h (λg8 h=>rtK h (p8 (gg g8 ee))) λg8 h=>itK h (λg9 h=>rtK h (p8 (gg g8 (xb Zg.enc Zx (gg g9 ee))))) λg9 h=>itK h (λg10 h=>rtK h (p8 (gg g8 (xb Zg.enc Zx (gg g9 (xb Zg.enc Zx (gg g10 ee))))))) λg10 h=>Zk [] 72 (p8 (gg g8 (xb Zg.enc Zx (gg g9 (xb Zg.enc Zx (gg g10 ee)))))) (ih h)) λg1 h=>rtK h (p1 (gg g1 ee))
theorem Z7l {x0:List Zg} {x1:Int} {r:Int} (h:Zqv x0 x1=some r):Zu Tryz.prog Mo (Zbz x0 x1 r):=
 Zt Tryz.func41 (Zk [] 6 ee (Ybk h))
end Go.Proofs.YtagdmghmblplbaaGreat.Ev
