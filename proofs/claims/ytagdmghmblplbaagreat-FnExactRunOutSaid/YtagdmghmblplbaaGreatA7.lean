/- A part of the proof of FnExactRunOut: see the text YtagdmghmblplbaaGreatLawFnExactRunOut for what is proved and its conditions. Conditions here: those in each line. -/
import Derived.Test.YtagdmghmblplbaaGreatA6
set_option linter.unusedSimpArgs false
set_option linter.unusedVariables false
set_option linter.unusedSectionVars false
namespace Go.Proofs.YtagdmghmblplbaaGreat.Ev
open Go Go.Proofs
variable [Anchor]
theorem Z5l {x0:Za} {r:Bool}:∀{m:Nat} {v0:List Int} {v9:Int},Zbj x0 m v0 v9=some r->CS (Km x0 r) Tryz.f165 [1,1,1,0,1,0] [(0,.rp true (Za.enc x0) 0),(3,.sl (1,1) 0 (v0.map Ze).length),(60,.tr (x0.m.map Zb.enc)),(61,il (x0.m.length:Int)),(62,il v9)] [rx 1 3 (v0.map Ze)]:=by
 intro m
 induction m with
 | zero=>intro v0 v9 h;cases h
 | succ m ih=>exactλ{v0} {v9} h=>itK h (λg1 h=>bnK h λa2 Kv h=>bnK h λa3 ha3 h=>itK h (λg2 h=>rtK h (gg g1 (xb Zb.enc Kv (xd Ze ha3 (gg g2 ee))))) λg2 h=>Zj [((1,1),(1,1))] 16 (gg g1 (xb Zb.enc Kv (xd Ze ha3 (gg g2 (ln Ze v0 ee))))) (ih h)) λg1 h=>itK h (λg2 h=>bnK h λa4 ha4 h=>have p1 {q p} (k:Scr q p):=(gg g1 (gg g2 (kk 8 (xb Zb.enc ha4 (kk 5 k)))));itK h (λg3 h=>Zj [] 14 (p1 (gg g3 (kk 22 ee))) (Qo h)) λg3 h=>itK h (λg4 h=>Zj [] 14 (p1 (gg g3 (kk 5 (gg g4 (kk 16 ee))))) (Qo h)) λg4 h=>have p2 {q p} (k:Scr q p):=(p1 (gg g3 (kk 5 (gg g4 (kk 5 k)))));itK h (λg5 h=>Zj [] 14 (p2 (gg g5 (kk 10 ee))) (Qo h)) λg5 h=>itK h (λg6 h=>Zj [] 14 (p2 (gg g5 (kk 4 (gg g6 (kk 5 ee))))) (Qo h)) λg6 h=>itK h (λg7 h=>Zj [] 14 (p2 (gg g5 (kk 4 (gg g6 (kk 3 (gg g7 (kk 5 ee))))))) (Qo h)) λg7 h=>Zj [] 14 (p2 (gg g5 (kk 4 (gg g6 (kk 3 (gg g7 (kk 5 ee))))))) (Qo h)) λg2 h=>itK h (λg3 h=>Zj [] 14 (gg g1 (gg g2 (kk 23 (gg g3 (kk 5 ee))))) (Qo h)) λg3 h=>Zj [] 14 (gg g1 (gg g2 (kk 23 (gg g3 (kk 5 ee))))) (Qo h)
theorem Z6w {x0:Za} {r:Bool}:∀{m:Nat} {v0:List Int} {v1:List Zh} {v2:Int} {v3:Int},Zd6 x0 m v0 v1 v2 v3=some r->CS (Km x0 r) Tryz.f165 [1,1,0,1,0] [(0,.rp true (Za.enc x0) 0),(3,.sl (1,1) 0 (v0.map Ze).length),(18,.sl (1,2) 0 (v1.map Zh.enc).length),(19,il v2),(20,il v3)] [rx 1 3 (v0.map Ze),rx 2 54 (v1.map Zh.enc)]:=by
 intro m
 induction m with
 | zero=>intro v0 v1 v2 v3 h;cases h
 | succ m ih=>exactλ{v0} {v1} {v2} {v3} h=>itK h (λg1 h=>bnK h λa5 ha5 h=>bnK h λr2 Z6 h=>have p1 {q p} (k:Scr q p):=(gg g1 (xd Zh.enc ha5 (rr (Zfe Z6) k)));itK h (λg2 h=>Zj [((1,1),(3,2048)),((1,2),(1,1)),((1,3),(1,2))] 13 (p1 (gg g2 (kk 14 (ln Ze v0 (ln Zh.enc v1 ee))))) (Zjj ih h)) λg2 h=>bnK h λr3 Y2 h=>itK h (λg3 h=>Zj [((1,1),(3,2048)),((1,2),(1,1)),((1,3),(1,2))] 13 (p1 (gg g2 (kk 2 (rr (Yi Y2) (kk 2 (gg g3 (kk 9 (ln Ze v0 (ln Zh.enc v1 ee))))))))) (Zjj ih h)) λg3 h=>bnK h λa6 ha6 h=>Zj [((1,1),(3,2048)),((1,2),(1,1)),((1,3),(1,2))] 13 (p1 (gg g2 (kk 2 (rr (Yi Y2) (kk 2 (gg g3 (kk 6 (xb Ze ha6 (kk 3 (ln Ze v0 (ln Zh.enc v1 ee))))))))))) (Zjj ih h)) λg1 h=>Zj [((1,1),(1,1))] 13 (gg g1 (lr Zb.enc x0.m (ln Ze v0 ee))) (Z5l h)
theorem Z09 {x0:Za} {r:Bool} (h:Zch x0=some r):Zu Tryz.prog Mo (Km x0 r):=
 Zr Tryz.func165 (bnK h λm0 hm0 h=>bnK h λr4 Qh h=>Zj [((1,1),(2,5120)),((1,2),(3,1024))] 8 (lr Zb.enc x0.m (tp (.mk ((x0.m.length:Int):Int).toNat (m0.map Ze)) (ob (mkn hm0) (ob (mkn hm0) (ob (mkl hm0) (ob (mkr Ze hm0) (rr (Yp6 Qh) (lr Zh.enc r4 (ln Ze m0 (ln Zh.enc r4 ee)))))))))) (Z6w h))
abbrev Y1e (x0:Zb) (r:Bool):Y:=(222,[.agg (Zb.enc x0)],bl r,[.undef])
theorem Z1t {x0:Zb} {r:Bool} (h:Zro x0=some r):Zu Tryz.prog Mo (Y1e x0 r):=
 Zr Tryz.func222 (itK h (λg1 h=>bnK h λa0 Zz h=>itK h (λg2 h=>rtK h (lr Zg.enc x0.queue (gg g1 (kk 2 (xb Zg.enc Zz (kk 3 (gg g2 (kk 3 ee)))))))) λg2 h=>rtK h (lr Zg.enc x0.queue (gg g1 (kk 2 (xb Zg.enc Zz (kk 3 (gg g2 (kk 3 ee)))))))) λg1 h=>rtK h (lr Zg.enc x0.queue (gg g1 (kk 9 ee))))
abbrev Z4w (x0:Za) (r:Bool):Y:=(166,[.rp true (Za.enc x0) 0],bl r,[.undef])
theorem Z98 {x0:Za} {r:Bool}:∀{m:Nat} {v0:Int},Zmw x0 m v0=some r->CS (Z4w x0 r) Tryz.f166 [1,0,1,0] [(0,.rp true (Za.enc x0) 0),(8,.tr (x0.m.map Zb.enc)),(9,il (x0.m.length:Int)),(10,il v0)] []:=by
 intro m
 induction m with
 | zero=>intro v0 h;cases h
 | succ m ih=>exactλ{v0} h=>itK h (λg1 h=>bnK h λa0 Zz h=>have p1 {q p} (k:Scr q p):=(gg g1 (xb Zb.enc Zz k));itK h (λg2 h=>bnK h λr0 Zn h=>have p2 {q p} (k:Scr q p):=(p1 (gg g2 (kk 1 (rr (Z1t Zn) (kk 1 k)))));itK h (λg3 h=>itK h (λg4 h=>rtK h (p2 (gg g3 (kk 6 (gg g4 ee))))) λg4 h=>Zj [] 16 (p2 (gg g3 (kk 6 (gg g4 ee)))) (ih h)) λg3 h=>Zj [] 16 (p2 (gg g3 (kk 7 ee))) (ih h)) λg2 h=>Zj [] 16 (p1 (gg g2 (kk 10 ee))) (ih h)) λg1 h=>itK h (λg2 h=>rtK h (gg g1 (gg g2 ee))) λg2 h=>bnK h λr1 Zw h=>have p3 {q p} (k:Scr q p):=(gg g1 (gg g2 (rr (Zfe Zw) k)));itK h (λg3 h=>bnK h λa1 Yv h=>bnK h λr2 Z6 h=>have p4 {q p} (k:Scr q p):=(p3 (gg g3 (kk 8 (xb Zb.enc Yv (kk 2 (rr (Z1t Z6) (kk 1 k)))))));itK h (λg4 h=>bnK h λa2 Kv h=>itK h (λg5 h=>bnK h λr3 Y2 h=>rtK h (p4 (gg g4 (kk 8 (xb Ze Kv (kk 3 (gg g5 (kk 9 (rr (Yi Y2) (kk 1 ee)))))))))) λg5 h=>rtK h (p4 (gg g4 (kk 8 (xb Ze Kv (kk 3 (gg g5 (kk 10 ee)))))))) λg4 h=>rtK h (p4 (gg g4 (kk 22 ee)))) λg3 h=>rtK h (p3 (gg g3 (kk 34 ee)))
theorem Zn5 {x0:Za} {r:Bool} (h:Zep x0=some r):Zu Tryz.prog Mo (Z4w x0 r):=
 Zr Tryz.func166 (Zj [] 6 (lr Zb.enc x0.m ee) (Z98 h))
abbrev Z0t (x0:Za) (r:Bool):Y:=(167,[.rp true (Za.enc x0) 0],bl r,[.undef])
theorem Z64 {x0:Za} {r:Bool}:∀{m:Nat} {v0:Int} {v1:Int},Zd5 x0 m v0 v1=some r->CS (Z0t x0 r) Tryz.f167 [1,1,0,1,0] [(0,.rp true (Za.enc x0) 0),(3,il v0),(9,.tr (x0.log.map Zm.enc)),(10,il (x0.log.length:Int)),(11,il v1)] []:=by
 intro m
 induction m with
 | zero=>intro v0 v1 h;cases h
 | succ m ih=>exactλ{v0} {v1} h=>itK h (λg1 h=>bnK h λa0 Zz h=>have p1 {q p} (k:Scr q p):=(gg g1 (xb Zm.enc Zz k));itK h (λg2 h=>rtK h (p1 (gg g2 (kk 41 ee)))) λg2 h=>have p2 {q p} (k:Scr q p):=(p1 (gg g2 (kk 7 k)));itK h (λg3 h=>rtK h (p2 (gg g3 (kk 33 ee)))) λg3 h=>bnK h λr0 Zn h=>have p3 {q p} (k:Scr q p):=(p2 (gg g3 (kk 6 (rr (Zfe Zn) (kk 2 k)))));itK h (λg4 h=>rtK h (p3 (gg g4 (kk 24 ee)))) λg4 h=>bnK h λr1 Zw h=>have p4 {q p} (k:Scr q p):=(p3 (gg g4 (kk 4 (rr (Zhi Zw) (kk 2 k)))));itK h (λg5 h=>rtK h (p4 (gg g5 (kk 17 ee)))) λg5 h=>itK h (λg6 h=>rtK h (p4 (gg g5 (kk 3 (gg g6 (kk 13 ee)))))) λg6 h=>bnK h λr2 Z6 h=>have p5 {q p} (k:Scr q p):=(p4 (gg g5 (kk 3 (gg g6 (kk 4 (rr (Znr Z6) (kk 2 k)))))));itK h (λg7 h=>rtK h (p5 (gg g7 (kk 6 ee)))) λg7 h=>itK h (λg8 h=>itK h (λg9 h=>rtK h (p5 (gg g7 (kk 3 (gg g8 (kk 5 (gg g9 ee))))))) λg9 h=>Zj [] 18 (p5 (gg g7 (kk 3 (gg g8 (kk 5 (gg g9 ee)))))) (ih h)) λg8 h=>Zj [] 18 (p5 (gg g7 (kk 3 (gg g8 (kk 6 ee))))) (ih h)) λg1 h=>rtK h (gg g1 ee)
theorem Z0g {x0:Za} {r:Bool} (h:Zcl x0=some r):Zu Tryz.prog Mo (Z0t x0 r):=
 Zr Tryz.func167 (Zj [] 8 (lr Zm.enc x0.log ee) (Z64 h))
abbrev Y2l (x0:Za) (r:Bool):Y:=(96,[.agg (Za.enc x0)],bl r,[.undef])
theorem Ylf {x0:Za} {r:Bool} (h:Zrj x0=some r):Zu Tryz.prog Mo (Y2l x0 r):=
 Zr Tryz.func96 (bnK h λr0 Zn h=>have p1 {q p} (k:Scr q p):=(rr (Ztj Zn) k);itK h (λg1 h=>bnK h λr1 Zw h=>have p2 {q p} (k:Scr q p):=(p1 (gg g1 (kk 2 (rr (Yi Zw) (kk 1 k)))));itK h (λg2 h=>bnK h λr2 Z6 h=>have p3 {q p} (k:Scr q p):=(p2 (gg g2 (rr (Z8x Z6) (kk 1 k))));itK h (λg3 h=>bnK h λr3 Y2 h=>have p4 {q p} (k:Scr q p):=(p3 (gg g3 (kk 4 (rr (Zwp Y2) (kk 1 k)))));itK h (λg4 h=>have p5 {q p} (k:Scr q p):=(p4 (gg g4 (kk 3 k)));itK h (λg5 h=>bnK h λr4 Qh h=>have p6 {q p} (k:Scr q p):=(p5 (gg g5 (kk 10 (rr (Z3l Qh) (kk 1 k)))));itK h (λg6 h=>bnK h λr5 hr5 h=>have p7 {q p} (k:Scr q p):=(p6 (gg g6 (kk 4 (rr (Yi hr5) (kk 1 k)))));itK h (λg7 h=>bnK h λr6 hr6 h=>have p8 {q p} (k:Scr q p):=(p7 (gg g7 (rr (Z09 hr6) (kk 1 k))));itK h (λg8 h=>bnK h λr7 hr7 h=>itK h (λg9 h=>bnK h λr8 hr8 h=>rtK h (p8 (gg g8 (rr (Zn5 hr7) (kk 1 (gg g9 (rr (Z0g hr8) (kk 1 ee)))))))) λg9 h=>rtK h (p8 (gg g8 (rr (Zn5 hr7) (kk 1 (gg g9 (kk 1 ee))))))) λg8 h=>rtK h (p8 (gg g8 (kk 3 ee)))) λg7 h=>rtK h (p7 (gg g7 (kk 5 ee)))) λg6 h=>rtK h (p6 (gg g6 (kk 11 ee)))) λg5 h=>bnK h λr9 hr9 h=>have p9 {q p} (k:Scr q p):=(p5 (gg g5 (kk 4 (rr (Zfe hr9) (kk 3 k)))));itK h (λg6 h=>bnK h λr4 Qh h=>have p10 {q p} (k:Scr q p):=(p9 (gg g6 (kk 2 (rr (Z3l Qh) (kk 1 k)))));itK h (λg7 h=>bnK h λr5 hr5 h=>have p11 {q p} (k:Scr q p):=(p10 (gg g7 (kk 4 (rr (Yi hr5) (kk 1 k)))));itK h (λg8 h=>bnK h λr6 hr6 h=>have p12 {q p} (k:Scr q p):=(p11 (gg g8 (rr (Z09 hr6) (kk 1 k))));itK h (λg9 h=>bnK h λr7 hr7 h=>itK h (λg10 h=>bnK h λr8 hr8 h=>rtK h (p12 (gg g9 (rr (Zn5 hr7) (kk 1 (gg g10 (rr (Z0g hr8) (kk 1 ee)))))))) λg10 h=>rtK h (p12 (gg g9 (rr (Zn5 hr7) (kk 1 (gg g10 (kk 1 ee))))))) λg9 h=>rtK h (p12 (gg g9 (kk 3 ee)))) λg8 h=>rtK h (p11 (gg g8 (kk 5 ee)))) λg7 h=>rtK h (p10 (gg g7 (kk 11 ee)))) λg6 h=>rtK h (p9 (gg g6 (kk 15 ee)))) λg4 h=>rtK h (p4 (gg g4 (kk 21 ee)))) λg3 h=>rtK h (p3 (gg g3 (kk 27 ee)))) λg2 h=>rtK h (p2 (gg g2 (kk 29 ee)))) λg1 h=>rtK h (p1 (gg g1 (kk 33 ee))))
abbrev Z7y (x0:Zf) (r:Int):Y:=(100,[.agg (Zf.enc x0)],il r,[.undef])
theorem Ye9 {x0:Zf} {r:Int}:∀{m:Nat} {v0:Int} {v1:Int},Zja x0 m v0 v1=some r->CS (Z7y x0 r) Tryz.f100 [1,1,0,1,0] [(3,il v0),(7,.tr (x0.posts.map Zl.enc)),(8,il (x0.posts.length:Int)),(9,il v1)] []:=by
 intro m
 induction m with
 | zero=>intro v0 v1 h;cases h
 | succ m ih=>exactλ{v0} {v1} h=>itK h (λg1 h=>bnK h λa0 Zz h=>Zj [] 13 (gg g1 (xb Zl.enc Zz ee)) (ih h)) λg1 h=>rtK h (gg g1 ee)
theorem Yrj {x0:Zf} {r:Int} (h:Zt4 x0=some r):Zu Tryz.prog Mo (Z7y x0 r):=
 Zr Tryz.func100 (Zj [] 8 (lr Zl.enc x0.posts ee) (Ye9 h))
abbrev Yfd (x0:Zb) (r:Bool):Y:=(177,[.agg (Zb.enc x0)],bl r,[.undef])
theorem Zzr {x0:Zb} {r:Bool} (h:Zew x0=some r):Zu Tryz.prog Mo (Yfd x0 r):=
 Zr Tryz.func177 (rtK h (lr Zg.enc x0.queue ee))
abbrev Za0 (x0:List Zb) (r:Int):Y:=(235,[.tr (x0.map Zb.enc),.fn 177 []],il r,[.undef,.undef])
theorem Zfv {x0:List Zb} {r:Int}:∀{m:Nat} {v0:Int},X4 x0 m v0=some r->CS (Za0 x0 r) Tryz.f235 [1,0,1,0] [(0,.tr (x0.map Zb.enc)),(1,.fn 177 []),(7,il (x0.length:Int)),(8,il v0)] []:=by
 intro m
 induction m with
 | zero=>intro v0 h;cases h
 | succ m ih=>exactλ{v0} h=>itK h (λg1 h=>bnK h λa0 Zz h=>bnK h λr0 Zn h=>itK h (λg2 h=>rtK h (gg g1 (xb Zb.enc Zz (rr (Zzr Zn) (gg g2 ee))))) λg2 h=>Zj [] 16 (gg g1 (xb Zb.enc Zz (rr (Zzr Zn) (gg g2 ee)))) (ih h)) λg1 h=>rtK h (gg g1 ee)
theorem Zij {x0:List Zb} {r:Int} (h:Q4 x0=some r):Zu Tryz.prog Mo (Za0 x0 r):=
 Zr Tryz.func235 (Zj [] 6 (lr Zb.enc x0 ee) (Zfv h))
abbrev Zf9 (x0:List Zb) (r:Bool):Y:=(176,[.tr (x0.map Zb.enc),.fn 177 []],bl r,[.undef,.undef])
theorem Zgq {x0:List Zb} {r:Bool} (h:Qn x0=some r):Zu Tryz.prog Mo (Zf9 x0 r):=
 Zr Tryz.func176 (bnK h λr0 Zn h=>rtK h (rr (Zij Zn) ee))
abbrev Yj1 (x0:Za) (r:Bool):Y:=(101,[.rp true (Za.enc x0) 0],bl r,[.undef])
theorem Yjw {x0:Za} {r:Bool} (h:Zos x0=some r):Zu Tryz.prog Mo (Yj1 x0 r):=
 Zr Tryz.func101 (bnK h λr0 Zn h=>rtK h (rr (Zgq Zn) ee))
abbrev Ycd (x0:Zb) (x1:Int) (r:Int):Y:=(168,[.agg (Zb.enc x0),il x1],il r,[.undef,.undef])
theorem Z13 {x0:Zb} {x1:Int} {r:Int} {v0:Bool} (h:Zlp x0 x1 v0=some r):CS (Ycd x0 x1 r) Tryz.f168 [1,0,1] [(1,il x1),(2,.ptr (1,1) 0 0),(15,bl v0)] [bx 1 (Zb.enc x0)]:=
 itK h (λg1 h=>rtK h (gg g1 ee)) λg1 h=>bnK h λa0 Zz h=>bnK h λr0 Zn h=>bnK h λa1 Yv h=>rtK h (gg g1 (xb Zg.enc Zz (rr (Z4z Zn) (xd Ze Yv ee))))
theorem Zhg {x0:Zb} {x1:Int} {r:Int} (h:Zea x0 x1=some r):Zu Tryz.prog Mo (Ycd x0 x1 r):=
 Zr Tryz.func168 (bnK h λr1 Zw h=>itK h (λg1 h=>Zj [((1,1),(1,0))] 5 (rr (Qs Zw) (gg g1 (kk 5 ee))) (Z13 h)) λg1 h=>bnK h λr2 Z6 h=>bnK h λr3 Y2 h=>Zj [((1,1),(1,0))] 5 (rr (Qs Zw) (gg g1 (kk 1 (rr (Zdt Z6) (kk 2 (rr (Yi Y2) (kk 2 ee))))))) (Z13 h))
abbrev Ydo (x0:Zf) (x1:Int) (r:List Zl):Y:=(169,[.agg (Zf.enc x0),il x1],.own 106 (r.map Zl.enc),[.undef,.undef])
theorem Yhx {x0:Zf} {x1:Int} {r:List Zl}:∀{m:Nat} {v0:List Zl} {v1:Int},Zlu x0 x1 m v0 v1=some r->CS (Ydo x0 x1 r) Tryz.f169 [1,1,0,1,0] [(1,il x1),(5,.sl (1,1) 0 (v0.map Zl.enc).length),(10,.tr (x0.posts.map Zl.enc)),(11,il (x0.posts.length:Int)),(12,il v1)] [rx 1 106 (v0.map Zl.enc)]:=by
 intro m
 induction m with
 | zero=>intro v0 v1 h;cases h
 | succ m ih=>exactλ{v0} {v1} h=>itK h (λg1 h=>bnK h λa0 Zz h=>itK h (λg2 h=>bnK h λr0 Zn h=>bnK h λz0 W3 h=>Zj [((1,1),(6,3072))] 18 (gg g1 (xb Zl.enc Zz (gg g2 (rr (Z5h Zn) (kk 1 (ta Zl.enc [{a0 with req:=r0}] z0 (kk 1 (oe Ze r0.data_ (oa 8 Zl.enc_len {a0 with req:=r0} (ox Zl.enc W3 (ln Zl.enc z0 (oe Zl.enc z0 ee)))))))))))) (ih h)) λg2 h=>Zj [((1,1),(1,1))] 16 (gg g1 (xb Zl.enc Zz (gg g2 (ln Zl.enc v0 ee)))) (ih h)) λg1 h=>rtK h (gg g1 (kk 1 (oe Zl.enc v0 ee)))
theorem Ys3 {x0:Zf} {x1:Int} {r:List Zl} (h:Zwc x0 x1=some r):Zu Tryz.prog Mo (Ydo x0 x1 r):=
 Zr Tryz.func169 (Zj [((1,1),(2,0))] 8 (lr Zl.enc x0.posts (tp (.num ([].map Zl.enc).length 0 0 []) (ob (show 0=([].map Zl.enc).length from rfl) ee))) (Yhx h))
abbrev Ycn (x0:Zb) (x1:Zg) (r:Zb×Bool):Y:=(170,[.agg (Zb.enc x0),.agg (Zg.enc x1)],.tup [.agg [.own 104 (r.1.queue.map Zg.enc),il r.1.beat,il r.1.done,il r.1.tries,bl r.1.parted,bl r.1.broken],bl r.2],[.undef,.undef])
theorem Zr9 {x0:Zb} {x1:Zg} {r:Zb×Bool} {vb0:Zb} {v0:Bool} (h:Zf2 x0 x1 vb0 v0=some r):CS (Ycn x0 x1 r) Tryz.f170 [1,1,0,1] [(3,.ptr (1,1) 0 0),(4,.ptr (1,2) 0 0),(6,.ptr (1,4) 0 0),(22,bl v0)] [bx 1 (Zg.enc x1),rx 3 104 ([].map Zg.enc),bx 2 [.sl (1,3) 0 ([].map Zg.enc).length,il 0,il 0,il 0,bl false,bl false],rx 5 104 (vb0.queue.map Zg.enc),bx 4 [.sl (1,5) 0 (vb0.queue.map Zg.enc).length,il vb0.beat,il vb0.done,il vb0.tries,bl vb0.parted,bl vb0.broken]]:=
 itK h (λg1 h=>rtK h (gg g1 (kk 1 (oe Zg.enc vb0.queue ee)))) λg1 h=>bnK h λr0 Zn h=>bnK h λz0 W3 h=>rtK h (gg g1 (rr (Z5h Zn) (kk 1 (ta Zg.enc [r0] z0 (kk 2 (oe Ze r0.data_ (oa 6 Zg.enc_len r0 (ox Zg.enc W3 (oe Zg.enc z0 (oe Zg.enc z0 ee))))))))))
theorem Yvh {x0:Zb} {x1:Zg} {r:Zb×Bool} (h:Zvl x0 x1=some r):Zu Tryz.prog Mo (Ycn x0 x1 r):=
 Zr Tryz.func170 (bnK h λr1 Zw h=>bnK h λr2 Z6 h=>have p1 {q p} (k:Scr q p):=(rr (Zgo Zw) (rr (Qs Z6) k));itK h (λg1 h=>Zj [((1,1),(1,1024)),((1,2),(1,2048)),((1,4),(2,2048)),((1,5),(2,1024))] 7 (p1 (gg g1 (kk 8 (ln Zg.enc r1.queue ee)))) (Zr9 h)) λg1 h=>bnK h λr3 Y2 h=>itK h (λg2 h=>Zj [((1,1),(1,1024)),((1,2),(1,2048)),((1,4),(2,2048)),((1,5),(2,1024))] 7 (p1 (gg g1 (kk 1 (rr (Z9t Y2) (kk 2 (gg g2 (kk 4 (ln Zg.enc r1.queue ee)))))))) (Zr9 h)) λg2 h=>Zj [((1,1),(1,1024)),((1,2),(1,2048)),((1,4),(2,2048)),((1,5),(2,1024))] 7 (p1 (gg g1 (kk 1 (rr (Z9t Y2) (kk 2 (gg g2 (kk 2 (lr Zg.enc x0.queue (kk 2 (ln Zg.enc r1.queue ee)))))))))) (Zr9 h))
abbrev Yx7 (x0:Zc) (x1:Zd) (r:Bool):Y:=(225,[.agg (Zc.enc x0),.agg (Zd.enc x1)],bl r,[.undef,.undef])
theorem Zgg {x0:Zc} {x1:Zd} {r:Bool} (h:Zo9 x0 x1=some r):Zu Tryz.prog Mo (Yx7 x0 x1 r):=
 Zr Tryz.func225 (itK h (λg1 h=>bnK h λr0 Zn h=>rtK h (gg g1 (kk 2 (rr (Z89 Zn) (kk 1 ee))))) λg1 h=>rtK h (gg g1 (kk 3 ee)))
abbrev Ykf (x0:Zc) (x1:Zd) (r:Zc):Y:=(171,[.agg (Zc.enc x0),.agg (Zd.enc x1)],.agg (Zc.enc r),[.undef,.undef])
theorem Ykb {x0:Zc} {x1:Zd} {r:Zc} (h:Zpa x0 x1=some r):Zu Tryz.prog Mo (Ykf x0 x1 r):=
 Zr Tryz.func171 (bnK h λr0 Zn h=>itK h (λg1 h=>rtK h (rr (Zgg Zn) (gg g1 ee))) λg1 h=>itK h (λg2 h=>rtK h (rr (Zgg Zn) (gg g1 (gg g2 ee)))) λg2 h=>rtK h (rr (Zgg Zn) (gg g1 (gg g2 ee))))
abbrev Ycu (x0:Zb) (r:Zb×Bool):Y:=(253,[.agg (Zb.enc x0)],.tup [.agg [.own 104 (r.1.queue.map Zg.enc),il r.1.beat,il r.1.done,il r.1.tries,bl r.1.parted,bl r.1.broken],bl r.2],[.undef])
theorem Z1n {x0:Zb} {r:Zb×Bool} {vb0:Zb} {v0:Bool} (h:Zll x0 vb0 v0=some r):CS (Ycu x0 r) Tryz.f253 [1,1,0,1] [(2,.ptr (1,1) 0 0),(4,.ptr (1,3) 0 0),(16,bl v0)] [rx 2 104 ([].map Zg.enc),bx 1 [.sl (1,2) 0 ([].map Zg.enc).length,il 0,il 0,il 0,bl false,bl false],rx 4 104 (vb0.queue.map Zg.enc),bx 3 [.sl (1,4) 0 (vb0.queue.map Zg.enc).length,il vb0.beat,il vb0.done,il vb0.tries,bl vb0.parted,bl vb0.broken]]:=
 itK h (λg1 h=>rtK h (gg g1 (kk 1 (oe Zg.enc vb0.queue ee)))) λg1 h=>rtK h (gg g1 (kk 1 (oe Zg.enc vb0.queue ee)))
theorem Yu5 {x0:Zb} {r:Zb×Bool} (h:Zvf x0=some r):Zu Tryz.prog Mo (Ycu x0 r):=
 Zr Tryz.func253 (bnK h λr0 Zn h=>bnK h λr1 Zw h=>itK h (λg1 h=>Zj [((1,1),(1,1024)),((1,3),(2,2048)),((1,4),(2,1024))] 7 (rr (Zgo Zn) (rr (Qs Zw) (gg g1 (kk 5 (ln Zg.enc r0.queue ee))))) (Z1n h)) λg1 h=>Zj [((1,1),(1,1024)),((1,3),(2,2048)),((1,4),(2,1024))] 7 (rr (Zgo Zn) (rr (Qs Zw) (gg g1 (kk 5 (ln Zg.enc r0.queue ee))))) (Z1n h))
abbrev Yjp (x0:Zc) (x1:Zd) (r:Zc):Y:=(254,[.agg (Zc.enc x0),.agg (Zd.enc x1)],.agg (Zc.enc r),[.undef,.undef])
theorem Yjr {x0:Zc} {x1:Zd} {r:Zc} (h:Zo7 x0 x1=some r):Zu Tryz.prog Mo (Yjp x0 x1 r):=
 Zr Tryz.func254 (bnK h λr0 Zn h=>itK h (λg1 h=>itK h (λg2 h=>rtK h (rr (Zgg Zn) (gg g1 (kk 5 (gg g2 ee))))) λg2 h=>rtK h (rr (Zgg Zn) (gg g1 (kk 5 (gg g2 ee))))) λg1 h=>rtK h (rr (Zgg Zn) (gg g1 (kk 6 ee))))
abbrev Ycm (x0:Z2) (x1:Zk) (x2:Int) (r:Z2):Y:=(255,[.agg (Z2.enc x0),.agg (Zk.enc x1),il x2],.agg (Z2.enc r),[.undef,.undef,.undef])
theorem Z18 {x0:Z2} {x1:Zk} {x2:Int} {r:Z2} {v0:Bool} (h:Zlz x0 x1 x2 v0=some r):CS (Ycm x0 x1 x2 r) Tryz.f255 [1,0,1] [(2,il x2),(3,.ptr (1,1) 0 0),(4,.ptr (1,2) 0 0),(6,.ptr (1,3) 0 0),(15,bl v0)] [bx 1 (Z2.enc x0),bx 2 (Zk.enc x1),bx 3 (Z2.enc Z2.z0)]:=
 itK h (λg1 h=>bnK h λr0 Zn h=>rtK h (gg g1 (rr (Z6a Zn) ee))) λg1 h=>rtK h (gg g1 ee)
theorem Ytn {x0:Z2} {x1:Zk} {x2:Int} {r:Z2} (h:Zv5 x0 x1 x2=some r):Zu Tryz.prog Mo (Ycm x0 x1 x2 r):=
 Zr Tryz.func255 (bnK h λr1 Zw h=>itK h (λg1 h=>Zj [((1,1),(1,0)),((1,2),(1,1024)),((1,3),(1,2048))] 5 (rr (Zwp Zw) (gg g1 (kk 4 ee))) (Z18 h)) λg1 h=>Zj [((1,1),(1,0)),((1,2),(1,1024)),((1,3),(1,2048))] 5 (rr (Zwp Zw) (gg g1 (kk 4 ee))) (Z18 h))
abbrev Ykp (x0:Za) (x1:Zh) (r:Za):Y:=(226,[.agg (Za.ow x0),.agg (Zh.enc x1)],.tup [],[.agg (Za.ow r),.undef])
theorem Zu4 {x0:Za} {x1:Zh} {r:Za} (h:Zeo x0 x1=some r):Zu Tryz.prog Mo (Ykp x0 x1 r):=
 Zr Tryz.func226 (bnK h λa0 Zz h=>bnK h λr0 Zn h=>bnK h λy0 Wb h=>have p1 {q p} (k:Scr q p):=(xd Zb.enc Zz (rr (Yu5 Zn) (xq Zb.enc Zz y0 (kk 1 (oe Zg.enc r0.1.queue (ob (Zu5 Zb.enc Wb) k))))));itK h (λg1 h=>bnK h λa1 Yv h=>bnK h λa2 Kv h=>bnK h λr1 Zw h=>bnK h λy1 hy1 h=>rtK h (p1 (gg g1 (xd Zc.enc Yv (xd Zd.enc Kv (rr (Yjr Zw) (xp Zc.enc Yv hy1 (kk 8 (oe Zd.enc x0.conf.masters (ob (Qm Zb.enc Wb) (ob (Qm Zc.enc hy1) (oe Ze x0.splits (Zi.so x0.model (oe Zm.enc x0.log ee)))))))))))))) λg1 h=>itK h (λg2 h=>bnK h λr2 Z6 h=>rtK h (p1 (gg g1 (gg g2 (kk 1 (oe Zd.enc x0.conf.masters (rr (Ytn Z6) (kk 8 (oe Zd.enc x0.conf.masters (ob (Qm Zb.enc Wb) (oe Zc.enc x0.buckets (oe Ze x0.splits (Zi.so x0.model (oe Zm.enc x0.log ee)))))))))))))) λg2 h=>rtK h (p1 (gg g1 (gg g2 (kk 8 (oe Zd.enc x0.conf.masters (ob (Qm Zb.enc Wb) (oe Zc.enc x0.buckets (oe Ze x0.splits (Zi.so x0.model (oe Zm.enc x0.log ee)))))))))))
abbrev Yc0 (x0:List Int) (x1:Int) (r:Int):Y:=(256,[.tr (x0.map Ze),il x1],il r,[.undef,.undef])
theorem Z2d {x0:List Int} {x1:Int} {r:Int} {v0:Bool} (h:Zl5 x0 x1 v0=some r):CS (Yc0 x0 x1 r) Tryz.f256 [1,0,1] [(0,.tr (x0.map Ze)),(1,il x1),(11,bl v0)] []:=
 itK h (λg1 h=>rtK h (gg g1 ee)) λg1 h=>bnK h λn0 hn0 h=>bnK h λa0 Zz h=>rtK h (gg g1 (lr Ze x0 (tp (.obl) (ob (nz0 hn0) (xb Ze Zz ee)))))
theorem Zp2 {x0:List Int} {x1:Int} {r:Int} (h:Zk1 x0 x1=some r):Zu Tryz.prog Mo (Yc0 x0 x1 r):=
 Zr Tryz.func256 (itK h (λg1 h=>Zj [] 5 (lr Ze x0 (gg g1 (kk 2 ee))) (Z2d h)) λg1 h=>Zj [] 5 (lr Ze x0 (gg g1 (kk 2 ee))) (Z2d h))
abbrev Ytt (x0:Zk) (x1:Zf) (x2:Int) (r:Int):Y:=(227,[.agg (Zk.enc x0),.agg (Zf.enc x1),il x2],il r,[.undef,.undef,.undef])
theorem Yuv {x0:Zk} {x1:Zf} {x2:Int} {r:Int} (h:Zvh x0 x1 x2=some r):Zu Tryz.prog Mo (Ytt x0 x1 x2 r):=
 Zr Tryz.func227 (bnK h λr0 Zn h=>rtK h (rr (Zp2 Zn) ee))
abbrev Ykl (x0:Zb) (x1:Int) (r:Int):Y:=(259,[.rp true (Zb.enc x0) 0,il x1],il r,[.undef,.undef])
theorem Ykx {x0:Zb} {x1:Int} {r:Int} (h:Zoi x0 x1=some r):Zu Tryz.prog Mo (Ykl x0 x1 r):=
 Zr Tryz.func259 (bnK h λa0 Zz h=>itK h (λg1 h=>bnK h λa1 Yv h=>rtK h (xb Zg.enc Zz (gg g1 (xb Ze Yv ee)))) λg1 h=>rtK h (xb Zg.enc Zz (gg g1 ee)))
abbrev Ydb (x0:Int) (r:Int):Y:=(229,[il x0],il r,[.undef])
theorem Z2l {x0:Int} {r:Int} {v0:Bool} (h:Zl8 x0 v0=some r):CS (Ydb x0 r) Tryz.f229 [1,0,0,1] [(0,il x0),(3,bl v0)] []:=
 itK h (λg1 h=>rtK h (gg g1 ee)) λg1 h=>itK h (λg2 h=>rtK h (gg g1 (gg g2 ee))) λg2 h=>itK h (λg3 h=>rtK h (gg g1 (gg g2 (gg g3 ee)))) λg3 h=>rtK h (gg g1 (gg g2 (gg g3 ee)))
theorem Z3h {x0:Int} {r:Int} (h:Zp3 x0=some r):Zu Tryz.prog Mo (Ydb x0 r):=
 Zr Tryz.func229 (itK h (λg1 h=>Zj [] 6 (gg g1 (kk 2 ee)) (Z2l h)) λg1 h=>Zj [] 6 (gg g1 (kk 2 ee)) (Z2l h))
abbrev Zrn (x0:Zo) (x1:Bool) (x2:Int) (x3:Int) (r:Zo×Int×Bool):Y:=(265,[.agg (Zo.enc x0),bl x1,il x2,il x3],.tup [.agg (Zo.ow r.1),il r.2.1,bl r.2.2],[.undef,.undef,.undef,.undef])
theorem Zxh {x0:Zo} {x1:Bool} {x2:Int} {x3:Int} {r:Zo×Int×Bool} {vb0:Zo} {v0:Bool} (h:Zks x0 x1 x2 x3 vb0 v0=some r):CS (Zrn x0 x1 x2 x3 r) Tryz.f265 [1,1,1,0,0,1,1,1,1,1,1,1,1,1] [(1,bl x1),(2,il x2),(3,il x3),(4,.ptr (1,1) 0 0),(8,.ptr (1,2) 0 0),(11,.ptr (1,5) 0 0),(91,bl v0)] ([bx 1 (Zo.enc x0)]++Zo.bk Zo.z0 3++[bx 2 (Zo.rl Zo.z0 3)]++Zo.bk vb0 6++[bx 5 (Zo.rl vb0 6)]):=
 itK h (λg1 h=>rtK h (gg g1 (kk 2 (Zo.so vb0 ee)))) λg1 h=>itK h (λg2 h=>bnK h λa0 Zz h=>bnK h λy0 Wb h=>rtK h (gg g1 (gg g2 (kk 1 (xp Ze Zz Wb (kk 2 (ob (Qm Ze Wb) (oe Ze vb0.fifo ee)))))))) λg2 h=>bnK h λa1 Yv h=>rtK h (gg g1 (gg g2 (kk 1 (xb Ze Yv (kk 2 (Zo.so vb0 ee))))))
theorem Zxn {x0:Zo} {x1:Bool} {x2:Int} {x3:Int} {r:Zo×Int×Bool} {vb0:Zo} {v1:Bool} (h:Zkp x0 x1 x2 x3 vb0 v1=some r):CS (Zrn x0 x1 x2 x3 r) Tryz.f265 [1,1,1,0,0,1,1,1,1,1,1,1] [(1,bl x1),(2,il x2),(3,il x3),(4,.ptr (1,1) 0 0),(8,.ptr (1,2) 0 0),(11,.ptr (1,5) 0 0),(69,bl v1)] ([bx 1 (Zo.enc x0)]++Zo.bk Zo.z0 3++[bx 2 (Zo.rl Zo.z0 3)]++Zo.bk vb0 6++[bx 5 (Zo.rl vb0 6)]):=
 itK h (λg1 h=>bnK h λa2 Kv h=>bnK h λs0 hs0 h=>bnK h λr0 Zn h=>rtK h (gg g1 (xb Ze Kv (tp (.num (1:Int).toNat ((x0.fifo.length:Int):Int).toNat 0 (s0.map Ze)) (ob (sln hs0).1 (ob (Yji Ze x0.fifo) (ob (sll Ze hs0) (ob (alr 1 Zcs x0.fifo) (ob (slr Ze hs0) (rr (Wv Zn) (kk 2 (oe Ze vb0.regs (oe Ze r0 ee))))))))))))) λg1 h=>itK h (λg2 h=>Zj (ffi 1 7) 3 (gg g1 (gg g2 (kk 6 (Zo.sc Zo.z0 (Zo.sc vb0 ee))))) (Zxh h)) λg2 h=>itK h (λg3 h=>Zj (ffi 1 7) 3 (gg g1 (gg g2 (kk 2 (gg g3 (kk 3 (Zo.sc Zo.z0 (Zo.sc vb0 ee))))))) (Zxh h)) λg3 h=>Zj (ffi 1 7) 3 (gg g1 (gg g2 (kk 2 (gg g3 (kk 4 (Zo.sc Zo.z0 (Zo.sc vb0 ee))))))) (Zxh h)
theorem Zxo {x0:Zo} {x1:Bool} {x2:Int} {x3:Int} {r:Zo×Int×Bool} {vb0:Zo} {v2:Bool} (h:Zkm x0 x1 x2 x3 vb0 v2=some r):CS (Zrn x0 x1 x2 x3 r) Tryz.f265 [1,1,1,0,0,1,1,1,1,1] [(1,bl x1),(2,il x2),(3,il x3),(4,.ptr (1,1) 0 0),(8,.ptr (1,2) 0 0),(11,.ptr (1,5) 0 0),(51,bl v2)] ([bx 1 (Zo.enc x0)]++Zo.bk Zo.z0 3++[bx 2 (Zo.rl Zo.z0 3)]++Zo.bk vb0 6++[bx 5 (Zo.rl vb0 6)]):=
 itK h (λg1 h=>bnK h λz0 W3 h=>rtK h (gg g1 (ta Ze [x3] z0 (kk 3 (oa 1 Zcs x3 (ox Ze W3 (oe Ze z0 (oe Ze vb0.regs (oe Ze z0 ee))))))))) λg1 h=>itK h (λg2 h=>itK h (λg3 h=>Zj (ffi 1 7) 3 (gg g1 (gg g2 (kk 2 (gg g3 (kk 2 (lr Ze x0.fifo (kk 2 (Zo.sc Zo.z0 (Zo.sc vb0 ee))))))))) (Zxn h)) λg3 h=>Zj (ffi 1 7) 3 (gg g1 (gg g2 (kk 2 (gg g3 (kk 4 (Zo.sc Zo.z0 (Zo.sc vb0 ee))))))) (Zxn h)) λg2 h=>Zj (ffi 1 7) 3 (gg g1 (gg g2 (kk 7 (Zo.sc Zo.z0 (Zo.sc vb0 ee))))) (Zxn h)
theorem Z7m {x0:Zo} {x1:Bool} {x2:Int} {x3:Int} {r:Zo×Int×Bool} {vb0:Zo} {v3:Bool} (h:Zql x0 x1 x2 x3 vb0 v3=some r):CS (Zrn x0 x1 x2 x3 r) Tryz.f265 [1,1,1,0,0,1] [(1,bl x1),(2,il x2),(3,il x3),(4,.ptr (1,1) 0 0),(8,.ptr (1,2) 0 0),(11,.ptr (1,5) 0 0),(32,bl v3)] ([bx 1 (Zo.enc x0)]++Zo.bk Zo.z0 3++[bx 2 (Zo.rl Zo.z0 3)]++Zo.bk vb0 6++[bx 5 (Zo.rl vb0 6)]):=
 itK h (λg1 h=>rtK h (gg g1 (kk 2 (Zo.so vb0 ee)))) λg1 h=>itK h (λg2 h=>bnK h λr1 Zw h=>bnK h λn0 hn0 h=>rtK h (gg g1 (gg g2 (rr (Yc6 Zw) (tp (.obl) (kk 2 (ob (nz0 hn0) (Zo.so vb0 ee)))))))) λg2 h=>itK h (λg3 h=>itK h (λg4 h=>Zj (ffi 1 7) 6 (gg g1 (gg g2 (gg g3 (kk 1 (gg g4 (kk 2 (lr Ze x0.fifo (kk 2 (Zo.sc Zo.z0 (Zo.sc vb0 ee)))))))))) (Zxo h)) λg4 h=>Zj (ffi 1 7) 6 (gg g1 (gg g2 (gg g3 (kk 1 (gg g4 (kk 4 (Zo.sc Zo.z0 (Zo.sc vb0 ee)))))))) (Zxo h)) λg3 h=>Zj (ffi 1 7) 6 (gg g1 (gg g2 (gg g3 (kk 6 (Zo.sc Zo.z0 (Zo.sc vb0 ee)))))) (Zxo h)
theorem Zxp {x0:Zo} {x1:Bool} {x2:Int} {x3:Int} {r:Zo×Int×Bool} {vb0:Zo} {v4:Bool} (h:Zdr x0 x1 x2 x3 vb0 v4=some r):CS (Zrn x0 x1 x2 x3 r) Tryz.f265 [1,1,0,1] [(1,bl x1),(2,il x2),(3,il x3),(4,.ptr (1,1) 0 0),(8,.ptr (1,2) 0 0),(11,.ptr (1,5) 0 0),(24,bl v4)] ([bx 1 (Zo.enc x0)]++Zo.bk Zo.z0 3++[bx 2 (Zo.rl Zo.z0 3)]++Zo.bk vb0 6++[bx 5 (Zo.rl vb0 6)]):=
 itK h (λg1 h=>rtK h (gg g1 (kk 2 (Zo.so vb0 ee)))) λg1 h=>itK h (λg2 h=>Zj (ffi 1 7) 6 (gg g1 (gg g2 (kk 1 (Zo.sc Zo.z0 (Zo.sc vb0 ee))))) (Z7m h)) λg2 h=>Zj (ffi 1 7) 6 (gg g1 (gg g2 (kk 1 (Zo.sc Zo.z0 (Zo.sc vb0 ee))))) (Z7m h)
theorem Y2b {x0:Zo} {x1:Bool} {x2:Int} {x3:Int} {r:Zo×Int×Bool} (h:Z1q x0 x1 x2 x3=some r):Zu Tryz.prog Mo (Zrn x0 x1 x2 x3 r):=
 Zr Tryz.func265 (bnK h λr2 Z6 h=>bnK h λr3 Y2 h=>have p1 {q p} (k:Scr q p):=(rr (Yid Z6) (rr (Yl4 Y2) k));itK h (λg1 h=>Zj ([((1,1),(1,0)),((1,2),(1,1024)),((1,5),(2,2048))]++Zo.ff 6 2 1024) 7 (p1 (gg g1 (kk 3 (Zo.sc r2 ee)))) (Zxp h)) λg1 h=>itK h (λg2 h=>bnK h λr4 Qh h=>Zj ([((1,1),(1,0)),((1,2),(1,1024)),((1,5),(2,2048))]++Zo.ff 6 2 1024) 7 (p1 (gg g1 (kk 1 (gg g2 (kk 1 (rr (Znr Qh) (kk 4 (Zo.sc r2 ee)))))))) (Zxp h)) λg2 h=>Zj ([((1,1),(1,0)),((1,2),(1,1024)),((1,5),(2,2048))]++Zo.ff 6 2 1024) 7 (p1 (gg g1 (kk 1 (gg g2 (kk 5 (Zo.sc r2 ee)))))) (Zxp h))
abbrev Z6f (x0:List Int) (x1:Int) (x2:Int) (x3:Int) (r:List Int×Bool):Y:=(266,[.tr (x0.map Ze),il x1,il x2,il x3],.tup [.own 3 (r.1.map Ze),bl r.2],[.undef,.undef,.undef,.undef])
theorem Ykk {x0:List Int} {x1:Int} {x2:Int} {x3:Int} {r:List Int×Bool}:∀{m:Nat} {v0:List Int} {v1:Int} {v2:Int},Zol x0 x1 x2 x3 m v0 v1 v2=some r->CS (Z6f x0 x1 x2 x3 r) Tryz.f266 [1,1,1,0,1,0] [(1,il x1),(3,il x3),(10,.sl (1,1) 0 (v0.map Ze).length),(27,il v1),(28,il v2)] [rx 1 3 (v0.map Ze)]:=by
 intro m
 induction m with
 | zero=>intro v0 v1 v2 h;cases h
 | succ m ih=>exactλ{v0} {v1} {v2} h=>itK h (λg1 h=>bnK h λn0 hn0 h=>bnK h λa0 Zz h=>bnK h λy0 Wb h=>Zj [((1,1),(1,1))] 13 (gg g1 (tp (.obl) (ob (nn0 hn0) (xp Ze Zz Wb (tp (.num (y0.map Ze).length 0 0 []) (ob (Qm Ze Wb) ee)))))) (ih h)) λg1 h=>rtK h (gg g1 (kk 1 (oe Ze v0 ee)))
theorem Z4t {x0:List Int} {x1:Int} {x2:Int} {x3:Int} {r:List Int×Bool} {v0:List Int} {v3:Bool} (h:Zo6 x0 x1 x2 x3 v0 v3=some r):CS (Z6f x0 x1 x2 x3 r) Tryz.f266 [1,1,0,1] [(1,il x1),(2,il x2),(3,il x3),(10,.sl (1,1) 0 (v0.map Ze).length),(24,bl v3)] [rx 1 3 (v0.map Ze)]:=
 itK h (λg1 h=>rtK h (gg g1 (kk 1 (oe Ze v0 ee)))) λg1 h=>bnK h λr0 Zn h=>Zj [((1,1),(1,1))] 6 (gg g1 (rr (Zc0 Zn) (ln Ze v0 ee))) (Ykk h)
theorem Yyu {x0:List Int} {x1:Int} {x2:Int} {x3:Int} {r:List Int×Bool} (h:Zx2 x0 x1 x2 x3=some r):Zu Tryz.prog Mo (Z6f x0 x1 x2 x3 r):=
 Zr Tryz.func266 (bnK h λr1 Zw h=>bnK h λr2 Z6 h=>itK h (λg1 h=>Zj [((1,1),(2,1024))] 7 (rr (Wv Zw) (rr (Zup Z6) (gg g1 (kk 4 (ln Ze r1 ee))))) (Z4t h)) λg1 h=>bnK h λr3 Y2 h=>Zj [((1,1),(2,1024))] 7 (rr (Wv Zw) (rr (Zup Z6) (gg g1 (kk 2 (rr (Znr Y2) (kk 2 (ln Ze r1 ee))))))) (Z4t h))
abbrev Yf6 (x0:List Int) (x1:Int) (x2:Int) (r:Int×Bool):Y:=(267,[.tr (x0.map Ze),il x1,il x2],.tup [il r.1,bl r.2],[.undef,.undef,.undef])
theorem Yj9 {x0:List Int} {x1:Int} {x2:Int} {r:Int×Bool}:∀{m:Nat} {v0:Int} {v1:Int} {v2:Int},Zn9 x0 x1 x2 m v0 v1 v2=some r->CS (Yf6 x0 x1 x2 r) Tryz.f267 [1,1,1,0,1,0] [(0,.tr (x0.map Ze)),(1,il x1),(8,il v0),(16,il v1),(17,il v2)] []:=by
 intro m
 induction m with
 | zero=>intro v0 v1 v2 h;cases h
 | succ m ih=>exactλ{v0} {v1} {v2} h=>itK h (λg1 h=>bnK h λa0 Zz h=>bnK h λn0 hn0 h=>Zj [] 13 (gg g1 (xb Ze Zz (tp (.obl) (ob (nn0 hn0) ee)))) (ih h)) λg1 h=>rtK h (gg g1 ee)
theorem Yzm {x0:List Int} {x1:Int} {x2:Int} {r:Int×Bool} (h:Zyx x0 x1 x2=some r):Zu Tryz.prog Mo (Yf6 x0 x1 x2 r):=
 Zr Tryz.func267 (bnK h λr0 Zn h=>itK h (λg1 h=>rtK h (rr (Zup Zn) (gg g1 ee))) λg1 h=>bnK h λr1 Zw h=>Zj [] 13 (rr (Zup Zn) (gg g1 (rr (Zc0 Zw) ee))) (Yj9 h))
abbrev Zpt (x0:Zi) (x1:Bool) (x2:Int) (x3:Int) (x4:Int) (r:Zi×Int×Int):Y:=(258,[.agg (Zi.enc x0),bl x1,il x2,il x3,il x4],.tup [.agg (Zi.ow r.1),il r.2.1,il r.2.2],[.undef,.undef,.undef,.undef,.undef])
theorem Zmj {x0:Zi} {x1:Bool} {x2:Int} {x3:Int} {x4:Int} {r:Zi×Int×Int} {vb0:Zi} {v0:Int} {v1:Bool} (h:Zdn x0 x1 x2 x3 x4 vb0 v0 v1=some r):CS (Zpt x0 x1 x2 x3 x4 r) Tryz.f258 [1,1,1,1,1] [(4,il v0),(5,.ptr (1,1) 0 0),(10,.ptr (1,2) 0 0),(13,.ptr (1,6) 0 0),(14,bl v1)] ([bx 1 (Zi.enc x0)]++Zi.bk Zi.z0 3++[bx 2 (Zi.rl Zi.z0 3)]++Zi.bk vb0 7++[bx 6 (Zi.rl vb0 7)]):=
 itK h (λg1 h=>bnK h λr0 Zn h=>rtK h (gg g1 (rr (Z0f Zn) (kk 3 (Zi.so r0 ee))))) λg1 h=>rtK h (gg g1 (kk 3 (Zi.so vb0 ee)))
theorem Z1r {x0:Zi} {x1:Bool} {x2:Int} {x3:Int} {x4:Int} {r:Zi×Int×Int} {vb0:Zi} {v2:Bool} (h:Zln x0 x1 x2 x3 x4 vb0 v2=some r):CS (Zpt x0 x1 x2 x3 x4 r) Tryz.f258 [1,1,1,1,0,1,0,1,1,1] [(1,bl x1),(2,il x2),(3,il x3),(4,il x4),(5,.ptr (1,1) 0 0),(10,.ptr (1,2) 0 0),(13,.ptr (1,6) 0 0),(14,bl false),(58,bl v2)] ([bx 1 (Zi.enc x0)]++Zi.bk Zi.z0 3++[bx 2 (Zi.rl Zi.z0 3)]++Zi.bk vb0 7++[bx 6 (Zi.rl vb0 7)]):=
 itK h (λg1 h=>itK h (λg2 h=>bnK h λr1 Zw h=>Zj (ffi 1 6++[((1,7),(3,5120)),((1,8),(1,8)),((1,9),(1,9))]) 6 (gg g1 (gg g2 (rr (Yyu Zw) (Zi.sc Zi.z0 (Zi.sc (Zi.mk r1.1 vb0.dev) ee))))) (Zmj h)) λg2 h=>bnK h λr2 Z6 h=>Zj (ffi 1 9) 6 (gg g1 (gg g2 (rr (Yzm Z6) (Zi.sc Zi.z0 (Zi.sc vb0 ee))))) (Zmj h)) λg1 h=>Zj (ffi 1 9) 3 (gg g1 (Zi.sc Zi.z0 (Zi.sc vb0 ee))) (Zmj h)
theorem Z1i {x0:Zi} {x1:Bool} {x2:Int} {x3:Int} {x4:Int} {r:Zi×Int×Int} {vb0:Zi} {v3:Int} {v4:Bool} (h:Zme x0 x1 x2 x3 x4 vb0 v3 v4=some r):CS (Zpt x0 x1 x2 x3 x4 r) Tryz.f258 [1,1,1,1,0,1,0,1] [(1,bl x1),(2,il x2),(3,il x3),(4,il x4),(5,.ptr (1,1) 0 0),(10,.ptr (1,2) 0 0),(13,.ptr (1,6) 0 0),(14,bl false),(15,il v3),(39,bl v4)] ([bx 1 (Zi.enc x0)]++Zi.bk Zi.z0 3++[bx 2 (Zi.rl Zi.z0 3)]++Zi.bk vb0 7++[bx 6 (Zi.rl vb0 7)]):=
 itK h (λg1 h=>bnK h λr3 Y2 h=>Zj (ffi 1 7++[((1,8),(2,6144)),((1,9),(2,6146))]) 3 (gg g1 (rr (Y2b Y2) (Zi.sc Zi.z0 (Zi.sc (Zi.mk vb0.mem r3.1) ee)))) (Zmj h)) λg1 h=>itK h (λg2 h=>Zj (ffi 1 9) 3 (gg g1 (gg g2 (kk 2 (Zi.sc Zi.z0 (Zi.sc vb0 ee))))) (Z1r h)) λg2 h=>Zj (ffi 1 9) 3 (gg g1 (gg g2 (kk 2 (Zi.sc Zi.z0 (Zi.sc vb0 ee))))) (Z1r h)
theorem Zlv {x0:Zi} {x1:Bool} {x2:Int} {x3:Int} {x4:Int} {r:Zi×Int×Int} {vb0:Zi} {v5:Bool} (h:K3 x0 x1 x2 x3 x4 vb0 v5=some r):CS (Zpt x0 x1 x2 x3 x4 r) Tryz.f258 [1,1,0,1] [(1,bl x1),(2,il x2),(3,il x3),(4,il x4),(5,.ptr (1,1) 0 0),(10,.ptr (1,2) 0 0),(13,.ptr (1,6) 0 0),(35,bl v5)] ([bx 1 (Zi.enc x0)]++Zi.bk Zi.z0 3++[bx 2 (Zi.rl Zi.z0 3)]++Zi.bk vb0 7++[bx 6 (Zi.rl vb0 7)]):=
 itK h (λg1 h=>rtK h (gg g1 (kk 3 (Zi.so vb0 ee)))) λg1 h=>bnK h λr4 Qh h=>itK h (λg2 h=>Zj (ffi 1 9) 10 (gg g1 (rr (Z3h Qh) (gg g2 (kk 2 (Zi.sc Zi.z0 (Zi.sc vb0 ee)))))) (Z1i h)) λg2 h=>Zj (ffi 1 9) 10 (gg g1 (rr (Z3h Qh) (gg g2 (kk 2 (Zi.sc Zi.z0 (Zi.sc vb0 ee)))))) (Z1i h)
theorem Yuh {x0:Zi} {x1:Bool} {x2:Int} {x3:Int} {x4:Int} {r:Zi×Int×Int} (h:Zvy x0 x1 x2 x3 x4=some r):Zu Tryz.prog Mo (Zpt x0 x1 x2 x3 x4 r):=
 Zr Tryz.func258 (bnK h λr5 hr5 h=>bnK h λr6 hr6 h=>have p1 {q p} (k:Scr q p):=(rr (Z0f hr5) (rr (Z3l hr6) k));itK h (λg1 h=>Zj ([((1,1),(1,0)),((1,2),(1,1024)),((1,6),(2,2048))]++Zi.ff 7 2 1024) 7 (p1 (gg g1 (kk 8 (Zi.sc r5 ee)))) (Zlv h)) λg1 h=>bnK h λr7 hr7 h=>have p2 {q p} (k:Scr q p):=(p1 (gg g1 (kk 2 (rr (Zhi hr7) (kk 2 k)))));itK h (λg2 h=>Zj ([((1,1),(1,0)),((1,2),(1,1024)),((1,6),(2,2048))]++Zi.ff 7 2 1024) 7 (p2 (gg g2 (kk 3 (Zi.sc r5 ee)))) (Zlv h)) λg2 h=>itK h (λg3 h=>bnK h λr8 hr8 h=>Zj ([((1,1),(1,0)),((1,2),(1,1024)),((1,6),(2,2048))]++Zi.ff 7 2 1024) 7 (p2 (gg g2 (kk 1 (gg g3 (kk 2 (rr (Znr hr8) (kk 4 (Zi.sc r5 ee)))))))) (Zlv h)) λg3 h=>Zj ([((1,1),(1,0)),((1,2),(1,1024)),((1,6),(2,2048))]++Zi.ff 7 2 1024) 7 (p2 (gg g2 (kk 1 (gg g3 (kk 6 (Zi.sc r5 ee)))))) (Zlv h))
abbrev Yy0 (x0:Za) (x1:Zh) (r:Zi×Int×Int):Y:=(230,[.rp true (Za.enc x0) 0,.agg (Zh.enc x1)],.tup [.agg (Zi.ow r.1),il r.2.1,il r.2.2],[.undef,.undef])
theorem Z50 {x0:Za} {x1:Zh} {r:Zi×Int×Int} (h:Zsf x0 x1=some r):Zu Tryz.prog Mo (Yy0 x0 x1 r):=
 Zr Tryz.func230 (bnK h λa0 Zz h=>bnK h λa1 Yv h=>bnK h λr0 Zn h=>bnK h λr1 Zw h=>bnK h λr2 Z6 h=>rtK h (xb Zb.enc Zz (xb Zg.enc Yv (rr (Zhg Zn) (rr (Ykx Zw) (rr (Yuh Z6) (kk 3 (Zi.so r2.1 ee))))))))
abbrev Yhs (x0:Zb) (r:Zb×Bool):Y:=(257,[.agg (Zb.enc x0)],.tup [.agg [.own 104 (r.1.queue.map Zg.enc),il r.1.beat,il r.1.done,il r.1.tries,bl r.1.parted,bl r.1.broken],bl r.2],[.undef])
theorem Z4j {x0:Zb} {r:Zb×Bool} {vb0:Zb} {v0:Bool} (h:Zoh x0 vb0 v0=some r):CS (Yhs x0 r) Tryz.f257 [1,1,0,1] [(2,.ptr (1,1) 0 0),(4,.ptr (1,3) 0 0),(16,bl v0)] [rx 2 104 ([].map Zg.enc),bx 1 [.sl (1,2) 0 ([].map Zg.enc).length,il 0,il 0,il 0,bl false,bl false],rx 4 104 (vb0.queue.map Zg.enc),bx 3 [.sl (1,4) 0 (vb0.queue.map Zg.enc).length,il vb0.beat,il vb0.done,il vb0.tries,bl vb0.parted,bl vb0.broken]]:=
 itK h (λg1 h=>rtK h (gg g1 (kk 1 (oe Zg.enc vb0.queue ee)))) λg1 h=>bnK h λr0 Zn h=>itK h (λg2 h=>bnK h λs0 hs0 h=>rtK h (gg g1 (kk 1 (oe Zg.enc vb0.queue (rr (Zdt Zn) (gg g2 (tp (.num (1:Int).toNat ((vb0.queue.length:Int):Int).toNat (((vb0.queue.length:Int):Int).toNat - (1:Int).toNat) []) (kk 1 (tp (.mk 0 (s0.map Zg.enc)) (oe Zg.enc vb0.queue (ob (sln hs0).1 (ob (Yji Zg.enc vb0.queue) (ob (sll Zg.enc hs0) (ob (alr 6 Zg.enc_len vb0.queue) (ob (Eq.refl (((vb0.queue.length:Int):Int).toNat - (1:Int).toNat)) (ob (sla Zg.enc hs0) (ob (slr Zg.enc hs0) ee))))))))))))))))) λg2 h=>rtK h (gg g1 (kk 1 (oe Zg.enc vb0.queue (rr (Zdt Zn) (gg g2 (kk 1 (oe Zg.enc vb0.queue ee)))))))
theorem Yw7 {x0:Zb} {r:Zb×Bool} (h:Zyh x0=some r):Zu Tryz.prog Mo (Yhs x0 r):=
 Zr Tryz.func257 (bnK h λr1 Zw h=>bnK h λr2 Z6 h=>itK h (λg1 h=>Zj [((1,1),(1,1024)),((1,3),(2,2048)),((1,4),(2,1024))] 7 (rr (Zgo Zw) (rr (Qs Z6) (gg g1 (kk 5 (ln Zg.enc r1.queue ee))))) (Z4j h)) λg1 h=>Zj [((1,1),(1,1024)),((1,3),(2,2048)),((1,4),(2,1024))] 7 (rr (Zgo Zw) (rr (Qs Z6) (gg g1 (kk 5 (ln Zg.enc r1.queue ee))))) (Z4j h))
abbrev Yn8 (x0:Za) (r:Za):Y:=(173,[.agg (Za.ow x0)],.tup [],[.agg (Za.ow r)])
theorem Z96 {x0:Za} {r:Za} (h:Zmr x0=some r):Zu Tryz.prog Mo (Yn8 x0 r):=
 Zr Tryz.func173 (rtK h (kk 8 (Za.so x0 ee)))
abbrev Zjz (x0:Za) (x1:Zh) (r:Za):Y:=(228,[.agg (Za.ow x0),.agg (Zh.enc x1)],.tup [],[.agg (Za.ow r),.undef])
theorem Zs9 {x0:Za} {x1:Zh} {r:Za} {vb0:Za} {vb1:Zb} (h:Zd1 x0 x1 vb0 vb1=some r):CS (Zjz x0 x1 r) Tryz.f228 [1,1,1,1,1,1,1,1] [(0,.ptr (0,63) 0 0),(3,.ptr (1,9) 0 0),(10,.ptr (1,10) 0 0)] (Za.bk vb0 1++[((0,63),⟨true,true,true,0,[(Za.rl vb0 1)]⟩),bx 9 (Zh.enc x1),rx 11 104 (vb1.queue.map Zg.enc),bx 10 [.sl (1,11) 0 (vb1.queue.map Zg.enc).length,il vb1.beat,il vb1.done,il vb1.tries,bl vb1.parted,bl vb1.broken]]):=
 bnK h λa0 Zz h=>bnK h λy0 Wb h=>rtK h (xq Zb.enc Zz y0 (kk 9 (oe Zg.enc vb1.queue (ob (Zu5 Zb.enc Wb) (oe Zd.enc vb0.conf.masters (ob (Qm Zb.enc Wb) (oe Zc.enc vb0.buckets (oe Ze vb0.splits (Zi.so vb0.model (oe Zm.enc vb0.log ee))))))))))
theorem Zr5 {x0:Za} {x1:Zh} {r:Za} {vb0:Za} {vb1:Zb} {v0:Bool} (h:Zd4 x0 x1 vb0 vb1 v0=some r):CS (Zjz x0 x1 r) Tryz.f228 [1,1,1,1,1,1,1,0,1] [(0,.ptr (0,63) 0 0),(3,.ptr (1,9) 0 0),(10,.ptr (1,10) 0 0),(87,bl v0)] (Za.bk vb0 1++[((0,63),⟨true,true,true,0,[(Za.rl vb0 1)]⟩),bx 9 (Zh.enc x1),rx 11 104 (vb1.queue.map Zg.enc),bx 10 [.sl (1,11) 0 (vb1.queue.map Zg.enc).length,il vb1.beat,il vb1.done,il vb1.tries,bl vb1.parted,bl vb1.broken]]):=
 itK h (λg1 h=>bnK h λr0 Zn h=>Zj (Za.ff 1 2 1536++ffi 9 3) 2 (gg g1 (kk 8 (Za.so vb0 (rr (Z96 Zn) (Za.sc r0 (ln Zg.enc vb1.queue ee)))))) (Zs9 h)) λg1 h=>Zj (ffi 1 11) 2 (gg g1 (Za.sc vb0 (ln Zg.enc vb1.queue ee))) (Zs9 h)
theorem Ztd {x0:Za} {x1:Zh} {r:Za} {vb0:Za} {vb1:Zb} {vb2:Zm} (h:Zbf x0 x1 vb0 vb1 vb2=some r):CS (Zjz x0 x1 r) Tryz.f228 [1,1,1,1,1] [(0,.ptr (0,63) 0 0),(3,.ptr (1,9) 0 0),(4,.ptr (1,10) 0 0),(6,.ptr (1,11) 0 0)] (Za.bk vb0 1++[((0,63),⟨true,true,true,0,[(Za.rl vb0 1)]⟩),bx 9 (Zh.enc x1),bx 10 (Zb.enc vb1),bx 11 (Zm.enc vb2)]):=
 bnK h λz0 W3 h=>bnK h λr1 Zw h=>have p1 {q p} (k:Scr q p):=(ta Zm.enc [vb2] z0 (kk 1 (oa 7 Zm.enc_len vb2 (ox Zm.enc W3 (oe Zm.enc z0 (rr (Yw7 Zw) k))))));itK h (λg1 h=>Zj (ffi 1 7++[((1,8),(2,7168)),((1,9),(1,9)),((1,10),(3,5120)),((1,11),(3,1024))]) 7 (p1 (gg g1 (kk 2 (lr Zg.enc r1.1.queue (kk 3 (lr Zg.enc vb1.queue (kk 2 (Za.sc {vb0 with log:=z0} (ln Zg.enc r1.1.queue ee))))))))) (Zr5 h)) λg1 h=>Zj (ffi 1 7++[((1,8),(2,7168)),((1,9),(1,9)),((1,10),(3,5120)),((1,11),(3,1024))]) 7 (p1 (gg g1 (kk 7 (Za.sc {vb0 with log:=z0} (ln Zg.enc r1.1.queue ee))))) (Zr5 h)
theorem Yew {x0:Za} {x1:Zh} {r:Za} (h:Zjf x0 x1=some r):Zu Tryz.prog Mo (Zjz x0 x1 r):=
 Zr Tryz.func228 (bnK h λa1 Yv h=>bnK h λa2 Kv h=>bnK h λr2 Z6 h=>itK h (λg1 h=>bnK h λr3 Y2 h=>Zj [((1,1),(0,0)),((1,2),(0,7)),((1,3),(0,10)),((1,4),(0,11)),((1,5),(6,2048)),((1,6),(6,2049)),((1,7),(6,2051)),((1,8),(0,36)),((1,9),(1,0)),((1,10),(2,8192)),((1,11),(4,17408))] 17 (xd Zb.enc Yv (xb Zg.enc Kv (rr (Zhg Z6) (gg g1 (kk 8 (Za.so x0 (rr (Z50 Y2) (Za.sc {x0 with model:=r3.1} ee)))))))) (Ztd h)) λg1 h=>Zj (Za.ff 1 0 0++[((1,9),(1,0)),((1,10),(2,8192)),((1,11),(4,17408))]) 13 (xd Zb.enc Yv (xb Zg.enc Kv (rr (Zhg Z6) (gg g1 (Za.sc x0 ee))))) (Ztd h))
abbrev Zuq (x0:Za) (x1:Zf) (x2:Zt) (r:Bool×Za×Zt):Y:=(172,[.agg (Za.ow x0),.agg (Zf.enc x1),.agg [il x2.cycle,il x2.addr,il x2.kind,il x2.who,il x2.data_,il x2.from_,bl x2.ready,il x2.resp,il x2.got]],bl r.1,[.agg (Za.ow r.2.1),.undef,.agg [il r.2.2.cycle,il r.2.2.addr,il r.2.2.kind,il r.2.2.who,il r.2.2.data_,il r.2.2.from_,bl r.2.2.ready,il r.2.2.resp,il r.2.2.got]])
theorem Zwq {x0:Za} {x1:Zf} {x2:Zt} {r:Bool×Za×Zt} {vb0:Za} (h:Zgn x0 x1 x2 vb0=some r):CS (Zuq x0 x1 x2 r) Tryz.f172 [1,1,1,1,0,1,0,1,1] [] (Za.bk vb0 1++[((0,63),⟨true,true,true,0,[(Za.rl vb0 1)]⟩),((0,191),⟨true,true,true,0,[(Zt.enc {x2 with resp:=x0.data_.resp})]⟩)]):=
 rtK h (kk 8 (Za.so vb0 ee))
theorem Zwl {x0:Za} {x1:Zf} {x2:Zt} {r:Bool×Za×Zt} {v0:Bool} (h:Zav x0 x1 x2 v0=some r):CS (Zuq x0 x1 x2 r) Tryz.f172 [1,1,1,1,0,1] [(0,.ptr (0,63) 0 0),(4,.ptr (1,9) 0 0),(7,.ptr (1,10) 0 0),(41,bl v0)] (Za.bk x0 1++[((0,63),⟨true,true,true,0,[(Za.rl x0 1)]⟩),((0,191),⟨true,true,true,0,[(Zt.enc {x2 with resp:=x0.data_.resp})]⟩),bx 9 (Zf.enc x1),bx 10 (Zh.enc x0.data_)]):=
 itK h (λg1 h=>itK h (λg2 h=>bnK h λr0 Zn h=>Zj (Za.ff 1 4 5632) 10 (gg g1 (gg g2 (kk 8 (Za.so x0 (rr (Zu4 Zn) (Za.sc {r0 with addr:=Zh.z0} ee)))))) (Zwq h)) λg2 h=>Zj (ffi 1 8) 8 (gg g1 (gg g2 (Za.sc {x0 with data_:={x0.data_ with second:=true}} ee))) (Zwq h)) λg1 h=>itK h (λg2 h=>bnK h λa0 Zz h=>bnK h λy0 Wb h=>bnK h λr1 Zw h=>rtK h (gg g1 (gg g2 (xd Zb.enc Zz (xp Zb.enc Zz Wb (kk 8 (oe Zd.enc x0.conf.masters (ob (Qm Zb.enc Wb) (oe Zc.enc x0.buckets (oe Ze x0.splits (Zi.so x0.model (oe Zm.enc x0.log (rr (Zu4 Zw) (kk 8 (Za.so r1 ee))))))))))))))) λg2 h=>itK h (λg3 h=>bnK h λa1 Yv h=>bnK h λy1 hy1 h=>bnK h λr2 Z6 h=>bnK h λa2 Kv h=>bnK h λy2 hy2 h=>bnK h λr3 Y2 h=>rtK h (gg g1 (gg g2 (gg g3 (xp Zb.enc Yv hy1 (kk 1 (oe Zd.enc x0.conf.masters (rr (Yuv Z6) (xp Ze Kv hy2 (kk 8 (oe Zd.enc x0.conf.masters (ob (Qm Zb.enc hy1) (oe Zc.enc x0.buckets (ob (Qm Ze hy2) (Zi.so x0.model (oe Zm.enc x0.log (rr (Zu4 Y2) (kk 8 (Za.so r3 ee))))))))))))))))))) λg3 h=>bnK h λr4 Qh h=>rtK h (gg g1 (gg g2 (gg g3 (kk 8 (Za.so x0 (rr (Yew Qh) (kk 8 (Za.so r4 ee))))))))
theorem Ykd {x0:Za} {x1:Zf} {x2:Zt} {r:Bool×Za×Zt} (h:Zo4 x0 x1 x2=some r):Zu Tryz.prog Mo (Zuq x0 x1 x2 r):=
 Zr Tryz.func172 (itK h (λg1 h=>rtK h (gg g1 (kk 8 (Za.so x0 ee)))) λg1 h=>itK h (λg2 h=>rtK h (gg g1 (gg g2 (kk 8 (Za.so x0 ee))))) λg2 h=>itK h (λg3 h=>Zj (Za.ff 1 0 0++[((1,9),(1,0)),((1,10),(2,4096))]) 19 (gg g1 (gg g2 (gg g3 (kk 3 (Za.sc x0 ee))))) (Zwl h)) λg3 h=>Zj (Za.ff 1 0 0++[((1,9),(1,0)),((1,10),(2,4096))]) 19 (gg g1 (gg g2 (gg g3 (kk 3 (Za.sc x0 ee))))) (Zwl h))
abbrev Yy6 (x0:Zk) (x1:Zf) (x2:Int) (r:Int):Y:=(231,[.agg (Zk.enc x0),.agg (Zf.enc x1),il x2],il r,[.undef,.undef,.undef])
theorem Ygx {x0:Zk} {x1:Zf} {x2:Int} {r:Int} (h:Zyu x0 x1 x2=some r):Zu Tryz.prog Mo (Yy6 x0 x1 x2 r):=
 Zr Tryz.func231 (bnK h λr0 Zn h=>rtK h (rr (Zp2 Zn) ee))
abbrev Yzd (x0:Zf) (x1:Int) (r:Int):Y:=(232,[.agg (Zf.enc x0),il x1],il r,[.undef,.undef])
theorem Z5o {x0:Zf} {x1:Int} {r:Int} (h:Zys x0 x1=some r):Zu Tryz.prog Mo (Yzd x0 x1 r):=
 Zr Tryz.func232 (bnK h λr0 Zn h=>itK h (λg1 h=>rtK h (rr (Zp2 Zn) (gg g1 (kk 3 ee)))) λg1 h=>itK h (λg2 h=>rtK h (rr (Zp2 Zn) (gg g1 (kk 2 (gg g2 ee))))) λg2 h=>rtK h (rr (Zp2 Zn) (gg g1 (kk 2 (gg g2 ee)))))
abbrev Zog (x0:Za) (x1:Zf) (x2:Zh) (r:Int×Int):Y:=(174,[.rp true (Za.enc x0) 0,.agg (Zf.enc x1),.agg (Zh.enc x2)],.tup [il r.1,il r.2],[.undef,.undef,.undef])
theorem Zm6 {x0:Za} {x1:Zf} {x2:Zh} {r:Int×Int} {vb0:Zb} {v0:Int} {v1:Int} {v2:Int} {v3:Int} {v4:Bool} (h:Kd x0 x1 x2 vb0 v0 v1 v2 v3 v4=some r):CS (Zog x0 x1 x2 r) Tryz.f174 [1,1,1,1,1,1,1,0,1,0,1] [(0,.rp true (Za.enc x0) 0),(5,.ptr (1,1) 0 0),(8,.ptr (1,2) 0 0),(9,il v0),(12,il v1),(13,il v2),(14,il v3),(61,bl v4)] [bx 1 (Zh.enc x2),bx 2 (Zb.enc vb0)]:=
 itK h (λg1 h=>rtK h (gg g1 ee)) λg1 h=>itK h (λg2 h=>itK h (λg3 h=>have p1 {q p} (k:Scr q p):=(gg g1 (gg g2 (kk 2 (gg g3 (kk 3 k)))));itK h (λg4 h=>itK h (λg5 h=>rtK h (p1 (gg g4 (kk 7 (gg g5 ee))))) λg5 h=>rtK h (p1 (gg g4 (kk 7 (gg g5 ee))))) λg4 h=>rtK h (p1 (gg g4 (kk 8 ee)))) λg3 h=>rtK h (gg g1 (gg g2 (kk 2 (gg g3 (kk 12 ee)))))) λg2 h=>rtK h (gg g1 (gg g2 (kk 15 ee)))
theorem Zwx {x0:Za} {x1:Zf} {x2:Zh} {r:Int×Int} {vb1:Zb} {v0:Int} {v1:Int} {v2:Int} (h:Zde x0 x1 x2 vb1 v0 v1 v2=some r):CS (Zog x0 x1 x2 r) Tryz.f174 [1,1,1,1,1,1,1] [(0,.rp true (Za.enc x0) 0),(4,.ptr (1,1) 0 0),(5,.ptr (1,2) 0 0),(8,.ptr (1,3) 0 0),(9,il v0),(12,il v1),(13,il v2)] [bx 1 (Zf.enc x1),bx 2 (Zh.enc x2),bx 3 (Zb.enc vb1)]:=
 bnK h λr0 Zn h=>itK h (λg1 h=>itK h (λg2 h=>Zj [((1,1),(1,2)),((1,2),(1,3))] 6 (rr (Z5o Zn) (gg g1 (kk 2 (gg g2 (kk 8 ee))))) (Zm6 h)) λg2 h=>Zj [((1,1),(1,2)),((1,2),(1,3))] 6 (rr (Z5o Zn) (gg g1 (kk 2 (gg g2 (kk 8 ee))))) (Zm6 h)) λg1 h=>Zj [((1,1),(1,2)),((1,2),(1,3))] 6 (rr (Z5o Zn) (gg g1 (kk 11 ee))) (Zm6 h)
theorem Zwm {x0:Za} {x1:Zf} {x2:Zh} {r:Int×Int} {vb1:Zb} {v0:Int} {v5:Bool} (h:Jf x0 x1 x2 vb1 v0 v5=some r):CS (Zog x0 x1 x2 r) Tryz.f174 [1,1,1,0,1] [(0,.rp true (Za.enc x0) 0),(4,.ptr (1,1) 0 0),(5,.ptr (1,2) 0 0),(8,.ptr (1,3) 0 0),(9,il v0),(33,bl v5)] [bx 1 (Zf.enc x1),bx 2 (Zh.enc x2),bx 3 (Zb.enc vb1)]:=
 itK h (λg1 h=>rtK h (gg g1 ee)) λg1 h=>bnK h λr1 Zw h=>bnK h λr2 Z6 h=>itK h (λg2 h=>Zj (ffi 1 3) 11 (gg g1 (rr (Z50 Zw) (rr (Ygx Z6) (gg g2 ee)))) (Zwx h)) λg2 h=>Zj (ffi 1 3) 11 (gg g1 (rr (Z50 Zw) (rr (Ygx Z6) (gg g2 ee)))) (Zwx h)
theorem Yjq {x0:Za} {x1:Zf} {x2:Zh} {r:Int×Int} (h:Zn3 x0 x1 x2=some r):Zu Tryz.prog Mo (Zog x0 x1 x2 r):=
 Zr Tryz.func174 (bnK h λa0 Zz h=>bnK h λr3 Y2 h=>bnK h λr4 Qh h=>have p1 {q p} (k:Scr q p):=(xb Zb.enc Zz (rr (Zhg Y2) (rr (Z3h Qh) k)));itK h (λg1 h=>Zj [((1,1),(1,0)),((1,2),(1,1024)),((1,3),(2,8192))] 9 (p1 (gg g1 (kk 2 ee))) (Zwm h)) λg1 h=>Zj [((1,1),(1,0)),((1,2),(1,1024)),((1,3),(2,8192))] 9 (p1 (gg g1 (kk 2 ee))) (Zwm h))
abbrev Yow (x0:Zb) (r:Bool):Y:=(260,[.agg (Zb.enc x0)],bl r,[.undef])
theorem Zzj {x0:Zb} {r:Bool} (h:Znq x0=some r):Zu Tryz.prog Mo (Yow x0 r):=
 Zr Tryz.func260 (bnK h λr0 Zn h=>itK h (λg1 h=>bnK h λr1 Zw h=>rtK h (rr (Qs Zn) (gg g1 (kk 2 (rr (Zdt Zw) (kk 2 ee)))))) λg1 h=>rtK h (rr (Qs Zn) (gg g1 (kk 4 ee))))
abbrev Z4u (x0:Zc) (x1:Zd) (r:Zc×Bool):Y:=(261,[.agg (Zc.enc x0),.agg (Zd.enc x1)],.tup [.agg (Zc.enc r.1),bl r.2],[.undef,.undef])
theorem Zw3 {x0:Zc} {x1:Zd} {r:Zc×Bool} {v0:Bool} (h:Zgk x0 x1 v0=some r):CS (Z4u x0 x1 r) Tryz.f261 [1,0,1] [(2,.ptr (1,1) 0 0),(4,.ptr (1,2) 0 0),(14,bl v0)] [bx 1 (Zc.enc x0),bx 2 (Zc.enc Zc.z0)]:=
 itK h (λg1 h=>rtK h (gg g1 ee)) λg1 h=>rtK h (gg g1 ee)
theorem Yjj {x0:Zc} {x1:Zd} {r:Zc×Bool} (h:Zou x0 x1=some r):Zu Tryz.prog Mo (Z4u x0 x1 r):=
 Zr Tryz.func261 (bnK h λr0 Zn h=>itK h (λg1 h=>Zj [((1,1),(1,0)),((1,2),(1,2048))] 5 (rr (Zgg Zn) (gg g1 (kk 3 ee))) (Zw3 h)) λg1 h=>Zj [((1,1),(1,0)),((1,2),(1,2048))] 5 (rr (Zgg Zn) (gg g1 (kk 3 ee))) (Zw3 h))
abbrev Zve (x0:Z2) (x1:Zk) (x2:List Bool) (r:Z2×Int):Y:=(262,[.agg (Z2.enc x0),.agg (Zk.enc x1),.tr (x2.map Z9)],.tup [.agg (Z2.enc r.1),il r.2],[.undef,.undef,.undef])
theorem Yhg {x0:Z2} {x1:Zk} {x2:List Bool} {r:Z2×Int}:∀{m:Nat} {v0:Int},Zlt x0 x1 x2 m v0=some r->CS (Zve x0 x1 x2 r) Tryz.f262 [1,1,1,1,0,1,0] [(2,.tr (x2.map Z9)),(3,.ptr (1,1) 0 0),(4,.ptr (1,2) 0 0),(6,.ptr (1,3) 0 0),(8,il (x1.masters.length:Int)),(9,il v0)] [bx 1 (Z2.enc x0),bx 2 (Zk.enc x1),bx 3 (Z2.enc Z2.z0)]:=by
 intro m
 induction m with
 | zero=>intro v0 h;cases h
 | succ m ih=>exactλ{v0} h=>itK h (λg1 h=>bnK h λn0 hn0 h=>bnK h λa0 Zz h=>itK h (λg2 h=>bnK h λr0 Zn h=>rtK h (gg g1 (tp (.obl) (ob (nz0 hn0) (xb Z9 Zz (gg g2 (rr (Z6a Zn) ee))))))) λg2 h=>Zj (ffi 1 3) 16 (gg g1 (tp (.obl) (ob (nz0 hn0) (xb Z9 Zz (gg g2 ee))))) (ih h)) λg1 h=>rtK h (gg g1 ee)
theorem Z12 {x0:Z2} {x1:Zk} {x2:List Bool} {r:Z2×Int} {v1:Bool} (h:Zlj x0 x1 x2 v1=some r):CS (Zve x0 x1 x2 r) Tryz.f262 [1,1,1,0,1] [(2,.tr (x2.map Z9)),(3,.ptr (1,1) 0 0),(4,.ptr (1,2) 0 0),(6,.ptr (1,3) 0 0),(8,il (x1.masters.length:Int)),(34,bl v1)] [bx 1 (Z2.enc x0),bx 2 (Zk.enc x1),bx 3 (Z2.enc Z2.z0)]:=
 itK h (λg1 h=>rtK h (gg g1 ee)) λg1 h=>Zj (ffi 1 3) 6 (gg g1 ee) (Yhg h)
theorem Z2k {x0:Z2} {x1:Zk} {x2:List Bool} {r:Z2×Int} {v2:Bool} (h:Zlx x0 x1 x2 v2=some r):CS (Zve x0 x1 x2 r) Tryz.f262 [1,1,0,1] [(2,.tr (x2.map Z9)),(3,.ptr (1,1) 0 0),(4,.ptr (1,2) 0 0),(6,.ptr (1,3) 0 0),(8,il (x1.masters.length:Int)),(23,bl v2)] [bx 1 (Z2.enc x0),bx 2 (Zk.enc x1),bx 3 (Z2.enc Z2.z0)]:=
 itK h (λg1 h=>rtK h (gg g1 ee)) λg1 h=>itK h (λg2 h=>bnK h λa1 Yv h=>Zj (ffi 1 3) 5 (gg g1 (gg g2 (kk 3 (xb Z9 Yv (kk 2 ee))))) (Z12 h)) λg2 h=>Zj (ffi 1 3) 5 (gg g1 (gg g2 (kk 5 ee))) (Z12 h)
theorem Ytl {x0:Z2} {x1:Zk} {x2:List Bool} {r:Z2×Int} (h:Zvb x0 x1 x2=some r):Zu Tryz.prog Mo (Zve x0 x1 x2 r):=
 Zr Tryz.func262 (bnK h λr1 Zw h=>itK h (λg1 h=>Zj [((1,1),(1,0)),((1,2),(1,1024)),((1,3),(1,2048))] 7 (lr Zd.enc x1.masters (rr (Zwp Zw) (gg g1 (kk 4 ee)))) (Z2k h)) λg1 h=>Zj [((1,1),(1,0)),((1,2),(1,1024)),((1,3),(1,2048))] 7 (lr Zd.enc x1.masters (rr (Zwp Zw) (gg g1 (kk 1 (lr Z9 x2 (kk 3 ee)))))) (Z2k h))
abbrev Zsb (x0:Za) (r:Int×Int×Za):Y:=(233,[.agg (Za.ow x0)],.tup [il r.1,il r.2.1],[.agg (Za.ow r.2.2)])
theorem Yfe {x0:Za} {r:Int×Int×Za}:∀{m:Nat} {v0:List Bool} {v1:Int} {v2:Int},Zez x0 m v0 v1 v2=some r->CS (Zsb x0 r) Tryz.f233 [1,1,1,1,0,1,0] [(0,.ptr (0,63) 0 0),(4,.sl (1,9) 0 (v0.map Z9).length),(73,.sl (1,9) 0 (v0.map Z9).length),(74,il v1),(75,il v2)] (Za.bk x0 1++[((0,63),⟨true,true,true,0,[(Za.rl x0 1)]⟩),rx 9 4 (v0.map Z9)]):=by
 intro m
 induction m with
 | zero=>intro v0 v1 v2 h;cases h
 | succ m ih=>exactλ{v0} {v1} {v2} h=>itK h (λg1 h=>bnK h λa0 Zz h=>itK h (λg2 h=>Zj (ffi 1 9) 18 (gg g1 (xd Z9 Zz (gg g2 (ln Z9 v0 (ln Z9 v0 (Za.sc x0 ee)))))) (ih h)) λg2 h=>bnK h λa1 Yv h=>bnK h λa2 Kv h=>bnK h λr0 Zn h=>have p1 {q p} (k:Scr q p):=(gg g1 (xd Z9 Zz (gg g2 (xd Zc.enc Yv (xd Zd.enc Kv (rr (Yjj Zn) k))))));itK h (λg3 h=>bnK h λy0 Wb h=>rtK h (p1 (gg g3 (xp Zc.enc Yv Wb (kk 8 (oe Zd.enc x0.conf.masters (oe Zb.enc x0.m (ob (Qm Zc.enc Wb) (oe Ze x0.splits (Zi.so x0.model (oe Zm.enc x0.log ee))))))))))) λg3 h=>Zj (ffi 1 9) 23 (p1 (gg g3 (ln Z9 v0 (ln Z9 v0 (Za.sc x0 ee))))) (ih h)) λg1 h=>itK h (λg2 h=>rtK h (gg g1 (gg g2 (kk 8 (Za.so x0 ee))))) λg2 h=>bnK h λr1 Zw h=>rtK h (gg g1 (gg g2 (kk 2 (oe Zd.enc x0.conf.masters (oe Z9 v0 (rr (Ytl Zw) (kk 8 (Za.so x0 ee))))))))
theorem Zzc {x0:Za} {r:Int×Int×Za} {v0:List Bool} {v3:Bool} (h:Zi8 x0 v0 v3=some r):CS (Zsb x0 r) Tryz.f233 [1,1,1,0,1] [(0,.ptr (0,63) 0 0),(4,.sl (1,9) 0 (v0.map Z9).length),(68,bl v3)] (Za.bk x0 1++[((0,63),⟨true,true,true,0,[(Za.rl x0 1)]⟩),rx 9 4 (v0.map Z9)]):=
 itK h (λg1 h=>rtK h (gg g1 (kk 8 (Za.so x0 ee)))) λg1 h=>Zj (ffi 1 9) 6 (gg g1 (lr Z9 v0 (ln Z9 v0 (ln Z9 v0 (Za.sc x0 ee))))) (Yfe h)
theorem Yej {x0:Za} {r:Int×Int×Za}:∀{m:Nat} {v0:List Bool} {v4:Int},Zjh x0 m v0 v4=some r->CS (Zsb x0 r) Tryz.f233 [1,1,0,1,0] [(0,.ptr (0,63) 0 0),(4,.sl (1,9) 0 (v0.map Z9).length),(17,.sl (1,2) 0 (x0.m.map Zb.enc).length),(18,il (x0.m.length:Int)),(19,il v4)] (Za.bk x0 1++[((0,63),⟨true,true,true,0,[(Za.rl x0 1)]⟩),rx 9 4 (v0.map Z9)]):=by
 intro m
 induction m with
 | zero=>intro v0 v4 h;cases h
 | succ m ih=>exactλ{v0} {v4} h=>itK h (λg1 h=>bnK h λa3 ha3 h=>bnK h λr2 Z6 h=>have p1 {q p} (k:Scr q p):=(gg g1 (xd Zb.enc ha3 (rr (Zzj Z6) k)));itK h (λg2 h=>bnK h λa4 ha4 h=>have p2 {q p} (k:Scr q p):=(p1 (gg g2 (kk 5 (tp (.row (v4:Int).toNat (Ze a4)) (kk 1 (tp (.cell (Ze a4)) (kk 2 k)))))));itK h (λg3 h=>itK h (λg4 h=>bnK h λz0 W3 h=>Zj (ffi 1 8++[((1,9),(4,29696))]) 13 (p2 (tp (.t true) (kk 5 (tp (.t true) (kk 8 (ta Z9 [true] z0 (kk 1 (tp (.num (z0.map Z9).length 0 0 []) (tp (.num (x0.m.map Zb.enc).length 0 0 []) (ob (ixn ha4) (ob (ixl Ze ha4) (ob (ixr Ze ha4) (ob (ixr Ze ha4) (ob g3 (ob g4 (oa 1 Znd true (ox Z9 W3 (oe Z9 z0 (oe Z9 z0 (oe Zb.enc x0.m (Za.sc x0 ee))))))))))))))))))))) (ih h)) λg4 h=>bnK h λz0 W3 h=>Zj (ffi 1 8++[((1,9),(4,29696))]) 13 (p2 (tp (.t true) (kk 5 (tp (.t false) (kk 8 (ta Z9 [decide (x0.holder=v4)] z0 (kk 1 (tp (.num (z0.map Z9).length 0 0 []) (tp (.num (x0.m.map Zb.enc).length 0 0 []) (ob (ixn ha4) (ob (ixl Ze ha4) (ob (ixr Ze ha4) (ob (ixr Ze ha4) (ob g3 (ob g4 (oa 1 Znd (decide (x0.holder=v4)) (ox Z9 W3 (oe Z9 z0 (oe Z9 z0 (oe Zb.enc x0.m (Za.sc x0 ee))))))))))))))))))))) (ih h)) λg3 h=>bnK h λz0 W3 h=>Zj (ffi 1 8++[((1,9),(4,29696))]) 13 (p2 (tp (.t false) (kk 7 (ta Z9 [false] z0 (kk 1 (tp (.num (z0.map Z9).length 0 0 []) (tp (.num (x0.m.map Zb.enc).length 0 0 []) (ob (ixn ha4) (ob (ixl Ze ha4) (ob (ixr Ze ha4) (ob (ixr Ze ha4) (ob g3 (oa 1 Znd false (ox Z9 W3 (oe Z9 z0 (oe Z9 z0 (oe Zb.enc x0.m (Za.sc x0 ee)))))))))))))))))) (ih h)) λg2 h=>bnK h λz0 W3 h=>Zj (ffi 1 8++[((1,9),(4,29696))]) 13 (p1 (gg g2 (kk 16 (ta Z9 [false] z0 (kk 1 (oa 1 Znd false (ox Z9 W3 (ln Z9 z0 (oe Z9 z0 (ln Zb.enc x0.m (Za.sc x0 ee))))))))))) (ih h)) λg1 h=>itK h (λg2 h=>bnK h λa5 ha5 h=>Zj (ffi 1 9) 12 (gg g1 (gg g2 (kk 5 (tp (.row (x0.holder:Int).toNat (Z9 a5)) (kk 1 (tp (.cell (Z9 a5)) (kk 1 (tp (.num (v0.map Z9).length 0 0 []) (ob (ixn ha5) (ob (ixl Z9 ha5) (ob (ixr Z9 ha5) (ob (ixr Z9 ha5) (oe Z9 v0 (Za.sc x0 ee)))))))))))))) (Zzc h)) λg2 h=>Zj (ffi 1 9) 12 (gg g1 (gg g2 (kk 7 (ln Z9 v0 (Za.sc x0 ee))))) (Zzc h)
theorem Ypb {x0:Za} {r:Int×Int×Za} (h:Zsm x0=some r):Zu Tryz.prog Mo (Zsb x0 r):=
 Zr Tryz.func233 (Zj (Za.ff 1 0 0++[((1,9),(2,0))]) 8 (lr Zb.enc x0.m (tp (.num ([].map Z9).length 0 0 []) (ob (show 0=([].map Z9).length from rfl) (ln Zb.enc x0.m (Za.sc x0 ee))))) (Yej h))
abbrev Z8c (x0:Zb) (r:Zb×Bool):Y:=(234,[.agg (Zb.enc x0)],.tup [.agg [.own 104 (r.1.queue.map Zg.enc),il r.1.beat,il r.1.done,il r.1.tries,bl r.1.parted,bl r.1.broken],bl r.2],[.undef])
theorem Z02 {x0:Zb} {r:Zb×Bool} {vb0:Zb} {v0:Bool} (h:Zj0 x0 vb0 v0=some r):CS (Z8c x0 r) Tryz.f234 [1,1,0,1] [(2,.ptr (1,1) 0 0),(4,.ptr (1,3) 0 0),(17,bl v0)] [rx 2 104 ([].map Zg.enc),bx 1 [.sl (1,2) 0 ([].map Zg.enc).length,il 0,il 0,il 0,bl false,bl false],rx 4 104 (vb0.queue.map Zg.enc),bx 3 [.sl (1,4) 0 (vb0.queue.map Zg.enc).length,il vb0.beat,il vb0.done,il vb0.tries,bl vb0.parted,bl vb0.broken]]:=
 itK h (λg1 h=>rtK h (gg g1 (kk 1 (oe Zg.enc vb0.queue ee)))) λg1 h=>rtK h (gg g1 (kk 1 (oe Zg.enc vb0.queue ee)))
theorem Yqz {x0:Zb} {r:Zb×Bool} (h:Zr6 x0=some r):Zu Tryz.prog Mo (Z8c x0 r):=
 Zr Tryz.func234 (bnK h λr0 Zn h=>bnK h λr1 Zw h=>itK h (λg1 h=>Zj [((1,1),(1,1024)),((1,3),(2,2048)),((1,4),(2,1024))] 7 (rr (Zgo Zn) (rr (Zzj Zw) (gg g1 (kk 6 (ln Zg.enc r0.queue ee))))) (Z02 h)) λg1 h=>Zj [((1,1),(1,1024)),((1,3),(2,2048)),((1,4),(2,1024))] 7 (rr (Zgo Zn) (rr (Zzj Zw) (gg g1 (kk 6 (ln Zg.enc r0.queue ee))))) (Z02 h))
abbrev Zqu (x0:Za) (r:Int×Za):Y:=(175,[.agg (Za.ow x0)],il r.1,[.agg (Za.ow r.2)])
theorem Zxy {x0:Za} {r:Int×Za} {vb0:Za} {vb1:Zb} {v0:Int} (h:Zhq x0 vb0 vb1 v0=some r):CS (Zqu x0 r) Tryz.f175 [1,1,1,1,1,1] [(0,.ptr (0,63) 0 0),(3,il v0),(5,.ptr (1,9) 0 0)] (Za.bk vb0 1++[((0,63),⟨true,true,true,0,[(Za.rl vb0 1)]⟩),bx 9 (Zb.enc vb1)]):=
 bnK h λr0 Zn h=>bnK h λa0 Zz h=>bnK h λy0 Wb h=>rtK h (rr (Yqz Zn) (xq Zb.enc Zz y0 (kk 9 (oe Zg.enc r0.1.queue (ob (Zu5 Zb.enc Wb) (oe Zd.enc vb0.conf.masters (ob (Qm Zb.enc Wb) (oe Zc.enc vb0.buckets (oe Ze vb0.splits (Zi.so vb0.model (oe Zm.enc vb0.log ee)))))))))))
theorem Zx0 {x0:Za} {r:Int×Za} {vb0:Za} {vb1:Zb} {v0:Int} {v1:Bool} (h:Zhv x0 vb0 vb1 v0 v1=some r):CS (Zqu x0 r) Tryz.f175 [1,1,1,1,1,0,1] [(0,.ptr (0,63) 0 0),(3,il v0),(5,.ptr (1,9) 0 0),(47,bl v1)] (Za.bk vb0 1++[((0,63),⟨true,true,true,0,[(Za.rl vb0 1)]⟩),bx 9 (Zb.enc vb1)]):=
 itK h (λg1 h=>Zj (ffi 1 9) 4 (gg g1 (Za.sc {vb0 with holder:=v0,held:=0} ee)) (Zxy h)) λg1 h=>Zj (ffi 1 9) 2 (gg g1 (Za.sc vb0 ee)) (Zxy h)
theorem Zxz {x0:Za} {r:Int×Za} {vb0:Za} {vb1:Zb} {v0:Int} (h:J0 x0 vb0 vb1 v0=some r):CS (Zqu x0 r) Tryz.f175 [1,1,1,1,1] [(0,.ptr (0,63) 0 0),(3,il v0),(5,.ptr (1,9) 0 0)] (Za.bk vb0 1++[((0,63),⟨true,true,true,0,[(Za.rl vb0 1)]⟩),bx 9 (Zb.enc vb1)]):=
 bnK h λr1 Zw h=>itK h (λg1 h=>Zj (ffi 1 9) 3 (rr (Z1t Zw) (gg g1 (kk 5 (Za.sc vb0 ee)))) (Zx0 h)) λg1 h=>Zj (ffi 1 9) 3 (rr (Z1t Zw) (gg g1 (kk 5 (Za.sc vb0 ee)))) (Zx0 h)
theorem Ymt {x0:Za} {r:Int×Za} (h:Zqm x0=some r):Zu Tryz.prog Mo (Zqu x0 r):=
 Zr Tryz.func175 (bnK h λr2 Z6 h=>have p1 {q p} (k:Scr q p):=(kk 8 (Za.so x0 (rr (Ypb Z6) k)));itK h (λg1 h=>rtK h (p1 (gg g1 (kk 8 (Za.so r2.2.2 ee))))) λg1 h=>bnK h λa1 Yv h=>itK h (λg2 h=>Zj (Za.ff 1 2 1536++[((1,9),(4,7168))]) 13 (p1 (gg g1 (xd Zb.enc Yv (gg g2 (kk 6 (Za.sc {r2.2.2 with addr:=(Zh.mk true r2.1 a1.beat true r2.2.1 0 0 false)} ee)))))) (Zxz h)) λg2 h=>Zj (Za.ff 1 2 1536++[((1,9),(4,7168))]) 13 (p1 (gg g1 (xd Zb.enc Yv (gg g2 (kk 6 (Za.sc {r2.2.2 with addr:=(Zh.mk true r2.1 a1.beat (decide (r2.2.2.last≠r2.1)) r2.2.1 0 0 false)} ee)))))) (Zxz h))
abbrev Zaa (x0:Za) (x1:Zf) (r:Zt×Za):Y:=(97,[.agg (Za.ow x0),.agg (Zf.enc x1)],.agg (Zt.enc r.1),[.agg (Za.ow r.2),.undef])
theorem Zzx {x0:Za} {x1:Zf} {r:Zt×Za} {vb0:Za} {vb1:Zt} (h:Zet x0 x1 vb0 vb1=some r):CS (Zaa x0 x1 r) Tryz.f97 [1,1,1,1,1,1,1,1,1] [(0,.ptr (0,63) 0 0),(4,.ptr (1,9) 0 0),(5,.ptr (1,10) 0 0)] (Za.bk vb0 1++[((0,63),⟨true,true,true,0,[(Za.rl vb0 1)]⟩),bx 9 (Zt.enc Zt.z0),bx 10 (Zt.enc vb1)]):=
 rtK h (kk 8 (Za.so vb0 ee))
theorem Z0m {x0:Za} {x1:Zf} {r:Zt×Za} {vb0:Za} {vb1:Zt} (h:Zfg x0 x1 vb0 vb1=some r):CS (Zaa x0 x1 r) Tryz.f97 [1,1,1,1,1,1,1,1,0,1,0,1,1] [(0,.ptr (0,63) 0 0),(4,.ptr (1,9) 0 0),(5,.ptr (1,10) 0 0)] (Za.bk vb0 1++[((0,63),⟨true,true,true,0,[(Za.rl vb0 1)]⟩),bx 9 (Zt.enc Zt.z0),bx 10 (Zt.enc vb1)]):=
 bnK h λr0 Zn h=>Zj (Za.ff 1 2 1536++[((1,9),(1,9)),((1,10),(1,10))]) 1 (kk 8 (Za.so vb0 (rr (Ymt Zn) (Za.sc r0.2 ee)))) (Zzx h)
theorem Zzb {x0:Za} {x1:Zf} {r:Zt×Za} {vb0:Za} {vb2:Zt} (h:Zcm x0 x1 vb0 vb2=some r):CS (Zaa x0 x1 r) Tryz.f97 [1,1,1,1,1,1,1,1,0,1,0,1] [(0,.ptr (0,63) 0 0),(3,.ptr (1,9) 0 0),(4,.ptr (1,10) 0 0),(5,.ptr (1,11) 0 0)] (Za.bk vb0 1++[((0,63),⟨true,true,true,0,[(Za.rl vb0 1)]⟩),bx 9 (Zf.enc x1),bx 10 (Zt.enc Zt.z0),bx 11 (Zt.enc vb2)]):=
 itK h (λg1 h=>bnK h λr1 Zw h=>Zj (ffi 1 8++[((1,9),(1,10)),((1,10),(1,11))]) 11 (gg g1 (kk 8 (Za.so vb0 (rr (Yjq Zw) (Za.sc {vb0 with addr:=Zh.z0,data_:={vb0.addr with left:=r1.2,resp:=r1.1},picks:=(Zs vb0.picks 1)} ee))))) (Z0m h)) λg1 h=>Zj (ffi 1 8++[((1,9),(1,10)),((1,10),(1,11))]) 7 (gg g1 (Za.sc vb0 ee)) (Z0m h)
theorem Zzv {x0:Za} {x1:Zf} {r:Zt×Za} {vb0:Za} {vb2:Zt} {v0:Bool} (h:Jg x0 x1 vb0 vb2 v0=some r):CS (Zaa x0 x1 r) Tryz.f97 [1,1,1,1,1,1,1,1,0,1,0,0,1] [(0,.ptr (0,63) 0 0),(3,.ptr (1,9) 0 0),(4,.ptr (1,10) 0 0),(5,.ptr (1,11) 0 0),(187,bl v0)] (Za.bk vb0 1++[((0,63),⟨true,true,true,0,[(Za.rl vb0 1)]⟩),bx 9 (Zf.enc x1),bx 10 (Zt.enc Zt.z0),bx 11 (Zt.enc vb2)]):=
 itK h (λg1 h=>bnK h λa0 Zz h=>bnK h λy0 Wb h=>bnK h λr2 Z6 h=>Zj (Za.ff 1 3 1536++ffi 9 3) 4 (gg g1 (xp Zb.enc Zz Wb (kk 8 (oe Zd.enc vb0.conf.masters (ob (Qm Zb.enc Wb) (oe Zc.enc vb0.buckets (oe Ze vb0.splits (Zi.so vb0.model (oe Zm.enc vb0.log (rr (Z96 Z6) (Za.sc r2 ee))))))))))) (Zzb h)) λg1 h=>Zj (ffi 1 11) 2 (gg g1 (Za.sc vb0 ee)) (Zzb h)
theorem Zzn {x0:Za} {x1:Zf} {r:Zt×Za} {vb0:Za} {vb2:Zt} (h:Jc x0 x1 vb0 vb2=some r):CS (Zaa x0 x1 r) Tryz.f97 [1,1,1,1,1,1,1] [(0,.ptr (0,63) 0 0),(3,.ptr (1,9) 0 0),(4,.ptr (1,10) 0 0),(5,.ptr (1,11) 0 0)] (Za.bk vb0 1++[((0,63),⟨true,true,true,0,[(Za.rl vb0 1)]⟩),bx 9 (Zf.enc x1),bx 10 (Zt.enc Zt.z0),bx 11 (Zt.enc vb2)]):=
 bnK h λr3 Y2 h=>have p1 {q p} (k:Scr q p):=(kk 8 (Za.so vb0 (rr (Ykd Y2) k)));itK h (λg1 h=>itK h (λg2 h=>Zj (Za.ff 1 2 2560++ffi 9 3) 9 (p1 (gg g1 (gg g2 (kk 10 (Za.sc r3.2.1 ee))))) (Zzv h)) λg2 h=>Zj (Za.ff 1 2 2560++ffi 9 3) 9 (p1 (gg g1 (gg g2 (kk 10 (Za.sc r3.2.1 ee))))) (Zzv h)) λg1 h=>Zj (Za.ff 1 2 2560++[((1,9),(1,10)),((1,10),(1,11))]) 7 (p1 (gg g1 (Za.sc r3.2.1 ee))) (Zzx h)
theorem Yfc {x0:Za} {x1:Zf} {r:Zt×Za}:∀{m:Nat} {vb0:Za} {vb2:Zt} {v1:Int} {v2:Int},Zaq x0 x1 m vb0 vb2 v1 v2=some r->CS (Zaa x0 x1 r) Tryz.f97 [1,1,1,1,1,0,1,0] [(0,.ptr (0,63) 0 0),(3,.ptr (1,9) 0 0),(4,.ptr (1,10) 0 0),(5,.ptr (1,11) 0 0),(107,.sl (1,4) 0 (vb0.splits.map Ze).length),(108,il v1),(109,il v2)] (Za.bk vb0 1++[((0,63),⟨true,true,true,0,[(Za.rl vb0 1)]⟩),bx 9 (Zf.enc x1),bx 10 (Zt.enc Zt.z0),bx 11 (Zt.enc vb2)]):=by
 intro m
 induction m with
 | zero=>intro vb0 vb2 v1 v2 h;cases h
 | succ m ih=>exactλ{vb0} {vb2} {v1} {v2} h=>itK h (λg1 h=>bnK h λa1 Yv h=>bnK h λy1 hy1 h=>bnK h λa2 Kv h=>bnK h λa3 ha3 h=>bnK h λr4 Qh h=>bnK h λy2 hy2 h=>Zj (ffi 1 11) 15 (gg g1 (xd Ze Yv (xp Ze Yv hy1 (xd Zc.enc Kv (xd Zd.enc ha3 (rr (Ykb Qh) (xp Zc.enc Kv hy2 (tp (.num (y1.map Ze).length 0 0 []) (tq (Za.nm {vb0 with buckets:=y2,splits:=y1}) (ob (Qm Ze hy1) (oe Zd.enc vb0.conf.masters (oe Zb.enc vb0.m (ob (Qm Zc.enc hy2) (ob (Qm Ze hy1) (Zi.so vb0.model (oe Zm.enc vb0.log ee)))))))))))))))) (ih h)) λg1 h=>itK h (λg2 h=>Zj (ffi 1 11) 14 (gg g1 (gg g2 (Za.sc {vb0 with held:=(Zje (Zs vb0.held 1) vb0.conf.lockMost)} ee))) (Zzn h)) λg2 h=>Zj (ffi 1 11) 14 (gg g1 (gg g2 (Za.sc vb0 ee))) (Zzn h)
theorem Ye4 {x0:Za} {x1:Zf} {r:Zt×Za}:∀{m:Nat} {vb0:Za} {vb2:Zt} {v3:List Zl} {v4:Int} {v5:Int},Ze6 x0 x1 m vb0 vb2 v3 v4 v5=some r->CS (Zaa x0 x1 r) Tryz.f97 [1,1,1,1,0,1,0] [(0,.ptr (0,63) 0 0),(3,.ptr (1,9) 0 0),(4,.ptr (1,10) 0 0),(5,.ptr (1,11) 0 0),(69,.sl (1,12) 0 (v3.map Zl.enc).length),(70,il v4),(71,il v5)] (Za.bk vb0 1++[((0,63),⟨true,true,true,0,[(Za.rl vb0 1)]⟩),bx 9 (Zf.enc x1),bx 10 (Zt.enc Zt.z0),bx 11 (Zt.enc vb2),rx 12 106 (v3.map Zl.enc)]):=by
 intro m
 induction m with
 | zero=>intro vb0 vb2 v3 v4 v5 h;cases h
 | succ m ih=>exactλ{vb0} {vb2} {v3} {v4} {v5} h=>itK h (λg1 h=>bnK h λa4 ha4 h=>bnK h λr5 hr5 h=>have p1 {q p} (k:Scr q p):=(gg g1 (xd Zl.enc ha4 (kk 1 (oe Zd.enc vb0.conf.masters (rr (Zfe hr5) k)))));itK h (λg2 h=>bnK h λa5 ha5 h=>bnK h λr6 hr6 h=>bnK h λy3 hy3 h=>Zj (ffi 1 12) 16 (p1 (gg g2 (xd Zb.enc ha5 (rr (Yvh hr6) (xq Zb.enc ha5 y3 (kk 1 (oe Zg.enc r6.1.queue (ob (Zu5 Zb.enc hy3) (ln Zl.enc v3 (tq (Za.nm {vb0 with m:=y3}) (oe Zd.enc vb0.conf.masters (ob (Qm Zb.enc hy3) (oe Zc.enc vb0.buckets (oe Ze vb0.splits (Zi.so vb0.model (oe Zm.enc vb0.log ee)))))))))))))))) (ih h)) λg2 h=>Zj (ffi 1 12) 16 (p1 (gg g2 (ln Zl.enc v3 (Za.sc vb0 ee)))) (ih h)) λg1 h=>Zj (ffi 1 11) 13 (gg g1 (lr Ze vb0.splits (ln Ze vb0.splits (Za.sc vb0 ee)))) (Yfc h)
theorem Z0b {x0:Za} {x1:Zf} {r:Zt×Za} {vb2:Zt} (h:Zfc x0 x1 vb2=some r):CS (Zaa x0 x1 r) Tryz.f97 [1,1,1,1] [(0,.ptr (0,63) 0 0),(3,.ptr (1,9) 0 0),(4,.ptr (1,10) 0 0),(5,.ptr (1,11) 0 0)] (Za.bk x0 1++[((0,63),⟨true,true,true,0,[(Za.rl x0 1)]⟩),bx 9 (Zf.enc x1),bx 10 (Zt.enc Zt.z0),bx 11 (Zt.enc vb2)]):=
 bnK h λr7 hr7 h=>Zj (ffi 1 11++[((1,12),(2,5120))]) 4 (rr (Ys3 hr7) (lr Zl.enc r7 (ln Zl.enc r7 (Za.sc x0 ee)))) (Ye4 h)
theorem Zqv {x0:Za} {x1:Zf} {r:Zt×Za} {vb2:Zt} (h:Zey x0 x1 vb2=some r):CS (Zaa x0 x1 r) Tryz.f97 [1,1,1] [(0,.ptr (0,63) 0 0),(3,.ptr (1,9) 0 0),(4,.ptr (1,10) 0 0),(5,.ptr (1,11) 0 0)] (Za.bk x0 1++[((0,63),⟨true,true,true,0,[(Za.rl x0 1)]⟩),bx 9 (Zf.enc x1),bx 10 (Zt.enc Zt.z0),bx 11 (Zt.enc vb2)]):=
 itK h (λg1 h=>bnK h λa6 ha6 h=>bnK h λr8 hr8 h=>Zj (ffi 1 11) 7 (gg g1 (xd Zb.enc ha6 (rr (Zhg hr8) (Za.sc x0 ee)))) (Z0b h)) λg1 h=>Zj (ffi 1 11) 7 (gg g1 (Za.sc x0 ee)) (Z0b h)
theorem Z9s {x0:Za} {x1:Zf} {r:Zt×Za} (h:Zig x0 x1=some r):Zu Tryz.prog Mo (Zaa x0 x1 r):=
 Zr Tryz.func97 (itK h (λg1 h=>bnK h λa7 ha7 h=>bnK h λr9 hr9 h=>itK h (λg2 h=>Zj (Za.ff 1 0 0++[((1,9),(1,0)),((1,10),(1,1024)),((1,11),(2,5120))]) 16 (gg g1 (xd Zb.enc ha7 (rr (Zhg hr9) (gg g2 (Za.sc x0 ee))))) (Zqv h)) λg2 h=>Zj (Za.ff 1 0 0++[((1,9),(1,0)),((1,10),(1,1024)),((1,11),(2,5120))]) 16 (gg g1 (xd Zb.enc ha7 (rr (Zhg hr9) (gg g2 (Za.sc x0 ee))))) (Zqv h)) λg1 h=>Zj (Za.ff 1 0 0++[((1,9),(1,0)),((1,10),(1,1024)),((1,11),(2,5120))]) 11 (gg g1 (Za.sc x0 ee)) (Zqv h))
abbrev Zd9 (x0:Za) (x1:Zf) (r:Za×Int):Y:=(36,[.agg (Za.enc x0),.agg (Zf.enc x1)],.tup [.agg (Za.ow r.1),il r.2],[.undef,.undef])
theorem Z39 {x0:Za} {x1:Zf} {r:Za×Int} {vb0:Za} (h:Zic x0 x1 vb0=some r):CS (Zd9 x0 x1 r) Tryz.f36 [1,1,1,1,1] [(2,.ptr (1,1) 0 0),(4,.ptr (1,2) 0 0),(6,.ptr (1,11) 0 0)] ([bx 1 (Za.enc x0)]++Za.bk Za.z0 3++[bx 2 (Za.rl Za.z0 3)]++Za.bk vb0 12++[bx 11 (Za.rl vb0 12)]):=
 bnK h λr0 Zn h=>rtK h (kk 8 (Za.so vb0 (rr (Z6h Zn) (kk 8 (Za.so r0 ee)))))
theorem Yjc {x0:Za} {x1:Zf} {r:Za×Int}:∀{m:Nat} {vb1:Za} {v0:Int},Zci x0 x1 m vb1 v0=some r->CS (Zd9 x0 x1 r) Tryz.f36 [1,1,1,1,0,0] [(2,.ptr (1,1) 0 0),(3,.ptr (1,2) 0 0),(4,.ptr (1,3) 0 0),(6,.ptr (1,12) 0 0),(7,il v0)] ([bx 1 (Za.enc x0),bx 2 (Zf.enc x1)]++Za.bk Za.z0 4++[bx 3 (Za.rl Za.z0 4)]++Za.bk vb1 13++[bx 12 (Za.rl vb1 13)]):=by
 intro m
 induction m with
 | zero=>intro vb1 v0 h;cases h
 | succ m ih=>exactλ{vb1} {v0} h=>itK h (λg1 h=>bnK h λr1 Zw h=>have p1 {q p} (k:Scr q p):=(gg g1 (kk 8 (Za.so vb1 (rr (Yjw Zw) (kk 2 k)))));itK h (λg2 h=>bnK h λr2 Z6 h=>Zj (ffi 1 12++Za.ff 13 3 1536) 9 (p1 (gg g2 (kk 15 (Za.so vb1 (rr (Z9s Z6) (Za.sc Za.z0 (Za.sc r2.2 ee))))))) (ih h)) λg2 h=>itK h (λg3 h=>bnK h λr2 Z6 h=>Zj (ffi 1 12++Za.ff 13 3 1536) 9 (p1 (gg g2 (kk 6 (gg g3 (kk 8 (Za.so vb1 (rr (Z9s Z6) (Za.sc Za.z0 (Za.sc r2.2 ee))))))))) (ih h)) λg3 h=>Zj [((1,1),(1,1)),((1,2),(1,3)),((1,3),(1,4)),((1,4),(1,5)),((1,5),(1,6)),((1,6),(1,7)),((1,7),(1,8)),((1,8),(1,9)),((1,9),(1,10)),((1,10),(1,11)),((1,11),(1,12)),((1,12),(1,13)),((1,13),(1,14)),((1,14),(1,15)),((1,15),(1,16)),((1,16),(1,17)),((1,17),(1,18)),((1,18),(1,19)),((1,19),(1,20))] 9 (p1 (gg g2 (kk 6 (gg g3 (Za.sc Za.z0 (Za.sc vb1 ee)))))) (Z39 h)) λg1 h=>Zj [((1,1),(1,1)),((1,2),(1,3)),((1,3),(1,4)),((1,4),(1,5)),((1,5),(1,6)),((1,6),(1,7)),((1,7),(1,8)),((1,8),(1,9)),((1,9),(1,10)),((1,10),(1,11)),((1,11),(1,12)),((1,12),(1,13)),((1,13),(1,14)),((1,14),(1,15)),((1,15),(1,16)),((1,16),(1,17)),((1,17),(1,18)),((1,18),(1,19)),((1,19),(1,20))] 9 (gg g1 (kk 5 (Za.sc Za.z0 (Za.sc vb1 ee)))) (Z39 h)
theorem Yio {x0:Za} {x1:Zf} {r:Za×Int} (h:Zx4 x0 x1=some r):Zu Tryz.prog Mo (Zd9 x0 x1 r):=
 Zr Tryz.func36 (bnK h λr3 Y2 h=>bnK h λr4 Qh h=>itK h (λg1 h=>rtK h (rr (Z6h Y2) (rr (Ylf Qh) (gg g1 (kk 8 (Za.so r3 ee)))))) λg1 h=>bnK h λr5 hr5 h=>Zj ([((1,1),(1,0)),((1,2),(1,1024)),((1,3),(1,2048)),((1,12),(2,2048))]++Za.ff 13 2 1024) 13 (rr (Z6h Y2) (rr (Ylf Qh) (gg g1 (rr (Yrj hr5) (Za.sc r3 ee))))) (Yjc h))
abbrev Yyj (x0:Zm) (x1:Zm) (r:Bool):Y:=(53,[.agg (Zm.enc x0),.agg (Zm.enc x1)],bl r,[.undef,.undef])
theorem Yx3 {x0:Zm} {x1:Zm} {r:Bool} (h:Zt8 x0 x1=some r):Zu Tryz.prog Mo (Yyj x0 x1 r):=
 Zr Tryz.func53 (itK h (λg1 h=>rtK h (gg g1 ee)) λg1 h=>itK h (λg2 h=>rtK h (gg g1 (gg g2 ee))) λg2 h=>itK h (λg3 h=>rtK h (gg g1 (gg g2 (gg g3 ee)))) λg3 h=>have p1 {q p} (k:Scr q p):=(gg g1 (gg g2 (gg g3 k)));itK h (λg4 h=>rtK h (p1 (gg g4 ee))) λg4 h=>itK h (λg5 h=>rtK h (p1 (gg g4 (gg g5 ee)))) λg5 h=>itK h (λg6 h=>rtK h (p1 (gg g4 (gg g5 (gg g6 ee))))) λg6 h=>itK h (λg7 h=>rtK h (p1 (gg g4 (gg g5 (gg g6 (gg g7 ee)))))) λg7 h=>rtK h (p1 (gg g4 (gg g5 (gg g6 (gg g7 ee))))))
abbrev Ycp (x0:List Zm) (x1:List Zm) (r:Bool):Y:=(14,[.tr (x0.map Zm.enc),.tr (x1.map Zm.enc)],bl r,[.undef,.undef])
theorem Ygt {x0:List Zm} {x1:List Zm} {r:Bool}:∀{m:Nat} {v0:Int},Zli x0 x1 m v0=some r->CS (Ycp x0 x1 r) Tryz.f14 [1,1,0,1,0] [(0,.tr (x0.map Zm.enc)),(1,.tr (x1.map Zm.enc)),(5,il v0)] []:=by
 intro m
 induction m with
 | zero=>intro v0 h;cases h
 | succ m ih=>exactλ{v0} h=>itK h (λg1 h=>bnK h λa0 Zz h=>bnK h λa1 Yv h=>bnK h λr0 Zn h=>have p1 {q p} (k:Scr q p):=(lr Zm.enc x0 (gg g1 (xb Zm.enc Zz (xb Zm.enc Yv (rr (Yx3 Zn) k)))));itK h (λg2 h=>rtK h (p1 (gg g2 ee))) λg2 h=>Zj [] 14 (p1 (gg g2 ee)) (ih h)) λg1 h=>rtK h (lr Zm.enc x0 (gg g1 ee))
theorem Ydr {x0:List Zm} {x1:List Zm} {r:Bool} (h:Zu9 x0 x1=some r):Zu Tryz.prog Mo (Ycp x0 x1 r):=
 Zr Tryz.func14 (itK h (λg1 h=>rtK h (lr Zm.enc x0 (lr Zm.enc x1 (gg g1 ee)))) λg1 h=>Zj [] 11 (lr Zm.enc x0 (lr Zm.enc x1 (gg g1 ee))) (Ygt h))
abbrev Yve (x0:Zd) (x1:Zd) (r:Bool):Y:=(121,[.agg (Zd.enc x0),.agg (Zd.enc x1)],bl r,[.undef,.undef])
theorem Ytv {x0:Zd} {x1:Zd} {r:Bool} (h:Zpl x0 x1=some r):Zu Tryz.prog Mo (Yve x0 x1 r):=
 Zr Tryz.func121 (itK h (λg1 h=>rtK h (gg g1 ee)) λg1 h=>itK h (λg2 h=>rtK h (gg g1 (gg g2 ee))) λg2 h=>itK h (λg3 h=>rtK h (gg g1 (gg g2 (gg g3 ee)))) λg3 h=>itK h (λg4 h=>rtK h (gg g1 (gg g2 (gg g3 (gg g4 ee))))) λg4 h=>rtK h (gg g1 (gg g2 (gg g3 (gg g4 ee)))))
abbrev Z88 (x0:List Zd) (x1:List Zd) (r:Bool):Y:=(54,[.tr (x0.map Zd.enc),.tr (x1.map Zd.enc)],bl r,[.undef,.undef])
theorem Yeu {x0:List Zd} {x1:List Zd} {r:Bool}:∀{m:Nat} {v0:Int},Zjs x0 x1 m v0=some r->CS (Z88 x0 x1 r) Tryz.f54 [1,1,0,1,0] [(0,.tr (x0.map Zd.enc)),(1,.tr (x1.map Zd.enc)),(5,il v0)] []:=by
 intro m
 induction m with
 | zero=>intro v0 h;cases h
 | succ m ih=>exactλ{v0} h=>itK h (λg1 h=>bnK h λa0 Zz h=>bnK h λa1 Yv h=>bnK h λr0 Zn h=>have p1 {q p} (k:Scr q p):=(lr Zd.enc x0 (gg g1 (xb Zd.enc Zz (xb Zd.enc Yv (rr (Ytv Zn) k)))));itK h (λg2 h=>rtK h (p1 (gg g2 ee))) λg2 h=>Zj [] 14 (p1 (gg g2 ee)) (ih h)) λg1 h=>rtK h (lr Zd.enc x0 (gg g1 ee))
theorem Yoo {x0:List Zd} {x1:List Zd} {r:Bool} (h:Zte x0 x1=some r):Zu Tryz.prog Mo (Z88 x0 x1 r):=
 Zr Tryz.func54 (itK h (λg1 h=>rtK h (lr Zd.enc x0 (lr Zd.enc x1 (gg g1 ee)))) λg1 h=>Zj [] 11 (lr Zd.enc x0 (lr Zd.enc x1 (gg g1 ee))) (Yeu h))
abbrev Yzw (x0:Zk) (x1:Zk) (r:Bool):Y:=(15,[.agg (Zk.enc x0),.agg (Zk.enc x1)],bl r,[.undef,.undef])
theorem Yxw {x0:Zk} {x1:Zk} {r:Bool} (h:Zyd x0 x1=some r):Zu Tryz.prog Mo (Yzw x0 x1 r):=
 Zr Tryz.func15 (bnK h λr0 Zn h=>have p1 {q p} (k:Scr q p):=(rr (Yoo Zn) k);itK h (λg1 h=>rtK h (p1 (gg g1 ee))) λg1 h=>itK h (λg2 h=>rtK h (p1 (gg g1 (gg g2 ee)))) λg2 h=>itK h (λg3 h=>rtK h (p1 (gg g1 (gg g2 (gg g3 ee))))) λg3 h=>itK h (λg4 h=>rtK h (p1 (gg g1 (gg g2 (gg g3 (gg g4 ee)))))) λg4 h=>itK h (λg5 h=>rtK h (p1 (gg g1 (gg g2 (gg g3 (gg g4 (gg g5 ee))))))) λg5 h=>itK h (λg6 h=>rtK h (p1 (gg g1 (gg g2 (gg g3 (gg g4 (gg g5 (gg g6 ee)))))))) λg6 h=>rtK h (p1 (gg g1 (gg g2 (gg g3 (gg g4 (gg g5 (gg g6 ee))))))))
abbrev Yfo (x0:List Int) (x1:List Int) (r:Bool):Y:=(69,[.tr (x0.map Ze),.tr (x1.map Ze)],bl r,[.undef,.undef])
theorem Yjo {x0:List Int} {x1:List Int} {r:Bool}:∀{m:Nat} {v0:Int},Zoz x0 x1 m v0=some r->CS (Yfo x0 x1 r) Tryz.f69 [1,1,0,1,0] [(0,.tr (x0.map Ze)),(1,.tr (x1.map Ze)),(5,il v0)] []:=by
 intro m
 induction m with
 | zero=>intro v0 h;cases h
 | succ m ih=>exactλ{v0} h=>itK h (λg1 h=>bnK h λa0 Zz h=>bnK h λa1 Yv h=>itK h (λg2 h=>rtK h (lr Ze x0 (gg g1 (xb Ze Zz (xb Ze Yv (gg g2 ee)))))) λg2 h=>Zj [] 14 (lr Ze x0 (gg g1 (xb Ze Zz (xb Ze Yv (gg g2 ee))))) (ih h)) λg1 h=>rtK h (lr Ze x0 (gg g1 ee))
theorem Ko {x0:List Int} {x1:List Int} {r:Bool} (h:Zcw x0 x1=some r):Zu Tryz.prog Mo (Yfo x0 x1 r):=
 Zr Tryz.func69 (itK h (λg1 h=>rtK h (lr Ze x0 (lr Ze x1 (gg g1 ee)))) λg1 h=>Zj [] 11 (lr Ze x0 (lr Ze x1 (gg g1 ee))) (Yjo h))
abbrev Y2x (x0:Zg) (x1:Zg) (r:Bool):Y:=(55,[.agg (Zg.enc x0),.agg (Zg.enc x1)],bl r,[.undef,.undef])
theorem Z8n {x0:Zg} {x1:Zg} {r:Bool} (h:Zrr x0 x1=some r):Zu Tryz.prog Mo (Y2x x0 x1 r):=
 Zr Tryz.func55 (itK h (λg1 h=>rtK h (gg g1 ee)) λg1 h=>itK h (λg2 h=>rtK h (gg g1 (gg g2 ee))) λg2 h=>itK h (λg3 h=>rtK h (gg g1 (gg g2 (gg g3 ee)))) λg3 h=>itK h (λg4 h=>rtK h (gg g1 (gg g2 (gg g3 (gg g4 ee))))) λg4 h=>itK h (λg5 h=>rtK h (gg g1 (gg g2 (gg g3 (gg g4 (gg g5 ee)))))) λg5 h=>bnK h λr0 Zn h=>itK h (λg6 h=>rtK h (gg g1 (gg g2 (gg g3 (gg g4 (gg g5 (rr (Ko Zn) (gg g6 ee)))))))) λg6 h=>rtK h (gg g1 (gg g2 (gg g3 (gg g4 (gg g5 (rr (Ko Zn) (gg g6 ee))))))))
abbrev Yif (x0:List Zg) (x1:List Zg) (r:Bool):Y:=(16,[.tr (x0.map Zg.enc),.tr (x1.map Zg.enc)],bl r,[.undef,.undef])
theorem Ykv {x0:List Zg} {x1:List Zg} {r:Bool}:∀{m:Nat} {v0:Int},Zon x0 x1 m v0=some r->CS (Yif x0 x1 r) Tryz.f16 [1,1,0,1,0] [(0,.tr (x0.map Zg.enc)),(1,.tr (x1.map Zg.enc)),(5,il v0)] []:=by
 intro m
 induction m with
 | zero=>intro v0 h;cases h
 | succ m ih=>exactλ{v0} h=>itK h (λg1 h=>bnK h λa0 Zz h=>bnK h λa1 Yv h=>bnK h λr0 Zn h=>have p1 {q p} (k:Scr q p):=(lr Zg.enc x0 (gg g1 (xb Zg.enc Zz (xb Zg.enc Yv (rr (Z8n Zn) k)))));itK h (λg2 h=>rtK h (p1 (gg g2 ee))) λg2 h=>Zj [] 14 (p1 (gg g2 ee)) (ih h)) λg1 h=>rtK h (lr Zg.enc x0 (gg g1 ee))
theorem Yyo {x0:List Zg} {x1:List Zg} {r:Bool} (h:Zx6 x0 x1=some r):Zu Tryz.prog Mo (Yif x0 x1 r):=
 Zr Tryz.func16 (itK h (λg1 h=>rtK h (lr Zg.enc x0 (lr Zg.enc x1 (gg g1 ee)))) λg1 h=>Zj [] 11 (lr Zg.enc x0 (lr Zg.enc x1 (gg g1 ee))) (Ykv h))
abbrev Y2f (x0:Zb) (x1:Zb) (r:Bool):Y:=(125,[.agg (Zb.enc x0),.agg (Zb.enc x1)],bl r,[.undef,.undef])
theorem Y20 {x0:Zb} {x1:Zb} {r:Bool} (h:Z2m x0 x1=some r):Zu Tryz.prog Mo (Y2f x0 x1 r):=
 Zr Tryz.func125 (bnK h λr0 Zn h=>have p1 {q p} (k:Scr q p):=(rr (Yyo Zn) k);itK h (λg1 h=>rtK h (p1 (gg g1 ee))) λg1 h=>itK h (λg2 h=>rtK h (p1 (gg g1 (gg g2 ee)))) λg2 h=>itK h (λg3 h=>rtK h (p1 (gg g1 (gg g2 (gg g3 ee))))) λg3 h=>itK h (λg4 h=>rtK h (p1 (gg g1 (gg g2 (gg g3 (gg g4 ee)))))) λg4 h=>itK h (λg5 h=>rtK h (p1 (gg g1 (gg g2 (gg g3 (gg g4 (gg g5 ee))))))) λg5 h=>itK h (λg6 h=>rtK h (p1 (gg g1 (gg g2 (gg g3 (gg g4 (gg g5 (gg g6 ee)))))))) λg6 h=>rtK h (p1 (gg g1 (gg g2 (gg g3 (gg g4 (gg g5 (gg g6 ee))))))))
abbrev Yfq (x0:List Zb) (x1:List Zb) (r:Bool):Y:=(66,[.tr (x0.map Zb.enc),.tr (x1.map Zb.enc)],bl r,[.undef,.undef])
theorem Yj5 {x0:List Zb} {x1:List Zb} {r:Bool}:∀{m:Nat} {v0:Int},Zo3 x0 x1 m v0=some r->CS (Yfq x0 x1 r) Tryz.f66 [1,1,0,1,0] [(0,.tr (x0.map Zb.enc)),(1,.tr (x1.map Zb.enc)),(5,il v0)] []:=by
 intro m
 induction m with
 | zero=>intro v0 h;cases h
 | succ m ih=>exactλ{v0} h=>itK h (λg1 h=>bnK h λa0 Zz h=>bnK h λa1 Yv h=>bnK h λr0 Zn h=>have p1 {q p} (k:Scr q p):=(lr Zb.enc x0 (gg g1 (xb Zb.enc Zz (xb Zb.enc Yv (rr (Y20 Zn) k)))));itK h (λg2 h=>rtK h (p1 (gg g2 ee))) λg2 h=>Zj [] 14 (p1 (gg g2 ee)) (ih h)) λg1 h=>rtK h (lr Zb.enc x0 (gg g1 ee))
theorem Yyb {x0:List Zb} {x1:List Zb} {r:Bool} (h:Zyw x0 x1=some r):Zu Tryz.prog Mo (Yfq x0 x1 r):=
 Zr Tryz.func66 (itK h (λg1 h=>rtK h (lr Zb.enc x0 (lr Zb.enc x1 (gg g1 ee)))) λg1 h=>Zj [] 11 (lr Zb.enc x0 (lr Zb.enc x1 (gg g1 ee))) (Yj5 h))
abbrev Y2c (x0:Z2) (x1:Z2) (r:Bool):Y:=(67,[.agg (Z2.enc x0),.agg (Z2.enc x1)],bl r,[.undef,.undef])
theorem Y23 {x0:Z2} {x1:Z2} {r:Bool} (h:Z1p x0 x1=some r):Zu Tryz.prog Mo (Y2c x0 x1 r):=
 Zr Tryz.func67 (itK h (λg1 h=>rtK h (gg g1 ee)) λg1 h=>itK h (λg2 h=>rtK h (gg g1 (gg g2 ee))) λg2 h=>rtK h (gg g1 (gg g2 ee)))
abbrev Ypm (x0:Zc) (x1:Zc) (r:Bool):Y:=(126,[.agg (Zc.enc x0),.agg (Zc.enc x1)],bl r,[.undef,.undef])
theorem Yop {x0:Zc} {x1:Zc} {r:Bool} (h:Zsx x0 x1=some r):Zu Tryz.prog Mo (Ypm x0 x1 r):=
 Zr Tryz.func126 (itK h (λg1 h=>rtK h (gg g1 ee)) λg1 h=>itK h (λg2 h=>rtK h (gg g1 (gg g2 ee))) λg2 h=>rtK h (gg g1 (gg g2 ee)))
abbrev Z7l (x0:List Zc) (x1:List Zc) (r:Bool):Y:=(68,[.tr (x0.map Zc.enc),.tr (x1.map Zc.enc)],bl r,[.undef,.undef])
theorem Ybq {x0:List Zc} {x1:List Zc} {r:Bool}:∀{m:Nat} {v0:Int},Zhs x0 x1 m v0=some r->CS (Z7l x0 x1 r) Tryz.f68 [1,1,0,1,0] [(0,.tr (x0.map Zc.enc)),(1,.tr (x1.map Zc.enc)),(5,il v0)] []:=by
 intro m
 induction m with
 | zero=>intro v0 h;cases h
 | succ m ih=>exactλ{v0} h=>itK h (λg1 h=>bnK h λa0 Zz h=>bnK h λa1 Yv h=>bnK h λr0 Zn h=>have p1 {q p} (k:Scr q p):=(lr Zc.enc x0 (gg g1 (xb Zc.enc Zz (xb Zc.enc Yv (rr (Yop Zn) k)))));itK h (λg2 h=>rtK h (p1 (gg g2 ee))) λg2 h=>Zj [] 14 (p1 (gg g2 ee)) (ih h)) λg1 h=>rtK h (lr Zc.enc x0 (gg g1 ee))
theorem Ym7 {x0:List Zc} {x1:List Zc} {r:Bool} (h:Zqk x0 x1=some r):Zu Tryz.prog Mo (Z7l x0 x1 r):=
 Zr Tryz.func68 (itK h (λg1 h=>rtK h (lr Zc.enc x0 (lr Zc.enc x1 (gg g1 ee)))) λg1 h=>Zj [] 11 (lr Zc.enc x0 (lr Zc.enc x1 (gg g1 ee))) (Ybq h))
abbrev Yyd (x0:Zh) (x1:Zh) (r:Bool):Y:=(70,[.agg (Zh.enc x0),.agg (Zh.enc x1)],bl r,[.undef,.undef])
theorem Ygz {x0:Zh} {x1:Zh} {r:Bool} (h:Zr8 x0 x1=some r):Zu Tryz.prog Mo (Yyd x0 x1 r):=
 Zr Tryz.func70 (itK h (λg1 h=>rtK h (gg g1 ee)) λg1 h=>itK h (λg2 h=>rtK h (gg g1 (gg g2 ee))) λg2 h=>have p1 {q p} (k:Scr q p):=(gg g1 (gg g2 k));itK h (λg3 h=>rtK h (p1 (gg g3 ee))) λg3 h=>itK h (λg4 h=>rtK h (p1 (gg g3 (gg g4 ee)))) λg4 h=>itK h (λg5 h=>rtK h (p1 (gg g3 (gg g4 (gg g5 ee))))) λg5 h=>itK h (λg6 h=>rtK h (p1 (gg g3 (gg g4 (gg g5 (gg g6 ee)))))) λg6 h=>itK h (λg7 h=>rtK h (p1 (gg g3 (gg g4 (gg g5 (gg g6 (gg g7 ee))))))) λg7 h=>itK h (λg8 h=>rtK h (p1 (gg g3 (gg g4 (gg g5 (gg g6 (gg g7 (gg g8 ee)))))))) λg8 h=>rtK h (p1 (gg g3 (gg g4 (gg g5 (gg g6 (gg g7 (gg g8 ee))))))))
abbrev Y1z (x0:Zo) (x1:Zo) (r:Bool):Y:=(127,[.agg (Zo.enc x0),.agg (Zo.enc x1)],bl r,[.undef,.undef])
theorem Yly {x0:Zo} {x1:Zo} {r:Bool} (h:Z72 x0 x1=some r):Zu Tryz.prog Mo (Y1z x0 x1 r):=
 Zr Tryz.func127 (bnK h λr0 Zn h=>itK h (λg1 h=>rtK h (rr (Ko Zn) (gg g1 ee))) λg1 h=>itK h (λg2 h=>rtK h (rr (Ko Zn) (gg g1 (gg g2 ee)))) λg2 h=>bnK h λr1 Zw h=>itK h (λg3 h=>rtK h (rr (Ko Zn) (gg g1 (gg g2 (rr (Ko Zw) (gg g3 ee)))))) λg3 h=>rtK h (rr (Ko Zn) (gg g1 (gg g2 (rr (Ko Zw) (gg g3 ee))))))
abbrev Yvk (x0:Zi) (x1:Zi) (r:Bool):Y:=(71,[.agg (Zi.enc x0),.agg (Zi.enc x1)],bl r,[.undef,.undef])
theorem Ysq {x0:Zi} {x1:Zi} {r:Bool} (h:Zv1 x0 x1=some r):Zu Tryz.prog Mo (Yvk x0 x1 r):=
 Zr Tryz.func71 (bnK h λr0 Zn h=>itK h (λg1 h=>rtK h (rr (Ko Zn) (gg g1 ee))) λg1 h=>bnK h λr1 Zw h=>itK h (λg2 h=>rtK h (rr (Ko Zn) (gg g1 (rr (Yly Zw) (gg g2 ee))))) λg2 h=>rtK h (rr (Ko Zn) (gg g1 (rr (Yly Zw) (gg g2 ee)))))
abbrev Zat (x0:Za) (x1:Za) (r:Bool):Y:=(25,[.agg (Za.enc x0),.agg (Za.enc x1)],bl r,[.undef,.undef])
end Go.Proofs.YtagdmghmblplbaaGreat.Ev
