/- A part of the proof of FnExactRunOut: see the text YtagdmghmblplbaaGreatLawFnExactRunOut for what is proved and its conditions. Conditions here: those in each line. -/
import Derived.Test.YtagdmghmblplbaaGreatA5
set_option linter.unusedSimpArgs false
set_option linter.unusedVariables false
set_option linter.unusedSectionVars false
namespace Go.Proofs.YtagdmghmblplbaaGreat.Ev
open Go Go.Proofs
variable [Anchor]
theorem Z0z {x0:Za} {x1:Zf} {r:Za} {vb0:Zh} (h:Zff x0 x1 vb0=some r):CS (Zbp x0 x1 r) Tryz.f152 [1,1,1,1,1,1,1,1,1,1,1,1,1] [(2,.ptr (1,1) 0 0),(4,.ptr (1,10) 0 0),(5,.ptr (1,19) 0 0)] (Za.bk {x0 with addr:=Zh.z0} 2++[bx 1 (Za.rl {x0 with addr:=Zh.z0} 2)]++Za.bk Za.z0 11++[bx 10 (Za.rl Za.z0 11),bx 19 (Zh.enc vb0)]):=
 rtK h (kk 8 (Za.so x0 ee))
theorem Ze1 {x0:Za} {x1:Zf} {r:Za} {vb0:Zh} {v0:Bool} (h:Kk x0 x1 vb0 v0=some r):CS (Zbp x0 x1 r) Tryz.f152 [1,1,1,1,1,1,1,1,1,1,1,1,0,1] [(2,.ptr (1,1) 0 0),(4,.ptr (1,10) 0 0),(5,.ptr (1,19) 0 0),(128,bl v0)] (Za.bk {x0 with addr:=Zh.z0} 2++[bx 1 (Za.rl {x0 with addr:=Zh.z0} 2)]++Za.bk Za.z0 11++[bx 10 (Za.rl Za.z0 11),bx 19 (Zh.enc vb0)]):=
 itK h (λg1 h=>Zj (ffi 1 19) 2 (gg g1 (Za.sc {x0 with addr:=Zh.z0} (Za.sc Za.z0 ee))) (Z0z h)) λg1 h=>Zj (ffi 1 19) 2 (gg g1 (Za.sc {x0 with addr:=Zh.z0} (Za.sc Za.z0 ee))) (Z0z h)
theorem Z0n {x0:Za} {x1:Zf} {r:Za} {vb0:Zh} {vb1:Zb} {v1:Int} {v2:Int} (h:Zcp x0 x1 vb0 vb1 v1 v2=some r):CS (Zbp x0 x1 r) Tryz.f152 [1,1,1,1,1,1,1,1,1,1,1,1] [(2,.ptr (1,1) 0 0),(4,.ptr (1,10) 0 0),(5,.ptr (1,19) 0 0),(6,.ptr (1,20) 0 0),(9,il v1),(10,il v2)] (Za.bk {x0 with addr:=Zh.z0} 2++[bx 1 (Za.rl {x0 with addr:=Zh.z0} 2)]++Za.bk Za.z0 11++[bx 10 (Za.rl Za.z0 11),bx 19 (Zh.enc vb0),bx 20 (Zb.enc vb1)]):=
 itK h (λg1 h=>itK h (λg2 h=>itK h (λg3 h=>itK h (λg4 h=>Zj (ffi 1 19) 3 (gg g1 (kk 2 (gg g2 (kk 2 (gg g3 (kk 3 (gg g4 (kk 5 (Za.sc {x0 with addr:=Zh.z0} (Za.sc Za.z0 ee)))))))))) (Ze1 h)) λg4 h=>Zj (ffi 1 19) 3 (gg g1 (kk 2 (gg g2 (kk 2 (gg g3 (kk 3 (gg g4 (kk 5 (Za.sc {x0 with addr:=Zh.z0} (Za.sc Za.z0 ee)))))))))) (Ze1 h)) λg3 h=>Zj (ffi 1 19) 3 (gg g1 (kk 2 (gg g2 (kk 2 (gg g3 (kk 9 (Za.sc {x0 with addr:=Zh.z0} (Za.sc Za.z0 ee)))))))) (Ze1 h)) λg2 h=>Zj (ffi 1 19) 3 (gg g1 (kk 2 (gg g2 (kk 12 (Za.sc {x0 with addr:=Zh.z0} (Za.sc Za.z0 ee)))))) (Ze1 h)) λg1 h=>Zj (ffi 1 19) 3 (gg g1 (kk 15 (Za.sc {x0 with addr:=Zh.z0} (Za.sc Za.z0 ee)))) (Ze1 h)
theorem Ze2 {x0:Za} {x1:Zf} {r:Za} {vb0:Zh} {vb1:Zb} {v1:Int} {v2:Int} {v3:Bool} (h:Kj x0 x1 vb0 vb1 v1 v2 v3=some r):CS (Zbp x0 x1 r) Tryz.f152 [1,1,1,1,1,1,1,1,1,1,1,0,1] [(2,.ptr (1,1) 0 0),(4,.ptr (1,10) 0 0),(5,.ptr (1,19) 0 0),(6,.ptr (1,20) 0 0),(9,il v1),(10,il v2),(104,bl v3)] (Za.bk {x0 with addr:=Zh.z0} 2++[bx 1 (Za.rl {x0 with addr:=Zh.z0} 2)]++Za.bk Za.z0 11++[bx 10 (Za.rl Za.z0 11),bx 19 (Zh.enc vb0),bx 20 (Zb.enc vb1)]):=
 itK h (λg1 h=>Zj (ffi 1 20) 2 (gg g1 (Za.sc {x0 with addr:=Zh.z0} (Za.sc Za.z0 ee))) (Z0n h)) λg1 h=>Zj (ffi 1 20) 2 (gg g1 (Za.sc {x0 with addr:=Zh.z0} (Za.sc Za.z0 ee))) (Z0n h)
theorem Zz3 {x0:Za} {x1:Zf} {r:Za} {vb0:Zh} {vb1:Zb} {v1:Int} {v2:Int} (h:Zcg x0 x1 vb0 vb1 v1 v2=some r):CS (Zbp x0 x1 r) Tryz.f152 [1,1,1,1,1,1,1,1,1,1,1] [(2,.ptr (1,1) 0 0),(4,.ptr (1,10) 0 0),(5,.ptr (1,19) 0 0),(6,.ptr (1,20) 0 0),(9,il v1),(10,il v2)] (Za.bk {x0 with addr:=Zh.z0} 2++[bx 1 (Za.rl {x0 with addr:=Zh.z0} 2)]++Za.bk Za.z0 11++[bx 10 (Za.rl Za.z0 11),bx 19 (Zh.enc vb0),bx 20 (Zb.enc vb1)]):=
 itK h (λg1 h=>itK h (λg2 h=>itK h (λg3 h=>Zj (ffi 1 20) 3 (gg g1 (kk 2 (gg g2 (kk 2 (gg g3 (kk 11 (Za.sc {x0 with addr:=Zh.z0} (Za.sc Za.z0 ee)))))))) (Ze2 h)) λg3 h=>itK h (λg4 h=>Zj (ffi 1 20) 3 (gg g1 (kk 2 (gg g2 (kk 2 (gg g3 (kk 4 (gg g4 (kk 6 (Za.sc {x0 with addr:=Zh.z0} (Za.sc Za.z0 ee)))))))))) (Ze2 h)) λg4 h=>Zj (ffi 1 20) 3 (gg g1 (kk 2 (gg g2 (kk 2 (gg g3 (kk 4 (gg g4 (kk 6 (Za.sc {x0 with addr:=Zh.z0} (Za.sc Za.z0 ee)))))))))) (Ze2 h)) λg2 h=>Zj (ffi 1 20) 3 (gg g1 (kk 2 (gg g2 (kk 11 (Za.sc {x0 with addr:=Zh.z0} (Za.sc Za.z0 ee)))))) (Ze2 h)) λg1 h=>Zj (ffi 1 20) 3 (gg g1 (kk 14 (Za.sc {x0 with addr:=Zh.z0} (Za.sc Za.z0 ee)))) (Ze2 h)
theorem Z0a {x0:Za} {x1:Zf} {r:Za} {vb0:Zh} {vb1:Zb} {v1:Int} {v2:Int} {v4:Bool} (h:Zct x0 x1 vb0 vb1 v1 v2 v4=some r):CS (Zbp x0 x1 r) Tryz.f152 [1,1,1,1,1,1,1,1,1,1,0,1] [(2,.ptr (1,1) 0 0),(4,.ptr (1,10) 0 0),(5,.ptr (1,19) 0 0),(6,.ptr (1,20) 0 0),(9,il v1),(10,il v2),(77,bl v4)] (Za.bk {x0 with addr:=Zh.z0} 2++[bx 1 (Za.rl {x0 with addr:=Zh.z0} 2)]++Za.bk Za.z0 11++[bx 10 (Za.rl Za.z0 11),bx 19 (Zh.enc vb0),bx 20 (Zb.enc vb1)]):=
 itK h (λg1 h=>Zj (ffi 1 20) 2 (gg g1 (Za.sc {x0 with addr:=Zh.z0} (Za.sc Za.z0 ee))) (Zz3 h)) λg1 h=>Zj (ffi 1 20) 2 (gg g1 (Za.sc {x0 with addr:=Zh.z0} (Za.sc Za.z0 ee))) (Zz3 h)
theorem Zzy {x0:Za} {x1:Zf} {r:Za} {vb0:Zh} {vb1:Zb} {v1:Int} {v2:Int} (h:Zce x0 x1 vb0 vb1 v1 v2=some r):CS (Zbp x0 x1 r) Tryz.f152 [1,1,1,1,1,1,1,1,1,1] [(2,.ptr (1,1) 0 0),(4,.ptr (1,10) 0 0),(5,.ptr (1,19) 0 0),(6,.ptr (1,20) 0 0),(9,il v1),(10,il v2)] (Za.bk {x0 with addr:=Zh.z0} 2++[bx 1 (Za.rl {x0 with addr:=Zh.z0} 2)]++Za.bk Za.z0 11++[bx 10 (Za.rl Za.z0 11),bx 19 (Zh.enc vb0),bx 20 (Zb.enc vb1)]):=
 itK h (λg1 h=>Zj (ffi 1 20) 3 (gg g1 (kk 3 (Za.sc {x0 with addr:=Zh.z0} (Za.sc Za.z0 ee)))) (Z0a h)) λg1 h=>Zj (ffi 1 20) 3 (gg g1 (kk 3 (Za.sc {x0 with addr:=Zh.z0} (Za.sc Za.z0 ee)))) (Z0a h)
theorem Z0c {x0:Za} {x1:Zf} {r:Za} {vb2:Zb} {vb3:Zg} {v5:Int} {v1:Int} {v2:Int} {v6:Bool} (h:Zck x0 x1 vb2 vb3 v5 v1 v2 v6=some r):CS (Zbp x0 x1 r) Tryz.f152 [1,1,1,1,1,1,1,1,1,0,0,1] [(2,.ptr (1,1) 0 0),(3,.ptr (1,10) 0 0),(4,.ptr (1,11) 0 0),(5,.ptr (1,20) 0 0),(6,.ptr (1,21) 0 0),(7,.ptr (1,22) 0 0),(8,il v5),(9,il v1),(10,il v2),(63,bl v6)] (Za.bk {x0 with addr:=Zh.z0} 2++[bx 1 (Za.rl {x0 with addr:=Zh.z0} 2),bx 10 (Zf.enc x1)]++Za.bk Za.z0 12++[bx 11 (Za.rl Za.z0 12),bx 20 (Zh.enc x0.addr),bx 21 (Zb.enc vb2),bx 22 (Zg.enc vb3)]):=
 itK h (λg1 h=>Zj (ffi 1 9++[((1,10),(1,11)),((1,11),(1,12)),((1,12),(1,13)),((1,13),(1,14)),((1,14),(1,15)),((1,15),(1,16)),((1,16),(1,17)),((1,17),(1,18)),((1,18),(1,19)),((1,19),(1,20)),((1,20),(1,21))]) 3 (gg g1 (Za.sc {x0 with addr:=Zh.z0} (Za.sc Za.z0 ee))) (Zzy h)) λg1 h=>bnK h λr0 Zn h=>bnK h λr1 Zw h=>bnK h λr2 Z6 h=>Zj (ffi 1 9++[((1,10),(1,11)),((1,11),(1,12)),((1,12),(1,13)),((1,13),(1,14)),((1,14),(1,15)),((1,15),(1,16)),((1,16),(1,17)),((1,17),(1,18)),((1,18),(1,19)),((1,19),(1,20)),((1,20),(1,21))]) 5 (gg g1 (kk 1 (oe Zd.enc x0.conf.masters (rr (Yzp Zn) (rr (Z9f Zw) (kk 3 (Zi.so x0.model (rr (Yc4 Z6) (Za.sc {x0 with addr:=Zh.z0} (Za.sc Za.z0 ee)))))))))) (Zzy h)
theorem Yqr {x0:Za} {x1:Zf} {r:Za} (h:Zr0 x0 x1=some r):Zu Tryz.prog Mo (Zbp x0 x1 r):=
 Zr Tryz.func152 (itK h (λg1 h=>rtK h (gg g1 (kk 8 (Za.so x0 ee)))) λg1 h=>bnK h λa0 Zz h=>bnK h λa1 Yv h=>bnK h λr3 Y2 h=>bnK h λr4 Qh h=>bnK h λr5 hr5 h=>have p1 {q p} (k:Scr q p):=(gg g1 (xd Zb.enc Zz (xb Zg.enc Yv (rr (Zpu Y2) (rr (Z3j Qh) (rr (Yw5 hr5) k))))));itK h (λg2 h=>Zj ([((1,1),(1,0))]++Za.ff 2 0 0++[((1,10),(1,1024)),((1,11),(1,2048)),((1,20),(2,2048)),((1,21),(5,6144)),((1,22),(6,4096))]) 25 (p1 (gg g2 (kk 2 (Za.sc {x0 with addr:=Zh.z0} ee)))) (Z0c h)) λg2 h=>Zj ([((1,1),(1,0))]++Za.ff 2 0 0++[((1,10),(1,1024)),((1,11),(1,2048)),((1,20),(2,2048)),((1,21),(5,6144)),((1,22),(6,4096))]) 25 (p1 (gg g2 (kk 2 (Za.sc {x0 with addr:=Zh.z0} ee)))) (Z0c h))
abbrev Yoe (x0:Zb) (r:Bool):Y:=(207,[.agg (Zb.enc x0)],bl r,[.undef])
theorem Zz6 {x0:Zb} {r:Bool} (h:Znz x0=some r):Zu Tryz.prog Mo (Yoe x0 r):=
 Zr Tryz.func207 (bnK h λr0 Zn h=>itK h (λg1 h=>bnK h λr1 Zw h=>rtK h (rr (J9 Zn) (gg g1 (kk 3 (rr (Ze5 Zw) (kk 2 ee)))))) λg1 h=>rtK h (rr (J9 Zn) (gg g1 (kk 5 ee))))
abbrev Z4i (x0:Zc) (x1:Zd) (r:Zc×Bool):Y:=(208,[.agg (Zc.enc x0),.agg (Zd.enc x1)],.tup [.agg (Zc.enc r.1),bl r.2],[.undef,.undef])
theorem Zn0 {x0:Zc} {x1:Zd} {r:Zc×Bool} {v0:Bool} (h:Zc4 x0 x1 v0=some r):CS (Z4i x0 x1 r) Tryz.f208 [1,0,1] [(2,.ptr (1,1) 0 0),(4,.ptr (1,2) 0 0),(19,bl v0)] [bx 1 (Zc.enc x0),bx 2 (Zc.enc Zc.z0)]:=
 itK h (λg1 h=>rtK h (gg g1 ee)) λg1 h=>rtK h (gg g1 ee)
theorem Yku {x0:Zc} {x1:Zd} {r:Zc×Bool} (h:Zox x0 x1=some r):Zu Tryz.prog Mo (Z4i x0 x1 r):=
 Zr Tryz.func208 (itK h (λg1 h=>Zj [((1,1),(1,0)),((1,2),(1,2048))] 5 (gg g1 (kk 8 ee)) (Zn0 h)) λg1 h=>bnK h λr0 Zn h=>itK h (λg2 h=>Zj [((1,1),(1,0)),((1,2),(1,2048))] 5 (gg g1 (kk 2 (rr (Znt Zn) (kk 2 (gg g2 (kk 3 ee)))))) (Zn0 h)) λg2 h=>Zj [((1,1),(1,0)),((1,2),(1,2048))] 5 (gg g1 (kk 2 (rr (Znt Zn) (kk 2 (gg g2 (kk 3 ee)))))) (Zn0 h))
abbrev Z9v (x0:Zb) (r:Zb×Bool):Y:=(210,[.agg (Zb.enc x0)],.tup [.agg [.own 104 (r.1.queue.map Zg.enc),il r.1.beat,il r.1.done,il r.1.tries,bl r.1.parted,bl r.1.broken],bl r.2],[.undef])
theorem Z0d {x0:Zb} {r:Zb×Bool} {vb0:Zb} {v0:Bool} (h:Zkb x0 vb0 v0=some r):CS (Z9v x0 r) Tryz.f210 [1,1,0,1] [(2,.ptr (1,1) 0 0),(4,.ptr (1,3) 0 0),(17,bl v0)] [rx 2 104 ([].map Zg.enc),bx 1 [.sl (1,2) 0 ([].map Zg.enc).length,il 0,il 0,il 0,bl false,bl false],rx 4 104 (vb0.queue.map Zg.enc),bx 3 [.sl (1,4) 0 (vb0.queue.map Zg.enc).length,il vb0.beat,il vb0.done,il vb0.tries,bl vb0.parted,bl vb0.broken]]:=
 itK h (λg1 h=>rtK h (gg g1 (kk 1 (oe Zg.enc vb0.queue ee)))) λg1 h=>rtK h (gg g1 (kk 1 (oe Zg.enc vb0.queue ee)))
theorem Yps {x0:Zb} {r:Zb×Bool} (h:Zsh x0=some r):Zu Tryz.prog Mo (Z9v x0 r):=
 Zr Tryz.func210 (bnK h λr0 Zn h=>bnK h λr1 Zw h=>itK h (λg1 h=>Zj [((1,1),(1,1024)),((1,3),(2,2048)),((1,4),(2,1024))] 7 (rr (Zee Zn) (rr (Zz6 Zw) (gg g1 (kk 6 (ln Zg.enc r0.queue ee))))) (Z0d h)) λg1 h=>Zj [((1,1),(1,1024)),((1,3),(2,2048)),((1,4),(2,1024))] 7 (rr (Zee Zn) (rr (Zz6 Zw) (gg g1 (kk 6 (ln Zg.enc r0.queue ee))))) (Z0d h))
abbrev Zvu (x0:Z2) (x1:Zk) (x2:List Bool) (r:Z2×Int):Y:=(209,[.agg (Z2.enc x0),.agg (Zk.enc x1),.tr (x2.map Z9)],.tup [.agg (Z2.enc r.1),il r.2],[.undef,.undef,.undef])
theorem Yim {x0:Z2} {x1:Zk} {x2:List Bool} {r:Z2×Int}:∀{m:Nat} {v0:Int},Zl9 x0 x1 x2 m v0=some r->CS (Zvu x0 x1 x2 r) Tryz.f209 [1,1,1,0,1,0] [(2,.tr (x2.map Z9)),(3,.ptr (1,1) 0 0),(4,.ptr (1,2) 0 0),(6,.ptr (1,3) 0 0),(8,il v0)] [bx 1 (Z2.enc x0),bx 2 (Zk.enc x1),bx 3 (Z2.enc Z2.z0)]:=by
 intro m
 induction m with
 | zero=>intro v0 h;cases h
 | succ m ih=>exactλ{v0} h=>itK h (λg1 h=>bnK h λn0 hn0 h=>bnK h λa0 Zz h=>have p1 {q p} (k:Scr q p):=(lr Z9 x2 (gg g1 (lr Z9 x2 (tp (.obl) (ob (nz0 hn0) (xb Z9 Zz k))))));itK h (λg2 h=>bnK h λr0 Zn h=>rtK h (p1 (gg g2 (rr (Z5s Zn) ee)))) λg2 h=>Zj (ffi 1 3) 16 (p1 (gg g2 ee)) (ih h)) λg1 h=>rtK h (lr Z9 x2 (gg g1 ee))
theorem Z14 {x0:Z2} {x1:Zk} {x2:List Bool} {r:Z2×Int} {v1:Bool} (h:Zl6 x0 x1 x2 v1=some r):CS (Zvu x0 x1 x2 r) Tryz.f209 [1,1,0,1] [(2,.tr (x2.map Z9)),(3,.ptr (1,1) 0 0),(4,.ptr (1,2) 0 0),(6,.ptr (1,3) 0 0),(32,bl v1)] [bx 1 (Z2.enc x0),bx 2 (Zk.enc x1),bx 3 (Z2.enc Z2.z0)]:=
 itK h (λg1 h=>rtK h (gg g1 ee)) λg1 h=>Zj (ffi 1 3) 6 (gg g1 ee) (Yim h)
theorem Z2b {x0:Z2} {x1:Zk} {x2:List Bool} {r:Z2×Int} {v2:Bool} (h:Zlr x0 x1 x2 v2=some r):CS (Zvu x0 x1 x2 r) Tryz.f209 [1,0,1] [(2,.tr (x2.map Z9)),(3,.ptr (1,1) 0 0),(4,.ptr (1,2) 0 0),(6,.ptr (1,3) 0 0),(21,bl v2)] [bx 1 (Z2.enc x0),bx 2 (Zk.enc x1),bx 3 (Z2.enc Z2.z0)]:=
 itK h (λg1 h=>rtK h (gg g1 ee)) λg1 h=>itK h (λg2 h=>bnK h λa1 Yv h=>Zj (ffi 1 3) 5 (gg g1 (gg g2 (kk 3 (xb Z9 Yv (kk 2 ee))))) (Z14 h)) λg2 h=>Zj (ffi 1 3) 5 (gg g1 (gg g2 (kk 5 ee))) (Z14 h)
theorem Yug {x0:Z2} {x1:Zk} {x2:List Bool} {r:Z2×Int} (h:Zwb x0 x1 x2=some r):Zu Tryz.prog Mo (Zvu x0 x1 x2 r):=
 Zr Tryz.func209 (bnK h λr1 Zw h=>itK h (λg1 h=>Zj [((1,1),(1,0)),((1,2),(1,1024)),((1,3),(1,2048))] 5 (rr (Zxc Zw) (gg g1 (kk 6 ee))) (Z2b h)) λg1 h=>Zj [((1,1),(1,0)),((1,2),(1,1024)),((1,3),(1,2048))] 5 (rr (Zxc Zw) (gg g1 (kk 1 (lr Z9 x2 (kk 3 (lr Zd.enc x1.masters (kk 2 ee))))))) (Z2b h))
abbrev Qq (x0:Za) (r:Za):Y:=(151,[.agg (Za.ow x0)],.agg (Za.ow r),[.undef])
theorem Zzf {x0:Za} {r:Za} {k_L2:Za->Zh->(List Bool)->Int->Option Za} (i_L2:∀{vb0:Za} {vb1:Zh} {v0:List Bool} {v1:Int},k_L2 vb0 vb1 v0 v1=some r->CS (Qq x0 r) Tryz.f151 [1,1,1,1,1,0,1,0] [(1,.ptr (1,1) 0 0),(2,.ptr (1,10) 0 0),(3,.sl (1,20) 0 (v0.map Z9).length),(5,.ptr (1,19) 0 0),(6,il v1)] (Za.bk vb0 2++[bx 1 (Za.rl vb0 2)]++Za.bk Za.z0 11++[bx 10 (Za.rl Za.z0 11),bx 19 (Zh.enc vb1),rx 20 4 (v0.map Z9)])) {vb0:Za} {vb1:Zh} {v0:List Bool} {v1:Int} {v2:Bool} (h:Zkc x0 k_L2 vb0 vb1 v0 v1 v2=some r):CS (Qq x0 r) Tryz.f151 [1,1,1,1,1,0,1,0,0,1,0,0,1] [(1,.ptr (1,1) 0 0),(2,.ptr (1,10) 0 0),(3,.sl (1,20) 0 (v0.map Z9).length),(5,.ptr (1,19) 0 0),(6,il v1),(84,bl v2)] (Za.bk vb0 2++[bx 1 (Za.rl vb0 2)]++Za.bk Za.z0 11++[bx 10 (Za.rl Za.z0 11),bx 19 (Zh.enc vb1),rx 20 4 (v0.map Z9)]):=
 itK h (λg1 h=>bnK h λa0 Zz h=>bnK h λa1 Yv h=>bnK h λr0 Zn h=>bnK h λy0 Wb h=>Zj (ffi 1 20) 6 (gg g1 (xd Zc.enc Zz (xd Zd.enc Yv (rr (Yku Zn) (xp Zc.enc Zz Wb (ln Z9 v0 (tq (Za.nm {vb0 with buckets:=y0}) (oe Zd.enc vb0.conf.masters (oe Zb.enc vb0.m (ob (Qm Zc.enc Wb) (oe Ze vb0.splits (Zi.so vb0.model (oe Zm.enc vb0.log (Za.sc Za.z0 ee)))))))))))))) (i_L2 h)) λg1 h=>Zj (ffi 1 20) 4 (gg g1 (ln Z9 v0 (Za.sc vb0 (Za.sc Za.z0 ee)))) (i_L2 h)
theorem Zxx {x0:Za} {r:Za} {vb0:Za} {vb1:Zh} {vb2:Zb} (h:Zh3 x0 vb0 vb1 vb2=some r):CS (Qq x0 r) Tryz.f151 [1,1,1,1,1,1,1,1,1,1,1,1,1] [(1,.ptr (1,1) 0 0),(2,.ptr (1,10) 0 0),(5,.ptr (1,19) 0 0),(7,.ptr (1,20) 0 0)] (Za.bk vb0 2++[bx 1 (Za.rl vb0 2)]++Za.bk Za.z0 11++[bx 10 (Za.rl Za.z0 11),bx 19 (Zh.enc vb1),bx 20 (Zb.enc vb2)]):=
 bnK h λr1 Zw h=>bnK h λa2 Kv h=>bnK h λy1 hy1 h=>rtK h (rr (Yps Zw) (xq Zb.enc Kv y1 (kk 9 (oe Zg.enc r1.1.queue (ob (Zu5 Zb.enc hy1) (oe Zd.enc vb0.conf.masters (ob (Qm Zb.enc hy1) (oe Zc.enc vb0.buckets (oe Ze vb0.splits (Zi.so vb0.model (oe Zm.enc vb0.log ee)))))))))))
theorem Zpk {x0:Za} {r:Za} {vb0:Za} {vb1:Zh} {vb2:Zb} {v3:Bool} (h:Zdu x0 vb0 vb1 vb2 v3=some r):CS (Qq x0 r) Tryz.f151 [1,1,1,1,1,1,1,1,1,1,1,1,0,1] [(1,.ptr (1,1) 0 0),(2,.ptr (1,10) 0 0),(5,.ptr (1,19) 0 0),(7,.ptr (1,20) 0 0),(165,bl v3)] (Za.bk vb0 2++[bx 1 (Za.rl vb0 2)]++Za.bk Za.z0 11++[bx 10 (Za.rl Za.z0 11),bx 19 (Zh.enc vb1),bx 20 (Zb.enc vb2)]):=
 itK h (λg1 h=>Zj (ffi 1 20) 4 (gg g1 (Za.sc {vb0 with holder:=vb1.who,held:=0} (Za.sc Za.z0 ee))) (Zxx h)) λg1 h=>Zj (ffi 1 20) 2 (gg g1 (Za.sc vb0 (Za.sc Za.z0 ee))) (Zxx h)
theorem Zzh {x0:Za} {r:Za} {vb0:Za} {vb1:Zh} {vb2:Zb} (h:Zfb x0 vb0 vb1 vb2=some r):CS (Qq x0 r) Tryz.f151 [1,1,1,1,1,1,1,1,1,1,1,1] [(1,.ptr (1,1) 0 0),(2,.ptr (1,10) 0 0),(5,.ptr (1,19) 0 0),(7,.ptr (1,20) 0 0)] (Za.bk vb0 2++[bx 1 (Za.rl vb0 2)]++Za.bk Za.z0 11++[bx 10 (Za.rl Za.z0 11),bx 19 (Zh.enc vb1),bx 20 (Zb.enc vb2)]):=
 bnK h λa3 ha3 h=>itK h (λg1 h=>itK h (λg2 h=>Zj (ffi 1 20) 3 (xb Zg.enc ha3 (gg g1 (kk 3 (gg g2 (kk 3 (Za.sc vb0 (Za.sc Za.z0 ee))))))) (Zpk h)) λg2 h=>Zj (ffi 1 20) 3 (xb Zg.enc ha3 (gg g1 (kk 3 (gg g2 (kk 3 (Za.sc vb0 (Za.sc Za.z0 ee))))))) (Zpk h)) λg1 h=>Zj (ffi 1 20) 3 (xb Zg.enc ha3 (gg g1 (kk 7 (Za.sc vb0 (Za.sc Za.z0 ee))))) (Zpk h)
theorem Z0u {x0:Za} {r:Za} {vb0:Za} {vb1:Zh} (h:Ji x0 vb0 vb1=some r):CS (Qq x0 r) Tryz.f151 [1,1,1,1,1,1,1] [(1,.ptr (1,1) 0 0),(2,.ptr (1,10) 0 0),(5,.ptr (1,19) 0 0)] (Za.bk vb0 2++[bx 1 (Za.rl vb0 2)]++Za.bk Za.z0 11++[bx 10 (Za.rl Za.z0 11),bx 19 (Zh.enc vb1)]):=
 itK h (λg1 h=>rtK h (gg g1 (kk 8 (Za.so vb0 ee)))) λg1 h=>bnK h λa4 ha4 h=>itK h (λg2 h=>Zj (ffi 1 19++[((1,20),(3,6144))]) 13 (gg g1 (xd Zb.enc ha4 (gg g2 (kk 5 (Za.sc vb0 (Za.sc Za.z0 ee)))))) (Zzh h)) λg2 h=>Zj (ffi 1 19++[((1,20),(3,6144))]) 13 (gg g1 (xd Zb.enc ha4 (gg g2 (kk 5 (Za.sc vb0 (Za.sc Za.z0 ee)))))) (Zzh h)
theorem Z1a {x0:Za} {r:Za} {vb0:Za} {vb1:Zh} {v0:List Bool} {v4:Bool} (h:Zer x0 vb0 vb1 v0 v4=some r):CS (Qq x0 r) Tryz.f151 [1,1,1,1,1,1,0,1] [(1,.ptr (1,1) 0 0),(2,.ptr (1,10) 0 0),(3,.sl (1,20) 0 (v0.map Z9).length),(5,.ptr (1,19) 0 0),(113,bl v4)] (Za.bk vb0 2++[bx 1 (Za.rl vb0 2)]++Za.bk Za.z0 11++[bx 10 (Za.rl Za.z0 11),bx 19 (Zh.enc vb1),rx 20 4 (v0.map Z9)]):=
 itK h (λg1 h=>bnK h λr2 Z6 h=>Zj (ffi 1 19) 4 (gg g1 (kk 2 (oe Zd.enc vb0.conf.masters (oe Z9 v0 (rr (Yug Z6) (Za.sc {vb0 with arb:=r2.1} (Za.sc Za.z0 ee))))))) (Z0u h)) λg1 h=>Zj (ffi 1 19) 2 (gg g1 (Za.sc vb0 (Za.sc Za.z0 ee))) (Z0u h)
theorem Z03 {x0:Za} {r:Za} {k_L2:Za->Zh->(List Bool)->Int->Option Za} (i_L2:∀{vb0:Za} {vb1:Zh} {v0:List Bool} {v1:Int},k_L2 vb0 vb1 v0 v1=some r->CS (Qq x0 r) Tryz.f151 [1,1,1,1,1,0,1,0] [(1,.ptr (1,1) 0 0),(2,.ptr (1,10) 0 0),(3,.sl (1,20) 0 (v0.map Z9).length),(5,.ptr (1,19) 0 0),(6,il v1)] (Za.bk vb0 2++[bx 1 (Za.rl vb0 2)]++Za.bk Za.z0 11++[bx 10 (Za.rl Za.z0 11),bx 19 (Zh.enc vb1),rx 20 4 (v0.map Z9)])) {vb0:Za} {vb1:Zh} {v0:List Bool} {v1:Int} {v5:Bool} (h:Zcq x0 k_L2 vb0 vb1 v0 v1 v5=some r):CS (Qq x0 r) Tryz.f151 [1,1,1,1,1,0,1,0,0,0,1] [(1,.ptr (1,1) 0 0),(2,.ptr (1,10) 0 0),(3,.sl (1,20) 0 (v0.map Z9).length),(5,.ptr (1,19) 0 0),(6,il v1),(69,bl v5)] (Za.bk vb0 2++[bx 1 (Za.rl vb0 2)]++Za.bk Za.z0 11++[bx 10 (Za.rl Za.z0 11),bx 19 (Zh.enc vb1),rx 20 4 (v0.map Z9)]):=
 itK h (λg1 h=>bnK h λa5 ha5 h=>itK h (λg2 h=>bnK h λa6 ha6 h=>Zj (ffi 1 20) 6 (gg g1 (xd Z9 ha5 (gg g2 (kk 3 (tp (.row (v1:Int).toNat (Zc.enc a6)) (kk 2 (tp (.cell (Zc.enc a6)) (kk 2 (tp (.num (v0.map Z9).length 0 0 []) (ob (ixn ha6) (ob (ixl Zc.enc ha6) (ob (ixr Zc.enc ha6) (ob (ixr Zc.enc ha6) (oe Z9 v0 (Za.sc vb0 (Za.sc Za.z0 ee)))))))))))))))) (Zzf i_L2 h)) λg2 h=>Zj (ffi 1 20) 6 (gg g1 (xd Z9 ha5 (gg g2 (kk 7 (ln Z9 v0 (Za.sc vb0 (Za.sc Za.z0 ee))))))) (Zzf i_L2 h)) λg1 h=>itK h (λg2 h=>Zj (ffi 1 20) 8 (gg g1 (gg g2 (kk 3 (ln Z9 v0 (Za.sc vb0 (Za.sc Za.z0 ee)))))) (Z1a h)) λg2 h=>Zj (ffi 1 20) 8 (gg g1 (gg g2 (kk 3 (ln Z9 v0 (Za.sc vb0 (Za.sc Za.z0 ee)))))) (Z1a h)
theorem Yd5 {x0:Za} {r:Za}:∀{m:Nat} {vb0:Za} {vb1:Zh} {v0:List Bool} {v1:Int},Zao x0 m vb0 vb1 v0 v1=some r->CS (Qq x0 r) Tryz.f151 [1,1,1,1,1,0,1,0] [(1,.ptr (1,1) 0 0),(2,.ptr (1,10) 0 0),(3,.sl (1,20) 0 (v0.map Z9).length),(5,.ptr (1,19) 0 0),(6,il v1)] (Za.bk vb0 2++[bx 1 (Za.rl vb0 2)]++Za.bk Za.z0 11++[bx 10 (Za.rl Za.z0 11),bx 19 (Zh.enc vb1),rx 20 4 (v0.map Z9)]):=by
 intro m
 induction m with
 | zero=>intro vb0 vb1 v0 v1 h;cases h
 | succ m ih=>exactλ{vb0} {vb1} {v0} {v1} h=>itK h (λg1 h=>Zj (ffi 1 20) 4 (lr Zb.enc vb0.m (gg g1 (kk 3 (ln Z9 v0 (Za.sc vb0 (Za.sc Za.z0 ee)))))) (Z03 ih h)) λg1 h=>Zj (ffi 1 20) 4 (lr Zb.enc vb0.m (gg g1 (kk 3 (ln Z9 v0 (Za.sc vb0 (Za.sc Za.z0 ee)))))) (Z03 ih h)
theorem Z0p {x0:Za} {r:Za} {vb1:Zh} {v0:List Bool} (h:Zkf x0 vb1 v0=some r):CS (Qq x0 r) Tryz.f151 [1,1,1,1,1] [(1,.ptr (1,1) 0 0),(2,.ptr (1,10) 0 0),(3,.sl (1,20) 0 (v0.map Z9).length),(5,.ptr (1,19) 0 0)] (Za.bk x0 2++[bx 1 (Za.rl x0 2)]++Za.bk Za.z0 11++[bx 10 (Za.rl Za.z0 11),bx 19 (Zh.enc vb1),rx 20 4 (v0.map Z9)]):=
 Zj (ffi 1 20) 4 (ln Z9 v0 (Za.sc x0 (Za.sc Za.z0 ee))) (Yd5 h)
theorem Z06 {x0:Za} {r:Za} {v0:List Bool} {v6:Bool} (h:Zj2 x0 v0 v6=some r):CS (Qq x0 r) Tryz.f151 [1,1,1,1,0,1] [(1,.ptr (1,1) 0 0),(2,.ptr (1,10) 0 0),(3,.sl (1,20) 0 (v0.map Z9).length),(5,.ptr (1,19) 0 0),(56,bl v6)] (Za.bk x0 2++[bx 1 (Za.rl x0 2)]++Za.bk Za.z0 11++[bx 10 (Za.rl Za.z0 11),bx 19 (Zh.enc (Zh.mk false (-1) 0 false 0 0 0 false)),rx 20 4 (v0.map Z9)]):=
 itK h (λg1 h=>Zj (ffi 1 20) 2 (gg g1 (ln Z9 v0 (Za.sc x0 (Za.sc Za.z0 ee)))) (Z0p h)) λg1 h=>Zj (ffi 1 20) 2 (gg g1 (ln Z9 v0 (Za.sc x0 (Za.sc Za.z0 ee)))) (Z0p h)
theorem Ye3 {x0:Za} {r:Za}:∀{m:Nat} {v0:List Bool} {v7:Int},Zjo x0 m v0 v7=some r->CS (Qq x0 r) Tryz.f151 [1,1,0,1,0] [(1,.ptr (1,1) 0 0),(2,.ptr (1,10) 0 0),(3,.sl (1,19) 0 (v0.map Z9).length),(4,il v7)] (Za.bk x0 2++[bx 1 (Za.rl x0 2)]++Za.bk Za.z0 11++[bx 10 (Za.rl Za.z0 11),rx 19 4 (v0.map Z9)]):=by
 intro m
 induction m with
 | zero=>intro v0 v7 h;cases h
 | succ m ih=>exactλ{v0} {v7} h=>have p1 {q p} (k:Scr q p):=(lr Zb.enc x0.m k);itK h (λg1 h=>bnK h λa7 ha7 h=>bnK h λr3 Y2 h=>have p2 {q p} (k:Scr q p):=(p1 (gg g1 (xd Zb.enc ha7 (rr (Zz6 Y2) k))));itK h (λg2 h=>bnK h λa8 ha8 h=>have p3 {q p} (k:Scr q p):=(p2 (gg g2 (kk 3 (tp (.row (v7:Int).toNat (Ze a8)) (kk 1 (tp (.cell (Ze a8)) (kk 2 k)))))));itK h (λg3 h=>itK h (λg4 h=>bnK h λz0 W3 h=>Zj (ffi 1 18++[((1,19),(3,27648))]) 11 (p3 (tp (.t true) (kk 3 (tp (.t true) (kk 6 (ta Z9 [true] z0 (kk 1 (tp (.num (z0.map Z9).length 0 0 []) (ob (ixn ha8) (ob (ixl Ze ha8) (ob (ixr Ze ha8) (ob (ixr Ze ha8) (ob g3 (ob g4 (oa 1 Znd true (ox Z9 W3 (oe Z9 z0 (oe Z9 z0 (Za.sc x0 (Za.sc Za.z0 ee)))))))))))))))))))) (ih h)) λg4 h=>bnK h λz0 W3 h=>Zj (ffi 1 18++[((1,19),(3,27648))]) 11 (p3 (tp (.t true) (kk 3 (tp (.t false) (kk 6 (ta Z9 [decide (x0.holder=v7)] z0 (kk 1 (tp (.num (z0.map Z9).length 0 0 []) (ob (ixn ha8) (ob (ixl Ze ha8) (ob (ixr Ze ha8) (ob (ixr Ze ha8) (ob g3 (ob g4 (oa 1 Znd (decide (x0.holder=v7)) (ox Z9 W3 (oe Z9 z0 (oe Z9 z0 (Za.sc x0 (Za.sc Za.z0 ee)))))))))))))))))))) (ih h)) λg3 h=>bnK h λz0 W3 h=>Zj (ffi 1 18++[((1,19),(3,27648))]) 11 (p3 (tp (.t false) (kk 5 (ta Z9 [false] z0 (kk 1 (tp (.num (z0.map Z9).length 0 0 []) (ob (ixn ha8) (ob (ixl Ze ha8) (ob (ixr Ze ha8) (ob (ixr Ze ha8) (ob g3 (oa 1 Znd false (ox Z9 W3 (oe Z9 z0 (oe Z9 z0 (Za.sc x0 (Za.sc Za.z0 ee))))))))))))))))) (ih h)) λg2 h=>bnK h λz0 W3 h=>Zj (ffi 1 18++[((1,19),(3,27648))]) 11 (p2 (gg g2 (kk 12 (ta Z9 [false] z0 (kk 1 (oa 1 Znd false (ox Z9 W3 (ln Z9 z0 (oe Z9 z0 (Za.sc x0 (Za.sc Za.z0 ee))))))))))) (ih h)) λg1 h=>itK h (λg2 h=>bnK h λa9 ha9 h=>Zj (ffi 1 18++[((1,19),(3,1024)),((1,20),(1,19))]) 14 (p1 (gg g1 (gg g2 (kk 3 (tp (.row (x0.holder:Int).toNat (Z9 a9)) (kk 1 (tp (.cell (Z9 a9)) (kk 1 (tp (.num (v0.map Z9).length 0 0 []) (ob (ixn ha9) (ob (ixl Z9 ha9) (ob (ixr Z9 ha9) (ob (ixr Z9 ha9) (oe Z9 v0 (Za.sc x0 (Za.sc Za.z0 ee)))))))))))))))) (Z06 h)) λg2 h=>Zj (ffi 1 18++[((1,19),(3,1024)),((1,20),(1,19))]) 14 (p1 (gg g1 (gg g2 (kk 5 (ln Z9 v0 (Za.sc x0 (Za.sc Za.z0 ee))))))) (Z06 h)
theorem Yqa {x0:Za} {r:Za} (h:Zsa x0=some r):Zu Tryz.prog Mo (Qq x0 r):=
 Zr Tryz.func151 (Zj ([((1,1),(1,0))]++Za.ff 2 0 0++[((1,10),(1,1024)),((1,19),(2,0))]) 8 (tp (.num ([].map Z9).length 0 0 []) (ob (show 0=([].map Z9).length from rfl) (Za.sc x0 ee))) (Ye3 h))
abbrev Za9 (x0:Za) (x1:Zf) (r:Za×Zt):Y:=(88,[.agg (Za.enc x0),.agg (Zf.enc x1)],.tup [.agg (Za.ow r.1),.agg (Zt.enc r.2)],[.undef,.undef])
theorem Zsg {x0:Za} {x1:Zf} {r:Za×Zt} {vb0:Za} {vb1:Zt} (h:Zdh x0 x1 vb0 vb1=some r):CS (Za9 x0 x1 r) Tryz.f88 [1,1,1,1,1,1,1,1,1] [(2,.ptr (1,1) 0 0),(4,.ptr (1,10) 0 0),(5,.ptr (1,19) 0 0),(6,.ptr (1,20) 0 0)] (Za.bk vb0 2++[bx 1 (Za.rl vb0 2)]++Za.bk Za.z0 11++[bx 10 (Za.rl Za.z0 11),bx 19 (Zt.enc Zt.z0),bx 20 (Zt.enc vb1)]):=
 rtK h (kk 8 (Za.so vb0 ee))
theorem Z2r {x0:Za} {x1:Zf} {r:Za×Zt} {vb0:Za} {vb2:Zt} (h:Zdj x0 x1 vb0 vb2=some r):CS (Za9 x0 x1 r) Tryz.f88 [1,1,1,1,1,1,1,1,0,1,0,1] [(2,.ptr (1,1) 0 0),(3,.ptr (1,10) 0 0),(4,.ptr (1,11) 0 0),(5,.ptr (1,20) 0 0),(6,.ptr (1,21) 0 0)] (Za.bk vb0 2++[bx 1 (Za.rl vb0 2),bx 10 (Zf.enc x1)]++Za.bk Za.z0 12++[bx 11 (Za.rl Za.z0 12),bx 20 (Zt.enc Zt.z0),bx 21 (Zt.enc vb2)]):=
 bnK h λr0 Zn h=>bnK h λr1 Zw h=>have p1 {q p} (k:Scr q p):=(kk 8 (Za.so vb0 (rr (Yqr Zn) (kk 8 (Za.so r0 (rr (Yqa Zw) k))))));itK h (λg1 h=>Zj ([((1,1),(1,1))]++Za.ff 2 2 3072++[((1,10),(1,11)),((1,11),(1,12)),((1,12),(1,13)),((1,13),(1,14)),((1,14),(1,15)),((1,15),(1,16)),((1,16),(1,17)),((1,17),(1,18)),((1,18),(1,19)),((1,19),(1,20)),((1,20),(1,21))]) 6 (p1 (gg g1 (Za.sc r1 (Za.sc Za.z0 ee)))) (Zsg h)) λg1 h=>Zj ([((1,1),(1,1))]++Za.ff 2 2 3072++[((1,10),(1,11)),((1,11),(1,12)),((1,12),(1,13)),((1,13),(1,14)),((1,14),(1,15)),((1,15),(1,16)),((1,16),(1,17)),((1,17),(1,18)),((1,18),(1,19)),((1,19),(1,20)),((1,20),(1,21))]) 6 (p1 (gg g1 (Za.sc r1 (Za.sc Za.z0 ee)))) (Zsg h)
theorem Z1w {x0:Za} {x1:Zf} {r:Za×Zt} {vb0:Za} {vb2:Zt} {v0:Bool} (h:J4 x0 x1 vb0 vb2 v0=some r):CS (Za9 x0 x1 r) Tryz.f88 [1,1,1,1,1,1,1,1,0,1,0,0,1] [(2,.ptr (1,1) 0 0),(3,.ptr (1,10) 0 0),(4,.ptr (1,11) 0 0),(5,.ptr (1,20) 0 0),(6,.ptr (1,21) 0 0),(182,bl v0)] (Za.bk vb0 2++[bx 1 (Za.rl vb0 2),bx 10 (Zf.enc x1)]++Za.bk Za.z0 12++[bx 11 (Za.rl Za.z0 12),bx 20 (Zt.enc Zt.z0),bx 21 (Zt.enc vb2)]):=
 itK h (λg1 h=>bnK h λa0 Zz h=>bnK h λy0 Wb h=>Zj (ffi 1 21) 6 (gg g1 (xp Zb.enc Zz Wb (tq (Za.nm {vb0 with m:=y0,holder:=(-1),held:=0}) (oe Zd.enc vb0.conf.masters (ob (Qm Zb.enc Wb) (oe Zc.enc vb0.buckets (oe Ze vb0.splits (Zi.so vb0.model (oe Zm.enc vb0.log (Za.sc Za.z0 ee)))))))))) (Z2r h)) λg1 h=>Zj (ffi 1 21) 2 (gg g1 (Za.sc vb0 (Za.sc Za.z0 ee))) (Z2r h)
theorem Zgh {x0:Za} {x1:Zf} {r:Za×Zt} {vb0:Za} {vb2:Zt} (h:Q8 x0 x1 vb0 vb2=some r):CS (Za9 x0 x1 r) Tryz.f88 [1,1,1,1,1,1,1,1] [(2,.ptr (1,1) 0 0),(3,.ptr (1,10) 0 0),(4,.ptr (1,11) 0 0),(5,.ptr (1,20) 0 0),(6,.ptr (1,21) 0 0)] (Za.bk vb0 2++[bx 1 (Za.rl vb0 2),bx 10 (Zf.enc x1)]++Za.bk Za.z0 12++[bx 11 (Za.rl Za.z0 12),bx 20 (Zt.enc Zt.z0),bx 21 (Zt.enc vb2)]):=
 itK h (λg1 h=>itK h (λg2 h=>Zj (ffi 1 21) 7 (gg g1 (gg g2 (kk 6 (Za.sc vb0 (Za.sc Za.z0 ee))))) (Z1w h)) λg2 h=>Zj (ffi 1 21) 7 (gg g1 (gg g2 (kk 6 (Za.sc vb0 (Za.sc Za.z0 ee))))) (Z1w h)) λg1 h=>Zj (ffi 1 9++[((1,10),(1,11)),((1,11),(1,12)),((1,12),(1,13)),((1,13),(1,14)),((1,14),(1,15)),((1,15),(1,16)),((1,16),(1,17)),((1,17),(1,18)),((1,18),(1,19)),((1,19),(1,20)),((1,20),(1,21))]) 5 (gg g1 (Za.sc vb0 (Za.sc Za.z0 ee))) (Zsg h)
theorem Ztu {x0:Za} {x1:Zf} {r:Za×Zt} {vb0:Za} {vb2:Zt} {v1:Bool} (h:J2 x0 x1 vb0 vb2 v1=some r):CS (Za9 x0 x1 r) Tryz.f88 [1,1,1,1,1,1,1,0,0,1,1,1] [(2,.ptr (1,1) 0 0),(3,.ptr (1,10) 0 0),(4,.ptr (1,11) 0 0),(5,.ptr (1,20) 0 0),(6,.ptr (1,21) 0 0),(126,bl v1)] (Za.bk vb0 2++[bx 1 (Za.rl vb0 2),bx 10 (Zf.enc x1)]++Za.bk Za.z0 12++[bx 11 (Za.rl Za.z0 12),bx 20 (Zt.enc Zt.z0),bx 21 (Zt.enc vb2)]):=
 itK h (λg1 h=>itK h (λg2 h=>bnK h λr2 Z6 h=>Zj ([((1,1),(1,1))]++Za.ff 2 8 2048++ffi 10 12) 16 (gg g1 (gg g2 (kk 8 (Za.so vb0 (rr (Z31 Z6) (Za.sc r2 (Za.sc Za.z0 ee))))))) (Zgh h)) λg2 h=>Zj (ffi 1 21) 12 (gg g1 (gg g2 (Za.sc {vb0 with data_:={vb0.data_ with second:=true}} (Za.sc Za.z0 ee)))) (Zgh h)) λg1 h=>itK h (λg2 h=>bnK h λr3 Y2 h=>Zj ([((1,1),(1,1))]++Za.ff 2 4 2048++ffi 10 12) 8 (gg g1 (gg g2 (kk 8 (Za.so vb0 (rr (Ymz Y2) (Za.sc r3 (Za.sc Za.z0 ee))))))) (Zgh h)) λg2 h=>Zj (ffi 1 21) 6 (gg g1 (gg g2 (Za.sc vb0 (Za.sc Za.z0 ee)))) (Zgh h)
theorem Z1u {x0:Za} {x1:Zf} {r:Za×Zt} {vb0:Za} {vb2:Zt} {v2:Bool} (h:Zla x0 x1 vb0 vb2 v2=some r):CS (Za9 x0 x1 r) Tryz.f88 [1,1,1,1,1,1,1,0,0,1] [(2,.ptr (1,1) 0 0),(3,.ptr (1,10) 0 0),(4,.ptr (1,11) 0 0),(5,.ptr (1,20) 0 0),(6,.ptr (1,21) 0 0),(109,bl v2)] (Za.bk vb0 2++[bx 1 (Za.rl vb0 2),bx 10 (Zf.enc x1)]++Za.bk Za.z0 12++[bx 11 (Za.rl Za.z0 12),bx 20 (Zt.enc Zt.z0),bx 21 (Zt.enc vb2)]):=
 itK h (λg1 h=>Zj (ffi 1 21) 5 (gg g1 (Za.sc {vb0 with data_:={vb0.data_ with left:=(Y8 vb0.data_.left 1)}} (Za.sc Za.z0 ee))) (Zgh h)) λg1 h=>itK h (λg2 h=>itK h (λg3 h=>Zj (ffi 1 21) 3 (gg g1 (gg g2 (kk 4 (gg g3 (kk 4 (Za.sc vb0 (Za.sc Za.z0 ee))))))) (Ztu h)) λg3 h=>Zj (ffi 1 21) 3 (gg g1 (gg g2 (kk 4 (gg g3 (kk 4 (Za.sc vb0 (Za.sc Za.z0 ee))))))) (Ztu h)) λg2 h=>Zj (ffi 1 21) 3 (gg g1 (gg g2 (kk 9 (Za.sc vb0 (Za.sc Za.z0 ee))))) (Ztu h)
theorem Z2p {x0:Za} {x1:Zf} {r:Za×Zt} {vb0:Za} {vb2:Zt} (h:J6 x0 x1 vb0 vb2=some r):CS (Za9 x0 x1 r) Tryz.f88 [1,1,1,1,1,1,1] [(2,.ptr (1,1) 0 0),(3,.ptr (1,10) 0 0),(4,.ptr (1,11) 0 0),(5,.ptr (1,20) 0 0),(6,.ptr (1,21) 0 0)] (Za.bk vb0 2++[bx 1 (Za.rl vb0 2),bx 10 (Zf.enc x1)]++Za.bk Za.z0 12++[bx 11 (Za.rl Za.z0 12),bx 20 (Zt.enc Zt.z0),bx 21 (Zt.enc vb2)]):=
 itK h (λg1 h=>Zj (ffi 1 21) 4 (gg g1 (kk 4 (Za.sc vb0 (Za.sc Za.z0 ee)))) (Z1u h)) λg1 h=>Zj (ffi 1 21) 4 (gg g1 (kk 4 (Za.sc vb0 (Za.sc Za.z0 ee)))) (Z1u h)
theorem Ygc {x0:Za} {x1:Zf} {r:Za×Zt}:∀{m:Nat} {vb0:Za} {vb2:Zt} {v3:Int},Zbd x0 x1 m vb0 vb2 v3=some r->CS (Za9 x0 x1 r) Tryz.f88 [1,1,1,1,1,0,1,0] [(2,.ptr (1,1) 0 0),(3,.ptr (1,10) 0 0),(4,.ptr (1,11) 0 0),(5,.ptr (1,20) 0 0),(6,.ptr (1,21) 0 0),(11,il v3)] (Za.bk vb0 2++[bx 1 (Za.rl vb0 2),bx 10 (Zf.enc x1)]++Za.bk Za.z0 12++[bx 11 (Za.rl Za.z0 12),bx 20 (Zt.enc Zt.z0),bx 21 (Zt.enc vb2)]):=by
 intro m
 induction m with
 | zero=>intro vb0 vb2 v3 h;cases h
 | succ m ih=>exactλ{vb0} {vb2} {v3} h=>itK h (λg1 h=>bnK h λa1 Yv h=>bnK h λy1 hy1 h=>bnK h λa2 Kv h=>bnK h λa3 ha3 h=>bnK h λr4 Qh h=>bnK h λy2 hy2 h=>Zj (ffi 1 21) 13 (lr Zb.enc vb0.m (gg g1 (xd Ze Yv (xp Ze Yv hy1 (xd Zc.enc Kv (xd Zd.enc ha3 (rr (Yjb Qh) (xp Zc.enc Kv hy2 (tq (Za.nm {vb0 with buckets:=y2,splits:=y1}) (oe Zd.enc vb0.conf.masters (oe Zb.enc vb0.m (ob (Qm Zc.enc hy2) (ob (Qm Ze hy1) (Zi.so vb0.model (oe Zm.enc vb0.log (Za.sc Za.z0 ee)))))))))))))))) (ih h)) λg1 h=>itK h (λg2 h=>Zj (ffi 1 21) 14 (lr Zb.enc vb0.m (gg g1 (gg g2 (Za.sc {vb0 with held:=(Zje vb0.conf.lockMost (Zs vb0.held 1))} (Za.sc Za.z0 ee))))) (Z2p h)) λg2 h=>Zj (ffi 1 21) 14 (lr Zb.enc vb0.m (gg g1 (gg g2 (Za.sc vb0 (Za.sc Za.z0 ee))))) (Z2p h)
theorem Yge {x0:Za} {x1:Zf} {r:Za×Zt}:∀{m:Nat} {vb0:Za} {vb2:Zt} {v4:List Zl} {v5:Int},Zf7 x0 x1 m vb0 vb2 v4 v5=some r->CS (Za9 x0 x1 r) Tryz.f88 [1,1,1,1,0,1,0] [(2,.ptr (1,1) 0 0),(3,.ptr (1,10) 0 0),(4,.ptr (1,11) 0 0),(5,.ptr (1,20) 0 0),(6,.ptr (1,21) 0 0),(7,.sl (1,22) 0 (v4.map Zl.enc).length),(8,il v5)] (Za.bk vb0 2++[bx 1 (Za.rl vb0 2),bx 10 (Zf.enc x1)]++Za.bk Za.z0 12++[bx 11 (Za.rl Za.z0 12),bx 20 (Zt.enc Zt.z0),bx 21 (Zt.enc vb2),rx 22 106 (v4.map Zl.enc)]):=by
 intro m
 induction m with
 | zero=>intro vb0 vb2 v4 v5 h;cases h
 | succ m ih=>exactλ{vb0} {vb2} {v4} {v5} h=>itK h (λg1 h=>bnK h λa4 ha4 h=>bnK h λr5 hr5 h=>have p1 {q p} (k:Scr q p):=(lr Zl.enc v4 (gg g1 (xd Zl.enc ha4 (lr Zb.enc vb0.m (rr (Z4 hr5) k)))));itK h (λg2 h=>bnK h λa5 ha5 h=>bnK h λr6 hr6 h=>bnK h λy3 hy3 h=>Zj (ffi 1 22) 16 (p1 (gg g2 (xd Zl.enc ha4 (xd Zb.enc ha5 (xd Zl.enc ha4 (rr (Yuq hr6) (xd Zl.enc ha4 (xq Zb.enc ha5 y3 (kk 1 (oe Zg.enc r6.1.queue (ob (Zu5 Zb.enc hy3) (ln Zl.enc v4 (tq (Za.nm {vb0 with m:=y3}) (oe Zd.enc vb0.conf.masters (ob (Qm Zb.enc hy3) (oe Zc.enc vb0.buckets (oe Ze vb0.splits (Zi.so vb0.model (oe Zm.enc vb0.log (Za.sc Za.z0 ee)))))))))))))))))))) (ih h)) λg2 h=>Zj (ffi 1 22) 14 (p1 (gg g2 (ln Zl.enc v4 (Za.sc vb0 (Za.sc Za.z0 ee))))) (ih h)) λg1 h=>Zj (ffi 1 21) 13 (lr Zl.enc v4 (gg g1 (Za.sc vb0 (Za.sc Za.z0 ee)))) (Ygc h)
theorem Yuo {x0:Za} {x1:Zf} {r:Za×Zt} (h:Zvj x0 x1=some r):Zu Tryz.prog Mo (Za9 x0 x1 r):=
 Zr Tryz.func88 (bnK h λr7 hr7 h=>bnK h λr8 hr8 h=>bnK h λr9 hr9 h=>Zj ([((1,1),(1,0))]++Za.ff 2 2 1024++[((1,10),(1,1024)),((1,11),(1,2048)),((1,20),(1,3072)),((1,21),(3,2048)),((1,22),(4,3072))]) 12 (rr (Z3v hr7) (kk 8 (Za.so r7 (rr (Yso hr8) (rr (Yue hr9) (ln Zl.enc r9 (Za.sc r7 ee))))))) (Yge h))
abbrev Z92 (x0:Zf) (r:Int):Y:=(99,[.agg (Zf.enc x0)],il r,[.undef])
theorem Yfg {x0:Zf} {r:Int}:∀{m:Nat} {v0:Int} {v1:Int},Zj3 x0 m v0 v1=some r->CS (Z92 x0 r) Tryz.f99 [1,1,0,1,0] [(1,.ptr (1,1) 0 0),(3,il v0),(4,il v1)] [bx 1 (Zf.enc x0)]:=by
 intro m
 induction m with
 | zero=>intro v0 v1 h;cases h
 | succ m ih=>exactλ{v0} {v1} h=>itK h (λg1 h=>bnK h λa0 Zz h=>Zj [((1,1),(1,1))] 11 (lr Zl.enc x0.posts (gg g1 (xb Zl.enc Zz ee))) (ih h)) λg1 h=>rtK h (lr Zl.enc x0.posts (gg g1 ee))
theorem Yp8 {x0:Zf} {r:Int} (h:Zse x0=some r):Zu Tryz.prog Mo (Z92 x0 r):=
 Zr Tryz.func99 (Zj [((1,1),(1,0))] 8 ee (Yfg h))
abbrev Zka (x0:Za) (x1:Zf) (r:Za×Int):Y:=(35,[.agg (Za.enc x0),.agg (Zf.enc x1)],.tup [.agg (Za.ow r.1),il r.2],[.undef,.undef])
theorem Zuw {x0:Za} {x1:Zf} {r:Za×Int} {k_L1:Za->Int->Option (Za×Int)} (i_L1:∀{vb0:Za} {v0:Int},k_L1 vb0 v0=some r->CS (Zka x0 x1 r) Tryz.f35 [1,1,1,1,0,0] [(3,.ptr (1,1) 0 0),(4,.ptr (1,2) 0 0),(6,.ptr (1,11) 0 0),(7,il v0)] ([bx 1 (Zf.enc x1)]++Za.bk Za.z0 3++[bx 2 (Za.rl Za.z0 3)]++Za.bk vb0 12++[bx 11 (Za.rl vb0 12)])) {vb0:Za} {v0:Int} {v1:Bool} (h:Zel x0 x1 k_L1 vb0 v0 v1=some r):CS (Zka x0 x1 r) Tryz.f35 [1,1,1,1,0,0,0,0,1] [(3,.ptr (1,1) 0 0),(4,.ptr (1,2) 0 0),(6,.ptr (1,11) 0 0),(7,il v0),(28,bl v1)] ([bx 1 (Zf.enc x1)]++Za.bk Za.z0 3++[bx 2 (Za.rl Za.z0 3)]++Za.bk vb0 12++[bx 11 (Za.rl vb0 12)]):=
 itK h (λg1 h=>bnK h λr0 Zn h=>Zj (ffi 1 11++Za.ff 12 2 2048) 7 (gg g1 (kk 8 (Za.so vb0 (rr (Yuo Zn) (Za.sc Za.z0 (Za.sc r0.1 ee)))))) (i_L1 h)) λg1 h=>rtK h (gg g1 (kk 8 (Za.so vb0 ee)))
theorem Yjy {x0:Za} {x1:Zf} {r:Za×Int}:∀{m:Nat} {vb0:Za} {v0:Int},Zcn x0 x1 m vb0 v0=some r->CS (Zka x0 x1 r) Tryz.f35 [1,1,1,1,0,0] [(3,.ptr (1,1) 0 0),(4,.ptr (1,2) 0 0),(6,.ptr (1,11) 0 0),(7,il v0)] ([bx 1 (Zf.enc x1)]++Za.bk Za.z0 3++[bx 2 (Za.rl Za.z0 3)]++Za.bk vb0 12++[bx 11 (Za.rl vb0 12)]):=by
 intro m
 induction m with
 | zero=>intro vb0 v0 h;cases h
 | succ m ih=>exactλ{vb0} {v0} h=>itK h (λg1 h=>bnK h λr1 Zw h=>itK h (λg2 h=>Zj (ffi 1 19) 4 (gg g1 (kk 9 (Za.so vb0 (rr (Ycr Zw) (kk 2 (gg g2 (kk 7 (Za.sc Za.z0 (Za.sc vb0 ee))))))))) (Zuw ih h)) λg2 h=>bnK h λr2 Z6 h=>Zj (ffi 1 19) 4 (gg g1 (kk 9 (Za.so vb0 (rr (Ycr Zw) (kk 2 (gg g2 (kk 3 (rr (Yp8 Z6) (kk 4 (Za.sc Za.z0 (Za.sc vb0 ee))))))))))) (Zuw ih h)) λg1 h=>Zj (ffi 1 19) 4 (gg g1 (kk 5 (Za.sc Za.z0 (Za.sc vb0 ee)))) (Zuw ih h)
theorem Yyl {x0:Za} {x1:Zf} {r:Za×Int} (h:Zyg x0 x1=some r):Zu Tryz.prog Mo (Zka x0 x1 r):=
 Zr Tryz.func35 (bnK h λr3 Y2 h=>bnK h λr4 Qh h=>itK h (λg1 h=>rtK h (rr (Z3v Y2) (rr (Yl8 Qh) (gg g1 (kk 8 (Za.so r3 ee)))))) λg1 h=>Zj ([((1,1),(1,1024)),((1,2),(1,2048)),((1,11),(2,2048))]++Za.ff 12 2 1024) 13 (rr (Z3v Y2) (rr (Yl8 Qh) (gg g1 (Za.sc r3 ee)))) (Yjy h))
abbrev Yx9 (x0:Int) (x1:Int) (x2:Int) (r:Bool):Y:=(65,[il x0,il x1,il x2],bl r,[.undef,.undef,.undef])
theorem Yi {x0:Int} {x1:Int} {x2:Int} {r:Bool} (h:Yu x0 x1 x2=some r):Zu Tryz.prog Mo (Yx9 x0 x1 x2 r):=
 Zr Tryz.func65 (itK h (λg1 h=>rtK h (gg g1 (kk 3 ee))) λg1 h=>rtK h (gg g1 (kk 3 ee)))
abbrev Ygj (x0:Zk) (r:Int):Y:=(237,[.agg (Zk.enc x0)],il r,[.undef])
theorem Z4p {x0:Zk} {r:Int} {v0:Bool} (h:Zux x0 v0=some r):CS (Ygj x0 r) Tryz.f237 [1,0,1] [(1,.ptr (1,1) 0 0),(12,bl v0)] [bx 1 (Zk.enc x0)]:=
 itK h (λg1 h=>rtK h (gg g1 ee)) λg1 h=>rtK h (gg g1 ee)
theorem Z5a {x0:Zk} {r:Int} (h:Zsd x0=some r):Zu Tryz.prog Mo (Ygj x0 r):=
 Zr Tryz.func237 (bnK h λr0 Zn h=>itK h (λg1 h=>Zj [((1,1),(1,0))] 5 (rr (Yi Zn) (gg g1 (kk 4 ee))) (Z4p h)) λg1 h=>bnK h λr1 Zw h=>Zj [((1,1),(1,0))] 5 (rr (Yi Zn) (gg g1 (kk 2 (rr (Yi Zw) (kk 2 ee))))) (Z4p h))
abbrev Yxx (x0:Zk) (r:Int):Y:=(182,[.agg (Zk.enc x0)],il r,[.undef])
theorem Z63 {x0:Zk} {r:Int} (h:Zs6 x0=some r):Zu Tryz.prog Mo (Yxx x0 r):=
 Zr Tryz.func182 (bnK h λr0 Zn h=>itK h (λg1 h=>rtK h (rr (Z5a Zn) (gg g1 (kk 5 ee)))) λg1 h=>bnK h λr1 Zw h=>have p1 {q p} (k:Scr q p):=(rr (Z5a Zn) (gg g1 (kk 2 (rr (Yi Zw) (kk 2 k)))));itK h (λg2 h=>rtK h (p1 (gg g2 ee))) λg2 h=>bnK h λr2 Z6 h=>rtK h (p1 (gg g2 (rr (Z5a Z6) ee))))
abbrev Yl1 (x0:Zk) (r:Int):Y:=(239,[.agg (Zk.enc x0)],il r,[.undef])
theorem Ymw {x0:Zk} {r:Int}:∀{m:Nat} {v0:Int} {v1:Int},Zqs x0 m v0 v1=some r->CS (Yl1 x0 r) Tryz.f239 [1,1,0,1,0] [(3,il v0),(7,.tr (x0.masters.map Zd.enc)),(8,il (x0.masters.length:Int)),(9,il v1)] []:=by
 intro m
 induction m with
 | zero=>intro v0 v1 h;cases h
 | succ m ih=>exactλ{v0} {v1} h=>itK h (λg1 h=>bnK h λa0 Zz h=>itK h (λg2 h=>Zj [] 16 (gg g1 (xb Zd.enc Zz (gg g2 ee))) (ih h)) λg2 h=>Zj [] 16 (gg g1 (xb Zd.enc Zz (gg g2 ee))) (ih h)) λg1 h=>rtK h (gg g1 ee)
theorem Y0u {x0:Zk} {r:Int} (h:Z1k x0=some r):Zu Tryz.prog Mo (Yl1 x0 r):=
 Zr Tryz.func239 (Zj [] 8 (lr Zd.enc x0.masters ee) (Ymw h))
abbrev Yjn (x0:Zk) (r:Int):Y:=(185,[.agg (Zk.enc x0)],il r,[.undef])
theorem Z4q {x0:Zk} {r:Int} (h:Zn6 x0=some r):Zu Tryz.prog Mo (Yjn x0 r):=
 Zr Tryz.func185 (bnK h λr0 Zn h=>bnK h λr1 Zw h=>rtK h (rr (Z63 Zn) (rr (Y0u Zw) ee)))
abbrev Yod (x0:Zd) (x1:Zk) (r:Bool):Y:=(184,[.agg (Zd.enc x0),.rp true (Zk.enc x1) 0],bl r,[.undef,.undef])
theorem Z8v {x0:Zd} {x1:Zk} {r:Bool} (h:Ztn x0 x1=some r):Zu Tryz.prog Mo (Yod x0 x1 r):=
 Zr Tryz.func184 (bnK h λr0 Zn h=>have p1 {q p} (k:Scr q p):=(rr (Yi Zn) k);itK h (λg1 h=>rtK h (p1 (gg g1 ee))) λg1 h=>itK h (λg2 h=>bnK h λr1 Zw h=>bnK h λr2 Z6 h=>itK h (λg3 h=>rtK h (p1 (gg g1 (gg g2 (rr (Z4q Zw) (rr (Yi Z6) (gg g3 (kk 4 ee)))))))) λg3 h=>bnK h λr3 Y2 h=>rtK h (p1 (gg g1 (gg g2 (rr (Z4q Zw) (rr (Yi Z6) (gg g3 (kk 2 (rr (Yi Y2) (kk 2 ee)))))))))) λg2 h=>itK h (λg3 h=>rtK h (p1 (gg g1 (gg g2 (gg g3 (kk 3 ee)))))) λg3 h=>rtK h (p1 (gg g1 (gg g2 (gg g3 (kk 3 ee))))))
abbrev Zas (x0:List Zd) (x1c0:Zk) (r:Int):Y:=(238,[.tr (x0.map Zd.enc),.fn 184 [.rp true (Zk.enc x1c0) 0]],il r,[.undef,.undef])
theorem Zfw {x0:List Zd} {x1c0:Zk} {r:Int}:∀{m:Nat} {v0:Int},Y1 x0 x1c0 m v0=some r->CS (Zas x0 x1c0 r) Tryz.f238 [1,0,1,0] [(0,.tr (x0.map Zd.enc)),(1,.fn 184 [.rp true (Zk.enc x1c0) 0]),(7,il (x0.length:Int)),(8,il v0)] []:=by
 intro m
 induction m with
 | zero=>intro v0 h;cases h
 | succ m ih=>exactλ{v0} h=>itK h (λg1 h=>bnK h λa0 Zz h=>bnK h λr0 Zn h=>itK h (λg2 h=>rtK h (gg g1 (xb Zd.enc Zz (rr (Z8v Zn) (gg g2 ee))))) λg2 h=>Zj [] 16 (gg g1 (xb Zd.enc Zz (rr (Z8v Zn) (gg g2 ee)))) (ih h)) λg1 h=>rtK h (gg g1 ee)
theorem Zim {x0:List Zd} {x1c0:Zk} {r:Int} (h:Q0 x0 x1c0=some r):Zu Tryz.prog Mo (Zas x0 x1c0 r):=
 Zr Tryz.func238 (Zj [] 6 (lr Zd.enc x0 ee) (Zfw h))
abbrev Zga (x0:List Zd) (x1c0:Zk) (r:Bool):Y:=(183,[.tr (x0.map Zd.enc),.fn 184 [.rp true (Zk.enc x1c0) 0]],bl r,[.undef,.undef])
theorem Zgy {x0:List Zd} {x1c0:Zk} {r:Bool} (h:X8 x0 x1c0=some r):Zu Tryz.prog Mo (Zga x0 x1c0 r):=
 Zr Tryz.func183 (bnK h λr0 Zn h=>rtK h (rr (Zim Zn) ee))
abbrev Yxi (x0:Zk) (r:Bool):Y:=(111,[.agg (Zk.enc x0)],bl r,[.undef])
theorem Ztj {x0:Zk} {r:Bool} (h:Zn4 x0=some r):Zu Tryz.prog Mo (Yxi x0 r):=
 Zr Tryz.func111 (bnK h λr0 Zn h=>have p1 {q p} (k:Scr q p):=(lr Zd.enc x0.masters (rr (Yi Zn) k));itK h (λg1 h=>rtK h (p1 (gg g1 (kk 14 ee)))) λg1 h=>bnK h λr1 Zw h=>have p2 {q p} (k:Scr q p):=(p1 (gg g1 (kk 2 (rr (Yi Zw) (kk 2 k)))));itK h (λg2 h=>rtK h (p2 (gg g2 (kk 9 ee)))) λg2 h=>bnK h λr2 Z6 h=>have p3 {q p} (k:Scr q p):=(p2 (gg g2 (kk 2 (rr (Yi Z6) (kk 2 k)))));itK h (λg3 h=>rtK h (p3 (gg g3 (kk 4 ee)))) λg3 h=>bnK h λr3 Y2 h=>itK h (λg4 h=>rtK h (p3 (gg g3 (kk 1 (rr (Z63 Y2) (kk 2 (gg g4 ee))))))) λg4 h=>bnK h λr4 Qh h=>rtK h (p3 (gg g3 (kk 1 (rr (Z63 Y2) (kk 2 (gg g4 (rr (Zgy Qh) ee))))))))
abbrev Zkt (x0:List Zd) (r:List Zd):Y:=(186,[.tr (x0.map Zd.enc)],.own 150 (r.map Zd.enc),[.undef])
theorem Zxs {x0:List Zd} {r:List Zd} (h:Zah x0=some r):Zu Tryz.prog Mo (Zkt x0 r):=by
 refine Zr Tryz.func186 ?_;unfold Zah at h;cases x0 with
 | nil=>
  obtain rfl:[]=r:=(Z6j h);have hn:CS (Zkt [] []) Tryz.f186 [1,0,0] [(0,.tr [])] []:=Z6z Mo fOk (k:=at_ [1,0,1] (Xl Tryz.f186) []) (x0:=.tmp 0) (d0:=3) (d1:=4) (t:=31) (e:=150) (y:=.const (.slice none 0 0)) (by kernel_rfl) (by kernel_rfl) rfl rfl λb=>by
   cases b with
   | true=>exact rtQ rfl [.k] tt
   | false=>exact rtQ rfl [.k,.app [] true [] 0,.k] (aa (Eq.refl ([]:List (List V))) (aa (Eq.refl true) (aa (Eq.refl true) (aa (Eq.refl 0) (aa (apz 32) (aa (Eq.refl ([]:List (List V))) (aa (Eq.refl 0) (aa (Eq.refl 0) tt))))))))
  exact cutQ [] 4 [] tt hn
 | cons a l=>
  exact rtQ rfl [.k,.app ((a::l).map Zd.enc) true (r.map Zd.enc) (r.map Zd.enc).length,.k] (aa (Vdf (Zd.enc a) (l.map Zd.enc)) (aa (Eq.refl ((a::l).map Zd.enc)) (aa (ltr Zd.enc_lit (a::l)) (aa (alr 4 Zd.enc_len (a::l)) (aa (Eq.refl 0) (aa (apl Zd.enc h) (aa (apm0 Zd.enc h) (aa (Z9q Zd.enc r) (aa (Z9q Zd.enc r) tt)))))))))
abbrev Yuu (x0:Zk) (r:Zk):Y:=(112,[.agg (Zk.enc x0)],.agg [.own 150 (r.masters.map Zd.enc),il r.quantum,il r.maxWait,il r.maxRetry,il r.maxSplit,il r.lockMost],[.undef])
theorem Yto {x0:Zk} {r:Zk} (h:Zvc x0=some r):Zu Tryz.prog Mo (Yuu x0 r):=
 Zr Tryz.func112 (bnK h λr0 Zn h=>rtK h (rr (Zxs Zn) (kk 1 (oe Zd.enc r0 ee))))
abbrev Yt8 (x0:Int) (r:Int):Y:=(116,[il x0],il r,[.undef])
theorem Zvn {x0:Int} {r:Int} (h:Zg9 x0=some r):Zu Tryz.prog Mo (Yt8 x0 r):=
 Zr Tryz.func116 (bnK h λr0 Zn h=>itK h (λg1 h=>rtK h (rr (Yi Zn) (gg g1 ee))) λg1 h=>bnK h λa0 Zz h=>rtK h (rr (Yi Zn) (gg g1 (xd Ze Zz ee))))
abbrev Ytp (x0:Int) (r:Int):Y:=(241,[il x0],il r,[.undef])
theorem Zc0 {x0:Int} {r:Int} (h:Zab x0=some r):Zu Tryz.prog Mo (Ytp x0 r):=
 Zr Tryz.func241 (bnK h λr0 Zn h=>itK h (λg1 h=>rtK h (rr (Yi Zn) (gg g1 ee))) λg1 h=>bnK h λn0 hn0 h=>rtK h (rr (Yi Zn) (gg g1 (tp (.obl) (ob (nn0 hn0) ee)))))
abbrev Ysw (x0:Int) (x1:Int) (r:Bool):Y:=(223,[il x0,il x1],bl r,[.undef,.undef])
theorem Zhi {x0:Int} {x1:Int} {r:Bool} (h:Zhh x0 x1=some r):Zu Tryz.prog Mo (Ysw x0 x1 r):=
 Zr Tryz.func223 (bnK h λr0 Zn h=>itK h (λg1 h=>itK h (λg2 h=>bnK h λr1 Zw h=>bnK h λn0 hn0 h=>rtK h (rr (Yi Zn) (gg g1 (kk 2 (gg g2 (kk 2 (rr (Zc0 Zw) (kk 1 (tp (.obl) (kk 2 (ob (nz0 hn0) ee))))))))))) λg2 h=>rtK h (rr (Yi Zn) (gg g1 (kk 2 (gg g2 (kk 5 ee)))))) λg1 h=>rtK h (rr (Yi Zn) (gg g1 (kk 8 ee))))
abbrev Z90 (x0:Int) (x1:Int) (x2:Int) (r:Int):Y:=(240,[il x0,il x1,il x2],il r,[.undef,.undef,.undef])
theorem Zqz {x0:Int} {x1:Int} {x2:Int} {r:Int} {v0:Bool} (h:Ze4 x0 x1 x2 v0=some r):CS (Z90 x0 x1 x2 r) Tryz.f240 [1,0,1] [(0,il x0),(1,il x1),(2,il x2),(21,bl v0)] []:=
 itK h (λg1 h=>rtK h (gg g1 ee)) λg1 h=>bnK h λr0 Zn h=>bnK h λr1 Zw h=>have p1 {q p} (k:Scr q p):=(gg g1 (rr (Zc0 Zn) (rr (Zc0 Zw) k)));itK h (λg2 h=>bnK h λn0 hn0 h=>itK h (λg3 h=>rtK h (p1 (gg g2 (kk 2 (tp (.obl) (kk 2 (ob (nz0 hn0) (gg g3 ee)))))))) λg3 h=>rtK h (p1 (gg g2 (kk 2 (tp (.obl) (kk 2 (ob (nz0 hn0) (gg g3 ee)))))))) λg2 h=>rtK h (p1 (gg g2 (kk 5 ee)))
theorem Yae {x0:Int} {x1:Int} {x2:Int} {r:Int} (h:Zsw x0 x1 x2=some r):Zu Tryz.prog Mo (Z90 x0 x1 x2 r):=
 Zr Tryz.func240 (bnK h λr2 Z6 h=>itK h (λg1 h=>Zj [] 5 (rr (Zhi Z6) (gg g1 (kk 6 ee))) (Zqz h)) λg1 h=>itK h (λg2 h=>Zj [] 5 (rr (Zhi Z6) (gg g1 (kk 2 (gg g2 (kk 3 ee))))) (Zqz h)) λg2 h=>bnK h λr3 Y2 h=>Zj [] 5 (rr (Zhi Z6) (gg g1 (kk 2 (gg g2 (kk 1 (rr (Zvn Y2) (kk 2 ee))))))) (Zqz h))
abbrev Z4f (x0:Int) (x1:Int) (x2:Int) (r:List Int):Y:=(188,[il x0,il x1,il x2],.own 3 (r.map Ze),[.undef,.undef,.undef])
theorem Z8d {x0:Int} {x1:Int} {x2:Int} {r:List Int}:∀{m:Nat} {v0:Int} {v1:List Int} {v2:Int} {v3:Int},Zf3 x0 x1 x2 m v0 v1 v2 v3=some r->CS (Z4f x0 x1 x2 r) Tryz.f188 [1,1,0,1,0] [(0,il v0),(1,il x1),(2,il x2),(7,.sl (1,1) 0 (v1.map Ze).length),(11,il v2),(12,il v3)] [rx 1 3 (v1.map Ze)]:=by
 intro m
 induction m with
 | zero=>intro v0 v1 v2 v3 h;cases h
 | succ m ih=>exactλ{v0} {v1} {v2} {v3} h=>itK h (λg1 h=>bnK h λr0 Zn h=>itK h (λg2 h=>rtK h (gg g1 (rr (Yae Zn) (gg g2 ee)))) λg2 h=>bnK h λz0 W3 h=>Zj [((1,1),(5,3072))] 20 (gg g1 (rr (Yae Zn) (gg g2 (ta Ze [v0] z0 (kk 1 (oa 1 Zcs v0 (ox Ze W3 (ln Ze z0 (oe Ze z0 ee))))))))) (ih h)) λg1 h=>rtK h (gg g1 (kk 1 (oe Ze v1 ee)))
theorem Z4z {x0:Int} {x1:Int} {x2:Int} {r:List Int} (h:Zip x0 x1 x2=some r):Zu Tryz.prog Mo (Z4f x0 x1 x2 r):=
 Zr Tryz.func188 (bnK h λr1 Zw h=>Zj [((1,1),(2,0))] 8 (rr (Zvn Zw) (tp (.num ([].map Ze).length 0 0 []) (ob (show 0=([].map Ze).length from rfl) ee))) (Z8d h))
abbrev Yc5 (x0:Int) (x1:Int) (x2:Int) (r:Bool):Y:=(117,[il x0,il x1,il x2],bl r,[.undef,.undef,.undef])
theorem Yfu {x0:Int} {x1:Int} {x2:Int} {r:Bool}:∀{m:Nat} {v0:List Int} {v1:Int} {v2:Int},Zly x0 x1 x2 m v0 v1 v2=some r->CS (Yc5 x0 x1 x2 r) Tryz.f117 [1,1,0,1,0] [(7,.sl (1,1) 0 (v0.map Ze).length),(14,.sl (1,1) 0 (v0.map Ze).length),(15,il v1),(16,il v2)] [rx 1 3 (v0.map Ze)]:=by
 intro m
 induction m with
 | zero=>intro v0 v1 v2 h;cases h
 | succ m ih=>exactλ{v0} {v1} {v2} h=>itK h (λg1 h=>bnK h λa0 Zz h=>bnK h λa1 Yv h=>itK h (λg2 h=>rtK h (gg g1 (xd Ze Zz (kk 1 (xd Ze Yv (kk 1 (gg g2 ee))))))) λg2 h=>Zj [((1,1),(1,1))] 16 (gg g1 (xd Ze Zz (kk 1 (xd Ze Yv (kk 1 (gg g2 (ln Ze v0 (ln Ze v0 ee)))))))) (ih h)) λg1 h=>rtK h (gg g1 (lr Ze v0 ee))
theorem Z3g {x0:Int} {x1:Int} {x2:Int} {r:Bool} (h:Zvx x0 x1 x2=some r):Zu Tryz.prog Mo (Yc5 x0 x1 x2 r):=
 Zr Tryz.func117 (bnK h λr0 Zn h=>Zj [((1,1),(2,3072))] 8 (rr (Z4z Zn) (lr Ze r0 (ln Ze r0 (ln Ze r0 ee)))) (Yfu h))
abbrev Ysu (x0:Int) (r:Int):Y:=(190,[il x0],il r,[.undef])
theorem Yc6 {x0:Int} {r:Int} (h:Zpn x0=some r):Zu Tryz.prog Mo (Ysu x0 r):=
 Zr Tryz.func190 (bnK h λr0 Zn h=>itK h (λg1 h=>rtK h (rr (Zc0 Zn) (gg g1 ee))) λg1 h=>bnK h λr1 Zw h=>bnK h λn0 hn0 h=>rtK h (rr (Zc0 Zn) (gg g1 (rr (Zc0 Zw) (tp (.obl) (ob (nn0 hn0) ee))))))
abbrev Y0w (x0:Int) (x1:Int) (r:Bool):Y:=(120,[il x0,il x1],bl r,[.undef,.undef])
theorem Znr {x0:Int} {x1:Int} {r:Bool} (h:Zef x0 x1=some r):Zu Tryz.prog Mo (Y0w x0 x1 r):=
 Zr Tryz.func120 (bnK h λr0 Zn h=>bnK h λr1 Zw h=>rtK h (rr (Yc6 Zn) (rr (Yi Zw) ee)))
abbrev Yu3 (x0:Int) (x1:Zg) (r:Bool):Y:=(119,[il x0,.rp true (Zg.enc x1) 0],bl r,[.undef,.undef])
theorem Ycv {x0:Int} {x1:Zg} {r:Bool} (h:Zwf x0 x1=some r):Zu Tryz.prog Mo (Yu3 x0 x1 r):=
 Zr Tryz.func119 (bnK h λr0 Zn h=>rtK h (rr (Znr Zn) ee))
abbrev Zcu (x0:List Int) (x1c0:Zg) (r:Int):Y:=(189,[.tr (x0.map Ze),.fn 119 [.rp true (Zg.enc x1c0) 0]],il r,[.undef,.undef])
theorem Zi1 {x0:List Int} {x1c0:Zg} {r:Int}:∀{m:Nat} {v0:Int},Ka x0 x1c0 m v0=some r->CS (Zcu x0 x1c0 r) Tryz.f189 [1,0,1,0] [(0,.tr (x0.map Ze)),(1,.fn 119 [.rp true (Zg.enc x1c0) 0]),(7,il (x0.length:Int)),(8,il v0)] []:=by
 intro m
 induction m with
 | zero=>intro v0 h;cases h
 | succ m ih=>exactλ{v0} h=>itK h (λg1 h=>bnK h λa0 Zz h=>bnK h λr0 Zn h=>itK h (λg2 h=>rtK h (gg g1 (xb Ze Zz (rr (Ycv Zn) (gg g2 ee))))) λg2 h=>Zj [] 16 (gg g1 (xb Ze Zz (rr (Ycv Zn) (gg g2 ee)))) (ih h)) λg1 h=>rtK h (gg g1 ee)
theorem Zmn {x0:List Int} {x1c0:Zg} {r:Int} (h:K7 x0 x1c0=some r):Zu Tryz.prog Mo (Zcu x0 x1c0 r):=
 Zr Tryz.func189 (Zj [] 6 (lr Ze x0 ee) (Zi1 h))
abbrev Zj7 (x0:List Int) (x1c0:Zg) (r:Bool):Y:=(118,[.tr (x0.map Ze),.fn 119 [.rp true (Zg.enc x1c0) 0]],bl r,[.undef,.undef])
theorem Zjq {x0:List Int} {x1c0:Zg} {r:Bool} (h:Wr x0 x1c0=some r):Zu Tryz.prog Mo (Zj7 x0 x1c0 r):=
 Zr Tryz.func118 (bnK h λr0 Zn h=>rtK h (rr (Zmn Zn) ee))
abbrev Yk5 (x0:Zg) (r:Bool):Y:=(52,[.agg (Zg.enc x0)],bl r,[.undef])
theorem Z7n {x0:Zg} {r:Bool} {v0:Int} (h:Zqd x0 v0=some r):CS (Yk5 x0 r) Tryz.f52 [1,1,1] [(1,.ptr (1,1) 0 0),(3,il v0)] [bx 1 (Zg.enc x0)]:=
 bnK h λr0 Zn h=>itK h (λg1 h=>itK h (λg2 h=>bnK h λr1 Zw h=>rtK h (rr (Z3g Zn) (gg g1 (kk 2 (lr Ze x0.data_ (kk 3 (gg g2 (kk 3 (rr (Zjq Zw) (kk 2 ee)))))))))) λg2 h=>rtK h (rr (Z3g Zn) (gg g1 (kk 2 (lr Ze x0.data_ (kk 3 (gg g2 (kk 5 ee)))))))) λg1 h=>rtK h (rr (Z3g Zn) (gg g1 (kk 11 ee)))
theorem Z9t {x0:Zg} {r:Bool} (h:Zwr x0=some r):Zu Tryz.prog Mo (Yk5 x0 r):=
 Zr Tryz.func52 (itK h (λg1 h=>bnK h λr2 Z6 h=>Zj [((1,1),(1,0))] 9 (gg g1 (rr (Zvn Z6) ee)) (Z7n h)) λg1 h=>Zj [((1,1),(1,0))] 9 (gg g1 ee) (Z7n h))
abbrev Zpm (x0:List Int) (r:List Int):Y:=(159,[.tr (x0.map Ze)],.own 3 (r.map Ze),[.undef])
theorem Wv {x0:List Int} {r:List Int} (h:Xc x0=some r):Zu Tryz.prog Mo (Zpm x0 r):=by
 refine Zr Tryz.func159 ?_;unfold Xc at h;cases x0 with
 | nil=>
  obtain rfl:[]=r:=(Z6j h);have hn:CS (Zpm [] []) Tryz.f159 [1,0,0] [(0,.tr [])] []:=Z6z Mo fOk (k:=at_ [1,0,1] (Xl Tryz.f159) []) (x0:=.tmp 0) (d0:=3) (d1:=4) (t:=45) (e:=3) (y:=.const (.slice none 0 0)) (by kernel_rfl) (by kernel_rfl) rfl rfl λb=>by
   cases b with
   | true=>exact rtQ rfl [.k] tt
   | false=>exact rtQ rfl [.k,.app [] true [] 0,.k] (aa (Eq.refl ([]:List (List V))) (aa (Eq.refl true) (aa (Eq.refl true) (aa (Eq.refl 0) (aa (apz 8) (aa (Eq.refl ([]:List (List V))) (aa (Eq.refl 0) (aa (Eq.refl 0) tt))))))))
  exact cutQ [] 4 [] tt hn
 | cons a l=>
  exact rtQ rfl [.k,.app ((a::l).map Ze) true (r.map Ze) (r.map Ze).length,.k] (aa (Vdf (Ze a) (l.map Ze)) (aa (Eq.refl ((a::l).map Ze)) (aa (ltr Zqw (a::l)) (aa (alr 1 Zcs (a::l)) (aa (Eq.refl 0) (aa (apl Ze h) (aa (apm0 Ze h) (aa (Z9q Ze r) (aa (Z9q Ze r) tt)))))))))
abbrev Yyc (x0:Zg) (r:Zg):Y:=(214,[.agg (Zg.enc x0)],.agg [bl r.write,il r.addr,il r.size,il r.burst,bl r.lock,.own 3 (r.data_.map Ze)],[.undef])
theorem Z5h {x0:Zg} {r:Zg} (h:Zj6 x0=some r):Zu Tryz.prog Mo (Yyc x0 r):=
 Zr Tryz.func214 (bnK h λr0 Zn h=>rtK h (rr (Wv Zn) (kk 1 (oe Ze r0 ee))))
abbrev Yf7 (x0:Zb) (r:Zb):Y:=(157,[.agg (Zb.enc x0)],.agg [.own 104 (r.queue.map Zg.enc),il r.beat,il r.done,il r.tries,bl r.parted,bl r.broken],[.undef])
theorem Yjg {x0:Zb} {r:Zb}:∀{m:Nat} {v0:List Zg} {v1:Int},Zo1 x0 m v0 v1=some r->CS (Yf7 x0 r) Tryz.f157 [1,1,0,1,0] [(1,.ptr (1,1) 0 0),(2,.ptr (1,2) 0 0),(3,.sl (1,4) 0 (v0.map Zg.enc).length),(8,.tr (x0.queue.map Zg.enc)),(9,il (x0.queue.length:Int)),(10,il v1)] [bx 1 (Zb.enc x0),rx 3 104 ([].map Zg.enc),bx 2 [.sl (1,3) 0 ([].map Zg.enc).length,il 0,il 0,il 0,bl false,bl false],rx 4 104 (v0.map Zg.enc)]:=by
 intro m
 induction m with
 | zero=>intro v0 v1 h;cases h
 | succ m ih=>exactλ{v0} {v1} h=>itK h (λg1 h=>bnK h λa0 Zz h=>bnK h λr0 Zn h=>bnK h λz0 W3 h=>Zj (ffi 1 3++[((1,4),(4,4096))]) 13 (gg g1 (xb Zg.enc Zz (rr (Z5h Zn) (kk 1 (ta Zg.enc [r0] z0 (kk 1 (oe Ze r0.data_ (oa 6 Zg.enc_len r0 (ox Zg.enc W3 (ln Zg.enc z0 (oe Zg.enc z0 (ln Zg.enc [] ee)))))))))))) (ih h)) λg1 h=>rtK h (gg g1 (kk 1 (oe Zg.enc v0 ee)))
theorem Zgo {x0:Zb} {r:Zb} (h:Zgw x0=some r):Zu Tryz.prog Mo (Yf7 x0 r):=
 Zr Tryz.func157 (Zj [((1,1),(1,0)),((1,2),(1,1024)),((1,4),(2,0))] 8 (lr Zg.enc x0.queue (tp (.num ([].map Zg.enc).length 0 0 []) (ob (show 0=([].map Zg.enc).length from rfl) ee))) (Yjg h))
abbrev Zh9 (x0:List Zc) (r:List Zc):Y:=(158,[.tr (x0.map Zc.enc)],.own 158 (r.map Zc.enc),[.undef])
theorem Zuo {x0:List Zc} {r:List Zc} (h:Jt x0=some r):Zu Tryz.prog Mo (Zh9 x0 r):=by
 refine Zr Tryz.func158 ?_;unfold Jt at h;cases x0 with
 | nil=>
  obtain rfl:[]=r:=(Z6j h);have hn:CS (Zh9 [] []) Tryz.f158 [1,0,0] [(0,.tr [])] []:=Z6z Mo fOk (k:=at_ [1,0,1] (Xl Tryz.f158) []) (x0:=.tmp 0) (d0:=3) (d1:=4) (t:=52) (e:=158) (y:=.const (.slice none 0 0)) (by kernel_rfl) (by kernel_rfl) rfl rfl λb=>by
   cases b with
   | true=>exact rtQ rfl [.k] tt
   | false=>exact rtQ rfl [.k,.app [] true [] 0,.k] (aa (Eq.refl ([]:List (List V))) (aa (Eq.refl true) (aa (Eq.refl true) (aa (Eq.refl 0) (aa (apz 16) (aa (Eq.refl ([]:List (List V))) (aa (Eq.refl 0) (aa (Eq.refl 0) tt))))))))
  exact cutQ [] 4 [] tt hn
 | cons a l=>
  exact rtQ rfl [.k,.app ((a::l).map Zc.enc) true (r.map Zc.enc) (r.map Zc.enc).length,.k] (aa (Vdf (Zc.enc a) (l.map Zc.enc)) (aa (Eq.refl ((a::l).map Zc.enc)) (aa (ltr Zc.enc_lit (a::l)) (aa (alr 2 Zc.enc_len (a::l)) (aa (Eq.refl 0) (aa (apl Zc.enc h) (aa (apm0 Zc.enc h) (aa (Z9q Zc.enc r) (aa (Z9q Zc.enc r) tt)))))))))
abbrev Yxs (x0:Zo) (r:Zo):Y:=(215,[.agg (Zo.enc x0)],.agg (Zo.ow r),[.undef])
theorem Yid {x0:Zo} {r:Zo} (h:Zrz x0=some r):Zu Tryz.prog Mo (Yxs x0 r):=
 Zr Tryz.func215 (bnK h λr0 Zn h=>bnK h λr1 Zw h=>rtK h (rr (Wv Zn) (rr (Wv Zw) (kk 2 (oe Ze r0 (oe Ze r1 ee))))))
abbrev Yqg (x0:Zi) (r:Zi):Y:=(160,[.agg (Zi.enc x0)],.agg (Zi.ow r),[.undef])
theorem Z0f {x0:Zi} {r:Zi} (h:Zil x0=some r):Zu Tryz.prog Mo (Yqg x0 r):=
 Zr Tryz.func160 (bnK h λr0 Zn h=>bnK h λr1 Zw h=>rtK h (rr (Wv Zn) (rr (Yid Zw) (kk 3 (oe Ze r0 (Zo.so r1 ee))))))
abbrev Znf (x0:List Zm) (r:List Zm):Y:=(161,[.tr (x0.map Zm.enc)],.own 113 (r.map Zm.enc),[.undef])
theorem Zzq {x0:List Zm} {r:List Zm} (h:Zbh x0=some r):Zu Tryz.prog Mo (Znf x0 r):=by
 refine Zr Tryz.func161 ?_;unfold Zbh at h;cases x0 with
 | nil=>
  obtain rfl:[]=r:=(Z6j h);have hn:CS (Znf [] []) Tryz.f161 [1,0,0] [(0,.tr [])] []:=Z6z Mo fOk (k:=at_ [1,0,1] (Xl Tryz.f161) []) (x0:=.tmp 0) (d0:=3) (d1:=4) (t:=28) (e:=113) (y:=.const (.slice none 0 0)) (by kernel_rfl) (by kernel_rfl) rfl rfl λb=>by
   cases b with
   | true=>exact rtQ rfl [.k] tt
   | false=>exact rtQ rfl [.k,.app [] true [] 0,.k] (aa (Eq.refl ([]:List (List V))) (aa (Eq.refl true) (aa (Eq.refl true) (aa (Eq.refl 0) (aa (apz 56) (aa (Eq.refl ([]:List (List V))) (aa (Eq.refl 0) (aa (Eq.refl 0) tt))))))))
  exact cutQ [] 4 [] tt hn
 | cons a l=>
  exact rtQ rfl [.k,.app ((a::l).map Zm.enc) true (r.map Zm.enc) (r.map Zm.enc).length,.k] (aa (Vdf (Zm.enc a) (l.map Zm.enc)) (aa (Eq.refl ((a::l).map Zm.enc)) (aa (ltr Zm.enc_lit (a::l)) (aa (alr 7 Zm.enc_len (a::l)) (aa (Eq.refl 0) (aa (apl Zm.enc h) (aa (apm0 Zm.enc h) (aa (Z9q Zm.enc r) (aa (Z9q Zm.enc r) tt)))))))))
abbrev Yfs (x0:Za) (r:Za):Y:=(95,[.agg (Za.enc x0)],.agg (Za.ow r),[.undef])
theorem Yjz {x0:Za} {r:Za}:∀{m:Nat} {vb0:Za} {v0:List Zb} {v1:Int},Zh8 x0 m vb0 v0 v1=some r->CS (Yfs x0 r) Tryz.f95 [1,1,1,0,1,0] [(1,.ptr (1,1) 0 0),(2,.ptr (1,3) 0 0),(3,.sl (1,12) 0 (v0.map Zb.enc).length),(12,.tr (x0.m.map Zb.enc)),(13,il (x0.m.length:Int)),(14,il v1)] ([rx 2 150 (vb0.conf.masters.map Zd.enc),bx 1 [.sl (1,2) 0 (vb0.conf.masters.map Zd.enc).length,il vb0.conf.quantum,il vb0.conf.maxWait,il vb0.conf.maxRetry,il vb0.conf.maxSplit,il vb0.conf.lockMost,il vb0.now,.tr (vb0.m.map Zb.enc),il vb0.arb.at_,il vb0.arb.credit,.tr (vb0.buckets.map Zc.enc),.tr (vb0.splits.map Ze),il vb0.holder,il vb0.held,il vb0.last,bl vb0.addr.live,il vb0.addr.who,il vb0.addr.beat,bl vb0.addr.first,il vb0.addr.by_,il vb0.addr.left,il vb0.addr.resp,bl vb0.addr.second,bl vb0.data_.live,il vb0.data_.who,il vb0.data_.beat,bl vb0.data_.first,il vb0.data_.by_,il vb0.data_.left,il vb0.data_.resp,bl vb0.data_.second,.tr (vb0.model.mem.map Ze),.tr (vb0.model.dev.regs.map Ze),il vb0.model.dev.timer,.tr (vb0.model.dev.fifo.map Ze),il vb0.picks,.tr (vb0.log.map Zm.enc)]]++Za.bk Za.z0 4++[bx 3 (Za.rl Za.z0 4),rx 12 156 (v0.map Zb.enc)]):=by
 intro m
 induction m with
 | zero=>intro vb0 v0 v1 h;cases h
 | succ m ih=>exactλ{vb0} {v0} {v1} h=>itK h (λg1 h=>bnK h λa0 Zz h=>bnK h λr0 Zn h=>bnK h λz0 W3 h=>Zj (ffi 1 11++[((1,12),(4,4096))]) 13 (gg g1 (xb Zb.enc Zz (rr (Zgo Zn) (kk 1 (ta Zb.enc [r0] z0 (kk 1 (oe Zg.enc r0.queue (oa 6 Zb.enc_len r0 (ox Zb.enc W3 (ln Zb.enc z0 (oe Zb.enc z0 (ln Zd.enc vb0.conf.masters (Za.sc Za.z0 ee))))))))))))) (ih h)) λg1 h=>bnK h λr1 Zw h=>bnK h λr2 Z6 h=>bnK h λr3 Y2 h=>bnK h λr4 Qh h=>rtK h (gg g1 (rr (Zuo Zw) (rr (Wv Z6) (rr (Z0f Y2) (rr (Zzq Qh) (kk 8 (oe Zd.enc vb0.conf.masters (oe Zb.enc v0 (oe Zc.enc r1 (oe Ze r2 (Zi.so r3 (oe Zm.enc r4 ee))))))))))))
theorem Z6h {x0:Za} {r:Za} (h:Zr2 x0=some r):Zu Tryz.prog Mo (Yfs x0 r):=
 Zr Tryz.func95 (bnK h λr5 hr5 h=>Zj [((1,1),(1,0)),((1,2),(2,2048)),((1,3),(1,1024)),((1,12),(3,0))] 10 (rr (Yto hr5) (lr Zb.enc x0.m (tp (.num ([].map Zb.enc).length 0 0 []) (ob (show 0=([].map Zb.enc).length from rfl) (ln Zd.enc r5.masters ee))))) (Yjz h))
abbrev Z8f (x0:Zg) (r:Bool):Y:=(248,[.agg (Zg.enc x0)],bl r,[.undef])
theorem Zw1 {x0:Zg} {r:Bool} (h:Zge x0=some r):Zu Tryz.prog Mo (Z8f x0 r):=
 Zr Tryz.func248 (bnK h λr0 Zn h=>rtK h (rr (Z9t Zn) ee))
abbrev Zac (x0:List Zg) (r:Int):Y:=(115,[.tr (x0.map Zg.enc),.fn 248 []],il r,[.undef,.undef])
theorem Zev {x0:List Zg} {r:Int}:∀{m:Nat} {v0:Int},W4 x0 m v0=some r->CS (Zac x0 r) Tryz.f115 [1,0,1,0] [(0,.tr (x0.map Zg.enc)),(1,.fn 248 []),(7,il (x0.length:Int)),(8,il v0)] []:=by
 intro m
 induction m with
 | zero=>intro v0 h;cases h
 | succ m ih=>exactλ{v0} h=>itK h (λg1 h=>bnK h λa0 Zz h=>bnK h λr0 Zn h=>itK h (λg2 h=>rtK h (gg g1 (xb Zg.enc Zz (rr (Zw1 Zn) (gg g2 ee))))) λg2 h=>Zj [] 16 (gg g1 (xb Zg.enc Zz (rr (Zw1 Zn) (gg g2 ee)))) (ih h)) λg1 h=>rtK h (gg g1 ee)
theorem Zg6 {x0:List Zg} {r:Int} (h:Qu x0=some r):Zu Tryz.prog Mo (Zac x0 r):=
 Zr Tryz.func115 (Zj [] 6 (lr Zg.enc x0 ee) (Zev h))
abbrev Zfq (x0:List Zg) (r:Bool):Y:=(50,[.tr (x0.map Zg.enc),.fn 248 []],bl r,[.undef,.undef])
theorem Zfr {x0:List Zg} {r:Bool} (h:X2 x0=some r):Zu Tryz.prog Mo (Zfq x0 r):=
 Zr Tryz.func50 (bnK h λr0 Zn h=>rtK h (rr (Zg6 Zn) ee))
abbrev Ym3 (x0:Zb) (r:Int):Y:=(224,[.rp true (Zb.enc x0) 0],il r,[.undef])
theorem Zdt {x0:Zb} {r:Int} (h:Zb1 x0=some r):Zu Tryz.prog Mo (Ym3 x0 r):=
 Zr Tryz.func224 (itK h (λg1 h=>rtK h (lr Zg.enc x0.queue (gg g1 ee))) λg1 h=>bnK h λa0 Zz h=>bnK h λr0 Zn h=>rtK h (lr Zg.enc x0.queue (gg g1 (xb Zg.enc Zz (rr (Zvn Zn) ee)))))
abbrev Zz0 (x0:Zb) (r:Bool):Y:=(216,[.agg (Zb.enc x0)],bl r,[.undef])
theorem Zj4 {x0:Zb} {r:Bool} {v0:Bool} (h:Wu x0 v0=some r):CS (Zz0 x0 r) Tryz.f216 [1,0,1] [(1,.ptr (1,1) 0 0),(16,bl v0)] [bx 1 (Zb.enc x0)]:=
 itK h (λg1 h=>rtK h (gg g1 ee)) λg1 h=>have p1 {q p} (k:Scr q p):=(gg g1 (lr Zg.enc x0.queue k));itK h (λg2 h=>itK h (λg3 h=>itK h (λg4 h=>have p2 {q p} (k:Scr q p):=(p1 (gg g2 (gg g3 (kk 3 (gg g4 (kk 3 k))))));itK h (λg5 h=>itK h (λg6 h=>rtK h (p2 (gg g5 (kk 3 (gg g6 (kk 3 ee)))))) λg6 h=>rtK h (p2 (gg g5 (kk 3 (gg g6 (kk 3 ee)))))) λg5 h=>rtK h (p2 (gg g5 (kk 7 ee)))) λg4 h=>rtK h (p1 (gg g2 (gg g3 (kk 3 (gg g4 (kk 11 ee))))))) λg3 h=>rtK h (p1 (gg g2 (gg g3 (kk 15 ee))))) λg2 h=>bnK h λr0 Zn h=>bnK h λr1 Zw h=>itK h (λg3 h=>bnK h λr2 Z6 h=>bnK h λr3 Y2 h=>rtK h (p1 (gg g2 (rr (Zdt Zn) (rr (Yi Zw) (gg g3 (kk 7 (rr (Zdt Z6) (kk 2 (rr (Yi Y2) (kk 1 ee))))))))))) λg3 h=>rtK h (p1 (gg g2 (rr (Zdt Zn) (rr (Yi Zw) (gg g3 (kk 10 ee))))))
theorem Qs {x0:Zb} {r:Bool} (h:Kq x0=some r):Zu Tryz.prog Mo (Zz0 x0 r):=
 Zr Tryz.func216 (itK h (λg1 h=>Zj [((1,1),(1,0))] 5 (lr Zg.enc x0.queue (gg g1 (kk 7 ee))) (Zj4 h)) λg1 h=>itK h (λg2 h=>Zj [((1,1),(1,0))] 5 (lr Zg.enc x0.queue (gg g1 (kk 3 (gg g2 (kk 3 ee))))) (Zj4 h)) λg2 h=>bnK h λr4 Qh h=>Zj [((1,1),(1,0))] 5 (lr Zg.enc x0.queue (gg g1 (kk 3 (gg g2 (kk 2 (rr (Zfr Qh) (kk 1 ee))))))) (Zj4 h))
abbrev Yoy (x0:Zc) (x1:Zd) (r:Bool):Y:=(217,[.agg (Zc.enc x0),.agg (Zd.enc x1)],bl r,[.undef,.undef])
theorem Z89 {x0:Zc} {x1:Zd} {r:Bool} (h:Zmq x0 x1=some r):Zu Tryz.prog Mo (Yoy x0 x1 r):=
 Zr Tryz.func217 (itK h (λg1 h=>rtK h (gg g1 ee)) λg1 h=>bnK h λr0 Zn h=>itK h (λg2 h=>itK h (λg3 h=>rtK h (gg g1 (rr (Yi Zn) (gg g2 (kk 3 (gg g3 (kk 5 ee))))))) λg3 h=>rtK h (gg g1 (rr (Yi Zn) (gg g2 (kk 3 (gg g3 (kk 5 ee))))))) λg2 h=>rtK h (gg g1 (rr (Yi Zn) (gg g2 (kk 9 ee)))))
abbrev Zmv (x0:Za) (r:Bool):Y:=(162,[.rp true (Za.enc x0) 0],bl r,[.undef])
theorem Z3n {x0:Za} {r:Bool}:∀{m:Nat} {v0:Int},Zhk x0 m v0=some r->CS (Zmv x0 r) Tryz.f162 [1,1,1,0,1,0] [(0,.rp true (Za.enc x0) 0),(40,.tr (x0.m.map Zb.enc)),(41,il (x0.m.length:Int)),(42,il v0)] []:=by
 intro m
 induction m with
 | zero=>intro v0 h;cases h
 | succ m ih=>exactλ{v0} h=>itK h (λg1 h=>bnK h λa0 Zz h=>bnK h λr0 Zn h=>have p1 {q p} (k:Scr q p):=(gg g1 (xb Zb.enc Zz (rr (Qs Zn) k)));itK h (λg2 h=>rtK h (p1 (gg g2 (kk 42 ee)))) λg2 h=>itK h (λg3 h=>rtK h (p1 (gg g2 (kk 8 (gg g3 (kk 33 ee)))))) λg3 h=>bnK h λa1 Yv h=>bnK h λa2 Kv h=>bnK h λr1 Zw h=>have p2 {q p} (k:Scr q p):=(p1 (gg g2 (kk 8 (gg g3 (kk 5 (xb Zc.enc Yv (kk 8 (xb Zd.enc Kv (kk 2 (rr (Z89 Zw) (kk 2 k)))))))))));itK h (λg4 h=>rtK h (p2 (gg g4 (kk 15 ee)))) λg4 h=>bnK h λa3 ha3 h=>bnK h λr2 Z6 h=>have p3 {q p} (k:Scr q p):=(p2 (gg g4 (kk 5 (xb Ze ha3 (kk 7 (rr (Yi Z6) (kk 2 k)))))));itK h (λg5 h=>rtK h (p3 (gg g5 ee))) λg5 h=>Zj [] 16 (p3 (gg g5 ee)) (ih h)) λg1 h=>rtK h (gg g1 ee)
theorem Zhe {x0:Za} {r:Bool} {v1:Bool} (h:Qt x0 v1=some r):CS (Zmv x0 r) Tryz.f162 [1,1,0,1] [(0,.rp true (Za.enc x0) 0),(36,bl v1)] []:=
 itK h (λg1 h=>rtK h (gg g1 ee)) λg1 h=>Zj [] 6 (gg g1 (lr Zb.enc x0.m ee)) (Z3n h)
theorem Z8x {x0:Za} {r:Bool} (h:Zg1 x0=some r):Zu Tryz.prog Mo (Zmv x0 r):=
 Zr Tryz.func162 (have p1 {q p} (k:Scr q p):=(lr Zd.enc x0.conf.masters (lr Zb.enc x0.m k));itK h (λg1 h=>Zj [] 7 (p1 (gg g1 (kk 15 ee))) (Zhe h)) λg1 h=>itK h (λg2 h=>Zj [] 7 (p1 (gg g1 (kk 4 (lr Zc.enc x0.buckets (kk 3 (gg g2 (kk 7 ee))))))) (Zhe h)) λg2 h=>Zj [] 7 (p1 (gg g1 (kk 4 (lr Zc.enc x0.buckets (kk 3 (gg g2 (kk 4 (lr Ze x0.splits (kk 3 ee))))))))) (Zhe h))
abbrev Yo1 (x0:Zk) (x1:Int) (r:Bool):Y:=(124,[.agg (Zk.enc x0),il x1],bl r,[.undef,.undef])
theorem Zfe {x0:Zk} {x1:Int} {r:Bool} (h:Jh x0 x1=some r):Zu Tryz.prog Mo (Yo1 x0 x1 r):=
 Zr Tryz.func124 (bnK h λr0 Zn h=>rtK h (lr Zd.enc x0.masters (rr (Yi Zn) ee)))
abbrev Yhl (x0:Zk) (x1:Int) (r:Int):Y:=(218,[.agg (Zk.enc x0),il x1],il r,[.undef,.undef])
theorem Z4a {x0:Zk} {x1:Int} {r:Int} {v0:Bool} (h:Zur x0 x1 v0=some r):CS (Yhl x0 x1 r) Tryz.f218 [1,0,1] [(1,il x1),(2,.ptr (1,1) 0 0),(13,bl v0)] [bx 1 (Zk.enc x0)]:=
 itK h (λg1 h=>rtK h (gg g1 ee)) λg1 h=>bnK h λa0 Zz h=>rtK h (gg g1 (xb Zd.enc Zz ee))
theorem Z6a {x0:Zk} {x1:Int} {r:Int} (h:Zpb x0 x1=some r):Zu Tryz.prog Mo (Yhl x0 x1 r):=
 Zr Tryz.func218 (bnK h λr0 Zn h=>itK h (λg1 h=>Zj [((1,1),(1,0))] 5 (rr (Ztj Zn) (gg g1 (kk 4 ee))) (Z4a h)) λg1 h=>bnK h λr1 Zw h=>Zj [((1,1),(1,0))] 5 (rr (Ztj Zn) (gg g1 (kk 2 (rr (Zfe Zw) (kk 2 ee))))) (Z4a h))
abbrev Y1u (x0:Z2) (x1:Zk) (r:Bool):Y:=(163,[.agg (Z2.enc x0),.agg (Zk.enc x1)],bl r,[.undef,.undef])
theorem Zwp {x0:Z2} {x1:Zk} {r:Bool} (h:Znx x0 x1=some r):Zu Tryz.prog Mo (Y1u x0 x1 r):=
 Zr Tryz.func163 (bnK h λr0 Zn h=>itK h (λg1 h=>bnK h λr1 Zw h=>have p1 {q p} (k:Scr q p):=(rr (Ztj Zn) (gg g1 (kk 3 (rr (Zfe Zw) (kk 1 k)))));itK h (λg2 h=>bnK h λr2 Z6 h=>bnK h λr3 Y2 h=>rtK h (p1 (gg g2 (kk 5 (rr (Z6a Z6) (kk 1 (rr (Yi Y2) (kk 1 ee)))))))) λg2 h=>rtK h (p1 (gg g2 (kk 7 ee)))) λg1 h=>rtK h (rr (Ztj Zn) (gg g1 (kk 12 ee))))
abbrev Yyq (x0:Int) (r:Bool):Y:=(249,[il x0],bl r,[.undef])
theorem Yic {x0:Int} {r:Bool} (h:Zya x0=some r):Zu Tryz.prog Mo (Yyq x0 r):=
 Zr Tryz.func249 (bnK h λr0 Zn h=>rtK h (rr (Yi Zn) ee))
abbrev Zdb (x0:List Int) (r:Int):Y:=(189,[.tr (x0.map Ze),.fn 249 []],il r,[.undef,.undef])
theorem Zju {x0:List Int} {r:Int}:∀{m:Nat} {v0:Int},Kp x0 m v0=some r->CS (Zdb x0 r) Tryz.f189 [1,0,1,0] [(0,.tr (x0.map Ze)),(1,.fn 249 []),(7,il (x0.length:Int)),(8,il v0)] []:=by
 intro m
 induction m with
 | zero=>intro v0 h;cases h
 | succ m ih=>exactλ{v0} h=>itK h (λg1 h=>bnK h λa0 Zz h=>bnK h λr0 Zn h=>itK h (λg2 h=>rtK h (gg g1 (xb Ze Zz (rr (Yic Zn) (gg g2 ee))))) λg2 h=>Zj [] 16 (gg g1 (xb Ze Zz (rr (Yic Zn) (gg g2 ee)))) (ih h)) λg1 h=>rtK h (gg g1 ee)
theorem Zm7 {x0:List Int} {r:Int} (h:Jl x0=some r):Zu Tryz.prog Mo (Zdb x0 r):=
 Zr Tryz.func189 (Zj [] 6 (lr Ze x0 ee) (Zju h))
abbrev Zki (x0:List Int) (r:Bool):Y:=(118,[.tr (x0.map Ze),.fn 249 []],bl r,[.undef,.undef])
theorem Zko {x0:List Int} {r:Bool} (h:Wz x0=some r):Zu Tryz.prog Mo (Zki x0 r):=
 Zr Tryz.func118 (bnK h λr0 Zn h=>rtK h (rr (Zm7 Zn) ee))
abbrev Y3g (x0:List Int) (x1:Int) (x2:Int) (r:Bool):Y:=(219,[.tr (x0.map Ze),il x1,il x2],bl r,[.undef,.undef,.undef])
theorem Zup {x0:List Int} {x1:Int} {x2:Int} {r:Bool} (h:Zut x0 x1 x2=some r):Zu Tryz.prog Mo (Y3g x0 x1 x2 r):=
 Zr Tryz.func219 (itK h (λg1 h=>bnK h λr0 Zn h=>have p1 {q p} (k:Scr q p):=(lr Ze x0 (gg g1 (kk 1 (rr (Zko Zn) (kk 2 k)))));itK h (λg2 h=>bnK h λr1 Zw h=>itK h (λg3 h=>bnK h λr2 Z6 h=>rtK h (p1 (gg g2 (kk 2 (rr (Zhi Zw) (kk 1 (gg g3 (kk 2 (lr Ze x0 (kk 2 (rr (Zc0 Z6) (kk 3 ee)))))))))))) λg3 h=>rtK h (p1 (gg g2 (kk 2 (rr (Zhi Zw) (kk 1 (gg g3 (kk 7 ee)))))))) λg2 h=>rtK h (p1 (gg g2 (kk 11 ee)))) λg1 h=>rtK h (lr Ze x0 (gg g1 (kk 15 ee))))
abbrev Yta (x0:Int) (r:Bool):Y:=(250,[il x0],bl r,[.undef])
theorem Yc2 {x0:Int} {r:Bool} (h:Zwe x0=some r):Zu Tryz.prog Mo (Yta x0 r):=
 Zr Tryz.func250 (bnK h λr0 Zn h=>rtK h (rr (Znr Zn) ee))
abbrev Zcv (x0:List Int) (r:Int):Y:=(189,[.tr (x0.map Ze),.fn 250 []],il r,[.undef,.undef])
theorem Zi2 {x0:List Int} {r:Int}:∀{m:Nat} {v0:Int},Kb x0 m v0=some r->CS (Zcv x0 r) Tryz.f189 [1,0,1,0] [(0,.tr (x0.map Ze)),(1,.fn 250 []),(7,il (x0.length:Int)),(8,il v0)] []:=by
 intro m
 induction m with
 | zero=>intro v0 h;cases h
 | succ m ih=>exactλ{v0} h=>itK h (λg1 h=>bnK h λa0 Zz h=>bnK h λr0 Zn h=>itK h (λg2 h=>rtK h (gg g1 (xb Ze Zz (rr (Yc2 Zn) (gg g2 ee))))) λg2 h=>Zj [] 16 (gg g1 (xb Ze Zz (rr (Yc2 Zn) (gg g2 ee)))) (ih h)) λg1 h=>rtK h (gg g1 ee)
theorem Zmo {x0:List Int} {r:Int} (h:K6 x0=some r):Zu Tryz.prog Mo (Zcv x0 r):=
 Zr Tryz.func189 (Zj [] 6 (lr Ze x0 ee) (Zi2 h))
abbrev Zjv (x0:List Int) (r:Bool):Y:=(118,[.tr (x0.map Ze),.fn 250 []],bl r,[.undef,.undef])
theorem Zbi {x0:List Int} {r:Bool} (h:X0 x0=some r):Zu Tryz.prog Mo (Zjv x0 r):=
 Zr Tryz.func118 (bnK h λr0 Zn h=>rtK h (rr (Zmo Zn) ee))
abbrev Y10 (x0:Zo) (r:Bool):Y:=(220,[.agg (Zo.enc x0)],bl r,[.undef])
theorem Yl4 {x0:Zo} {r:Bool} (h:Zwv x0=some r):Zu Tryz.prog Mo (Y10 x0 r):=
 Zr Tryz.func220 (itK h (λg1 h=>have p1 {q p} (k:Scr q p):=(lr Ze x0.regs (gg g1 (kk 2 (lr Ze x0.fifo (kk 2 k)))));itK h (λg2 h=>bnK h λr0 Zn h=>have p2 {q p} (k:Scr q p):=(p1 (gg g2 (kk 3 (rr (Zbi Zn) (kk 2 k)))));itK h (λg3 h=>bnK h λr1 Zw h=>have p3 {q p} (k:Scr q p):=(p2 (gg g3 (kk 3 (rr (Zbi Zw) (kk 2 k)))));itK h (λg4 h=>bnK h λr2 Z6 h=>rtK h (p3 (gg g4 (kk 2 (rr (Znr Z6) (kk 1 ee)))))) λg4 h=>rtK h (p3 (gg g4 (kk 3 ee)))) λg3 h=>rtK h (p2 (gg g3 (kk 9 ee)))) λg2 h=>rtK h (p1 (gg g2 (kk 15 ee)))) λg1 h=>rtK h (lr Ze x0.regs (gg g1 (kk 20 ee))))
abbrev Yvc (x0:Zi) (r:Bool):Y:=(164,[.agg (Zi.enc x0)],bl r,[.undef])
theorem Z3l {x0:Zi} {r:Bool} (h:Zhb x0=some r):Zu Tryz.prog Mo (Yvc x0 r):=
 Zr Tryz.func164 (itK h (λg1 h=>bnK h λr0 Zn h=>itK h (λg2 h=>bnK h λr1 Zw h=>rtK h (lr Ze x0.mem (gg g1 (kk 2 (rr (Zup Zn) (kk 1 (gg g2 (kk 2 (rr (Yl4 Zw) (kk 1 ee)))))))))) λg2 h=>rtK h (lr Ze x0.mem (gg g1 (kk 2 (rr (Zup Zn) (kk 1 (gg g2 (kk 3 ee)))))))) λg1 h=>rtK h (lr Ze x0.mem (gg g1 (kk 7 ee))))
abbrev Yjd (x0:Zh) (r:Bool):Y:=(252,[.agg (Zh.enc x0)],bl r,[.undef])
theorem Zuz {x0:Zh} {r:Bool} (h:Zoy x0=some r):Zu Tryz.prog Mo (Yjd x0 r):=
 Zr Tryz.func252 (rtK h ee)
abbrev Zau (x0:List Zh) (r:Int):Y:=(264,[.tr (x0.map Zh.enc),.fn 252 []],il r,[.undef,.undef])
theorem Zft {x0:List Zh} {r:Int}:∀{m:Nat} {v0:Int},Qf x0 m v0=some r->CS (Zau x0 r) Tryz.f264 [1,0,1,0] [(0,.tr (x0.map Zh.enc)),(1,.fn 252 []),(7,il (x0.length:Int)),(8,il v0)] []:=by
 intro m
 induction m with
 | zero=>intro v0 h;cases h
 | succ m ih=>exactλ{v0} h=>itK h (λg1 h=>bnK h λa0 Zz h=>bnK h λr0 Zn h=>itK h (λg2 h=>rtK h (gg g1 (xb Zh.enc Zz (rr (Zuz Zn) (gg g2 ee))))) λg2 h=>Zj [] 16 (gg g1 (xb Zh.enc Zz (rr (Zuz Zn) (gg g2 ee)))) (ih h)) λg1 h=>rtK h (gg g1 ee)
theorem Zh7 {x0:List Zh} {r:Int} (h:Q5 x0=some r):Zu Tryz.prog Mo (Zau x0 r):=
 Zr Tryz.func264 (Zj [] 6 (lr Zh.enc x0 ee) (Zft h))
abbrev Zak (x0:List Zh) (r:List Zh):Y:=(251,[.own 54 (x0.map Zh.enc),.fn 252 []],.own 54 (r.map Zh.enc),[.undef,.undef])
theorem Zfn {x0:List Zh} {r:List Zh}:∀{m:Nat} {v0:List Zh} {v1:Int} {v2:Int},W7 x0 m v0 v1 v2=some r->CS (Zak x0 r) Tryz.f251 [1,1,1,0,1,0] [(0,.sl (1,1) 0 (v0.map Zh.enc).length),(1,.fn 252 []),(5,il v1),(6,il v2)] [rx 1 54 (v0.map Zh.enc)]:=by
 intro m
 induction m with
 | zero=>intro v0 v1 v2 h;cases h
 | succ m ih=>exactλ{v0} {v1} {v2} h=>itK h (λg1 h=>bnK h λa0 Zz h=>bnK h λr0 Zn h=>have p1 {q p} (k:Scr q p):=(lr Zh.enc v0 (gg g1 (xd Zh.enc Zz (rr (Zuz Zn) k))));itK h (λg2 h=>bnK h λa1 Yv h=>bnK h λy0 Wb h=>Zj [((1,1),(1,1))] 18 (p1 (gg g2 (xp Zh.enc Yv Wb (tp (.num (y0.map Zh.enc).length 0 0 []) (ob (Qm Zh.enc Wb) ee))))) (ih h)) λg2 h=>Zj [((1,1),(1,1))] 16 (p1 (gg g2 (ln Zh.enc v0 ee))) (ih h)) λg1 h=>bnK h λs0 hs0 h=>bnK h λy1 hy1 h=>bnK h λs1 hs1 h=>rtK h (lr Zh.enc v0 (gg g1 (tp (.num (v1:Int).toNat ((v0.length:Int):Int).toNat (((v0.length:Int):Int).toNat - (v1:Int).toNat) []) (kk 1 (tp (.app (y1.map Zh.enc) true [] 0) (tp (.num (0:Int).toNat (v1:Int).toNat ((v1:Int).toNat - (0:Int).toNat) []) (kk 1 (tp (.mk 0 (s1.map Zh.enc)) (oe Zh.enc v0 (ob (sln hs0).1 (ob (Yji Zh.enc v0) (ob (sll Zh.enc hs0) (ob (alr 8 Zh.enc_len v0) (ob (Eq.refl (((v0.length:Int):Int).toNat - (v1:Int).toNat)) (ob (clrl Zh.enc hy1) (ob (clrr Zh.enc hy1) (ob (clrs Zh.enc hy1) (ob (Eq.refl 0) (ob (sln hs1).2 (ob (sll Zh.enc hs1) (ob (alr 8 Zh.enc_len y1) (ob (Eq.refl ((v1:Int).toNat - (0:Int).toNat)) (ob (sla Zh.enc hs1) (ob (slr Zh.enc hs1) ee))))))))))))))))))))))))
theorem Zho {x0:List Zh} {r:List Zh} (h:Wk x0=some r):Zu Tryz.prog Mo (Zak x0 r):=
 Zr Tryz.func251 (bnK h λr1 Zw h=>have p1 {q p} (k:Scr q p):=(kk 1 (oe Zh.enc x0 (rr (Zh7 Zw) k)));itK h (λg1 h=>rtK h (p1 (gg g1 (kk 1 (oe Zh.enc x0 ee))))) λg1 h=>Zj [((1,1),(0,0))] 13 (p1 (gg g1 (ln Zh.enc x0 ee))) (Zfn h))
abbrev Ypp (x0:Za) (r:List Zh):Y:=(221,[.rp true (Za.enc x0) 0],.own 54 (r.map Zh.enc),[.undef])
theorem Yp6 {x0:Za} {r:List Zh} (h:Zr4 x0=some r):Zu Tryz.prog Mo (Ypp x0 r):=
 Zr Tryz.func221 (bnK h λr0 Zn h=>rtK h (kk 1 (ob (show 2=([x0.addr,x0.data_].map Zh.enc).length from rfl) (rr (Zho Zn) (kk 1 (oe Zh.enc r0 ee))))))
abbrev Km (x0:Za) (r:Bool):Y:=(165,[.rp true (Za.enc x0) 0],bl r,[.undef])
theorem Zjj {x0:Za} {r:Bool} {k_L1:(List Int)->(List Zh)->Int->Int->Option Bool} (i_L1:∀{v0:List Int} {v1:List Zh} {v2:Int} {v3:Int},k_L1 v0 v1 v2 v3=some r->CS (Km x0 r) Tryz.f165 [1,1,0,1,0] [(0,.rp true (Za.enc x0) 0),(3,.sl (1,1) 0 (v0.map Ze).length),(18,.sl (1,2) 0 (v1.map Zh.enc).length),(19,il v2),(20,il v3)] [rx 1 3 (v0.map Ze),rx 2 54 (v1.map Zh.enc)]) {vb0:Zh} {v0:List Int} {v1:List Zh} {v2:Int} {v3:Int} {v4:Bool} (h:Kr x0 k_L1 vb0 v0 v1 v2 v3 v4=some r):CS (Km x0 r) Tryz.f165 [1,1,0,1,0,0,1,1,0,0,1,0,1] [(0,.rp true (Za.enc x0) 0),(3,.sl (1,2) 0 (v0.map Ze).length),(5,.ptr (1,1) 0 0),(18,.sl (1,3) 0 (v1.map Zh.enc).length),(19,il v2),(20,il v3),(48,bl v4)] [bx 1 (Zh.enc vb0),rx 2 3 (v0.map Ze),rx 3 54 (v1.map Zh.enc)]:=
 itK h (λg1 h=>rtK h (gg g1 ee)) λg1 h=>bnK h λa0 Zz h=>bnK h λy0 Wb h=>Zj [((1,1),(1,2)),((1,2),(1,3))] 5 (gg g1 (xd Ze Zz (xp Ze Zz Wb (tp (.num (y0.map Ze).length 0 0 []) (ob (Qm Ze Wb) (ln Zh.enc v1 ee)))))) (i_L1 h)
theorem Zjn {x0:Za} {r:Bool} {v5:Bool} (h:Qj x0 v5=some r):CS (Km x0 r) Tryz.f165 [1,1,1,1,1,1,1,1,0,0,1,1,1,1,1] [(0,.rp true (Za.enc x0) 0),(9,.ptr (1,1) 0 0),(179,bl v5)] [bx 1 (Zh.enc x0.data_)]:=
 itK h (λg1 h=>rtK h (gg g1 ee)) λg1 h=>itK h (λg2 h=>rtK h (gg g1 (gg g2 (kk 7 ee)))) λg2 h=>itK h (λg3 h=>itK h (λg4 h=>rtK h (gg g1 (gg g2 (kk 3 (gg g3 (kk 5 (gg g4 (kk 8 ee)))))))) λg4 h=>rtK h (gg g1 (gg g2 (kk 3 (gg g3 (kk 5 (gg g4 (kk 8 ee)))))))) λg3 h=>rtK h (gg g1 (gg g2 (kk 3 (gg g3 (kk 14 ee)))))
theorem Zt6 {x0:Za} {r:Bool} {vb1:Zb} {v6:Bool} (h:Zbn x0 vb1 v6=some r):CS (Km x0 r) Tryz.f165 [1,1,1,1,1,1,1,1,0,0,1,1,1] [(0,.rp true (Za.enc x0) 0),(9,.ptr (1,1) 0 0),(10,.ptr (1,2) 0 0),(165,bl v6)] [bx 1 (Zh.enc x0.data_),bx 2 (Zb.enc vb1)]:=
 itK h (λg1 h=>rtK h (gg g1 ee)) λg1 h=>itK h (λg2 h=>itK h (λg3 h=>Zj [((1,1),(1,1))] 3 (gg g1 (gg g2 (kk 2 (gg g3 (kk 9 ee))))) (Zjn h)) λg3 h=>Zj [((1,1),(1,1))] 3 (gg g1 (gg g2 (kk 2 (gg g3 (kk 9 ee))))) (Zjn h)) λg2 h=>Zj [((1,1),(1,1))] 3 (gg g1 (gg g2 (kk 4 ee))) (Zjn h)
theorem Zkg {x0:Za} {r:Bool} {vb1:Zb} {v7:Bool} (h:Jx x0 vb1 v7=some r):CS (Km x0 r) Tryz.f165 [1,1,1,1,1,1,1,1,0,0,1] [(0,.rp true (Za.enc x0) 0),(9,.ptr (1,1) 0 0),(10,.ptr (1,2) 0 0),(141,bl v7)] [bx 1 (Zh.enc x0.data_),bx 2 (Zb.enc vb1)]:=
 itK h (λg1 h=>rtK h (gg g1 ee)) λg1 h=>itK h (λg2 h=>Zj [((1,1),(1,1)),((1,2),(1,2))] 3 (gg g1 (gg g2 (kk 8 ee))) (Zt6 h)) λg2 h=>Zj [((1,1),(1,1)),((1,2),(1,2))] 3 (gg g1 (gg g2 (kk 8 ee))) (Zt6 h)
theorem Qo {x0:Za} {r:Bool} {v8:Bool} (h:Xf x0 v8=some r):CS (Km x0 r) Tryz.f165 [1,1,1,1,0,1,1] [(0,.rp true (Za.enc x0) 0),(122,bl v8)] []:=
 itK h (λg1 h=>rtK h (gg g1 ee)) λg1 h=>itK h (λg2 h=>rtK h (gg g1 (gg g2 ee))) λg2 h=>bnK h λa1 Yv h=>have p1 {q p} (k:Scr q p):=(gg g1 (gg g2 (xb Zb.enc Yv k)));itK h (λg3 h=>Zj [((1,1),(2,4096)),((1,2),(4,8192))] 15 (p1 (gg g3 (kk 15 ee))) (Zkg h)) λg3 h=>bnK h λr0 Zn h=>itK h (λg4 h=>Zj [((1,1),(2,4096)),((1,2),(4,8192))] 15 (p1 (gg g3 (kk 8 (rr (Yi Zn) (kk 2 (gg g4 (kk 4 ee))))))) (Zkg h)) λg4 h=>bnK h λr1 Zw h=>Zj [((1,1),(2,4096)),((1,2),(4,8192))] 15 (p1 (gg g3 (kk 8 (rr (Yi Zn) (kk 2 (gg g4 (kk 2 (rr (Yi Zw) (kk 2 ee))))))))) (Zkg h)
end Go.Proofs.YtagdmghmblplbaaGreat.Ev
