/- A part of the proof of FnExactPlay: see the text YtagdmghmblplbaaGreatLawFnExactPlay for what is proved and its conditions. Conditions here: those in each line. -/
import Derived.Test.YtagdmghmblplbaaGreatA5
set_option linter.unusedSimpArgs false
set_option linter.unusedVariables false
set_option linter.unusedSectionVars false
namespace Go.Proofs.YtagdmghmblplbaaGreat.Ev
open Go Go.Proofs
variable [Anchor]
theorem Z0j {x0:Za} {x1:Ze} {r:Za} {vb0:Zg} (h:Ze5 x0 x1 vb0=some r):CS (Zbp x0 x1 r) Tryz.f152 [1,1,1,1,1,1,1,1,1,1,1,1,1] [(2,.ptr (1,1) 0 0),(4,.ptr (1,10) 0 0),(5,.ptr (1,19) 0 0)] (Za.bk {x0 with addr:=Zg.z0} 2++[bx 1 (Za.rl {x0 with addr:=Zg.z0} 2)]++Za.bk Za.z0 11++[bx 10 (Za.rl Za.z0 11),bx 19 (Zg.enc vb0)]):=
 rtK h (kk 8 (Za.so x0 ee))
theorem Ze4 {x0:Za} {x1:Ze} {r:Za} {vb0:Zg} {v0:Bool} (h:Km x0 x1 vb0 v0=some r):CS (Zbp x0 x1 r) Tryz.f152 [1,1,1,1,1,1,1,1,1,1,1,1,0,1] [(2,.ptr (1,1) 0 0),(4,.ptr (1,10) 0 0),(5,.ptr (1,19) 0 0),(128,bl v0)] (Za.bk {x0 with addr:=Zg.z0} 2++[bx 1 (Za.rl {x0 with addr:=Zg.z0} 2)]++Za.bk Za.z0 11++[bx 10 (Za.rl Za.z0 11),bx 19 (Zg.enc vb0)]):=
 itK h (λg1 h=>Zk (ffi 1 19) 2 (gg g1 (Za.sc {x0 with addr:=Zg.z0} (Za.sc Za.z0 ee))) (Z0j h)) λg1 h=>Zk (ffi 1 19) 2 (gg g1 (Za.sc {x0 with addr:=Zg.z0} (Za.sc Za.z0 ee))) (Z0j h)
theorem Zz3 {x0:Za} {x1:Ze} {r:Za} {vb0:Zg} {vb1:Zb} {v1:Int} {v2:Int} (h:Zce x0 x1 vb0 vb1 v1 v2=some r):CS (Zbp x0 x1 r) Tryz.f152 [1,1,1,1,1,1,1,1,1,1,1,1] [(2,.ptr (1,1) 0 0),(4,.ptr (1,10) 0 0),(5,.ptr (1,19) 0 0),(6,.ptr (1,20) 0 0),(9,il v1),(10,il v2)] (Za.bk {x0 with addr:=Zg.z0} 2++[bx 1 (Za.rl {x0 with addr:=Zg.z0} 2)]++Za.bk Za.z0 11++[bx 10 (Za.rl Za.z0 11),bx 19 (Zg.enc vb0),bx 20 (Zb.enc vb1)]):=
 itK h (λg1 h=>itK h (λg2 h=>itK h (λg3 h=>itK h (λg4 h=>Zk (ffi 1 19) 3 (gg g1 (kk 2 (gg g2 (kk 2 (gg g3 (kk 3 (gg g4 (kk 5 (Za.sc {x0 with addr:=Zg.z0} (Za.sc Za.z0 ee)))))))))) (Ze4 h)) λg4 h=>Zk (ffi 1 19) 3 (gg g1 (kk 2 (gg g2 (kk 2 (gg g3 (kk 3 (gg g4 (kk 5 (Za.sc {x0 with addr:=Zg.z0} (Za.sc Za.z0 ee)))))))))) (Ze4 h)) λg3 h=>Zk (ffi 1 19) 3 (gg g1 (kk 2 (gg g2 (kk 2 (gg g3 (kk 9 (Za.sc {x0 with addr:=Zg.z0} (Za.sc Za.z0 ee)))))))) (Ze4 h)) λg2 h=>Zk (ffi 1 19) 3 (gg g1 (kk 2 (gg g2 (kk 12 (Za.sc {x0 with addr:=Zg.z0} (Za.sc Za.z0 ee)))))) (Ze4 h)) λg1 h=>Zk (ffi 1 19) 3 (gg g1 (kk 15 (Za.sc {x0 with addr:=Zg.z0} (Za.sc Za.z0 ee)))) (Ze4 h)
theorem Zer {x0:Za} {x1:Ze} {r:Za} {vb0:Zg} {vb1:Zb} {v1:Int} {v2:Int} {v3:Bool} (h:Ko x0 x1 vb0 vb1 v1 v2 v3=some r):CS (Zbp x0 x1 r) Tryz.f152 [1,1,1,1,1,1,1,1,1,1,1,0,1] [(2,.ptr (1,1) 0 0),(4,.ptr (1,10) 0 0),(5,.ptr (1,19) 0 0),(6,.ptr (1,20) 0 0),(9,il v1),(10,il v2),(104,bl v3)] (Za.bk {x0 with addr:=Zg.z0} 2++[bx 1 (Za.rl {x0 with addr:=Zg.z0} 2)]++Za.bk Za.z0 11++[bx 10 (Za.rl Za.z0 11),bx 19 (Zg.enc vb0),bx 20 (Zb.enc vb1)]):=
 itK h (λg1 h=>Zk (ffi 1 20) 2 (gg g1 (Za.sc {x0 with addr:=Zg.z0} (Za.sc Za.z0 ee))) (Zz3 h)) λg1 h=>Zk (ffi 1 20) 2 (gg g1 (Za.sc {x0 with addr:=Zg.z0} (Za.sc Za.z0 ee))) (Zz3 h)
theorem Z0z {x0:Za} {x1:Ze} {r:Za} {vb0:Zg} {vb1:Zb} {v1:Int} {v2:Int} (h:Zck x0 x1 vb0 vb1 v1 v2=some r):CS (Zbp x0 x1 r) Tryz.f152 [1,1,1,1,1,1,1,1,1,1,1] [(2,.ptr (1,1) 0 0),(4,.ptr (1,10) 0 0),(5,.ptr (1,19) 0 0),(6,.ptr (1,20) 0 0),(9,il v1),(10,il v2)] (Za.bk {x0 with addr:=Zg.z0} 2++[bx 1 (Za.rl {x0 with addr:=Zg.z0} 2)]++Za.bk Za.z0 11++[bx 10 (Za.rl Za.z0 11),bx 19 (Zg.enc vb0),bx 20 (Zb.enc vb1)]):=
 itK h (λg1 h=>itK h (λg2 h=>itK h (λg3 h=>Zk (ffi 1 20) 3 (gg g1 (kk 2 (gg g2 (kk 2 (gg g3 (kk 11 (Za.sc {x0 with addr:=Zg.z0} (Za.sc Za.z0 ee)))))))) (Zer h)) λg3 h=>itK h (λg4 h=>Zk (ffi 1 20) 3 (gg g1 (kk 2 (gg g2 (kk 2 (gg g3 (kk 4 (gg g4 (kk 6 (Za.sc {x0 with addr:=Zg.z0} (Za.sc Za.z0 ee)))))))))) (Zer h)) λg4 h=>Zk (ffi 1 20) 3 (gg g1 (kk 2 (gg g2 (kk 2 (gg g3 (kk 4 (gg g4 (kk 6 (Za.sc {x0 with addr:=Zg.z0} (Za.sc Za.z0 ee)))))))))) (Zer h)) λg2 h=>Zk (ffi 1 20) 3 (gg g1 (kk 2 (gg g2 (kk 11 (Za.sc {x0 with addr:=Zg.z0} (Za.sc Za.z0 ee)))))) (Zer h)) λg1 h=>Zk (ffi 1 20) 3 (gg g1 (kk 14 (Za.sc {x0 with addr:=Zg.z0} (Za.sc Za.z0 ee)))) (Zer h)
theorem Zz6 {x0:Za} {x1:Ze} {r:Za} {vb0:Zg} {vb1:Zb} {v1:Int} {v2:Int} {v4:Bool} (h:Zcf x0 x1 vb0 vb1 v1 v2 v4=some r):CS (Zbp x0 x1 r) Tryz.f152 [1,1,1,1,1,1,1,1,1,1,0,1] [(2,.ptr (1,1) 0 0),(4,.ptr (1,10) 0 0),(5,.ptr (1,19) 0 0),(6,.ptr (1,20) 0 0),(9,il v1),(10,il v2),(77,bl v4)] (Za.bk {x0 with addr:=Zg.z0} 2++[bx 1 (Za.rl {x0 with addr:=Zg.z0} 2)]++Za.bk Za.z0 11++[bx 10 (Za.rl Za.z0 11),bx 19 (Zg.enc vb0),bx 20 (Zb.enc vb1)]):=
 itK h (λg1 h=>Zk (ffi 1 20) 2 (gg g1 (Za.sc {x0 with addr:=Zg.z0} (Za.sc Za.z0 ee))) (Z0z h)) λg1 h=>Zk (ffi 1 20) 2 (gg g1 (Za.sc {x0 with addr:=Zg.z0} (Za.sc Za.z0 ee))) (Z0z h)
theorem Zzq {x0:Za} {x1:Ze} {r:Za} {vb0:Zg} {vb1:Zb} {v1:Int} {v2:Int} (h:Zcj x0 x1 vb0 vb1 v1 v2=some r):CS (Zbp x0 x1 r) Tryz.f152 [1,1,1,1,1,1,1,1,1,1] [(2,.ptr (1,1) 0 0),(4,.ptr (1,10) 0 0),(5,.ptr (1,19) 0 0),(6,.ptr (1,20) 0 0),(9,il v1),(10,il v2)] (Za.bk {x0 with addr:=Zg.z0} 2++[bx 1 (Za.rl {x0 with addr:=Zg.z0} 2)]++Za.bk Za.z0 11++[bx 10 (Za.rl Za.z0 11),bx 19 (Zg.enc vb0),bx 20 (Zb.enc vb1)]):=
 itK h (λg1 h=>Zk (ffi 1 20) 3 (gg g1 (kk 3 (Za.sc {x0 with addr:=Zg.z0} (Za.sc Za.z0 ee)))) (Zz6 h)) λg1 h=>Zk (ffi 1 20) 3 (gg g1 (kk 3 (Za.sc {x0 with addr:=Zg.z0} (Za.sc Za.z0 ee)))) (Zz6 h)
theorem Z0b {x0:Za} {x1:Ze} {r:Za} {vb2:Zb} {vb3:Zi} {v5:Int} {v1:Int} {v2:Int} {v6:Bool} (h:Zca x0 x1 vb2 vb3 v5 v1 v2 v6=some r):CS (Zbp x0 x1 r) Tryz.f152 [1,1,1,1,1,1,1,1,1,0,0,1] [(2,.ptr (1,1) 0 0),(3,.ptr (1,10) 0 0),(4,.ptr (1,11) 0 0),(5,.ptr (1,20) 0 0),(6,.ptr (1,21) 0 0),(7,.ptr (1,22) 0 0),(8,il v5),(9,il v1),(10,il v2),(63,bl v6)] (Za.bk {x0 with addr:=Zg.z0} 2++[bx 1 (Za.rl {x0 with addr:=Zg.z0} 2),bx 10 (Ze.enc x1)]++Za.bk Za.z0 12++[bx 11 (Za.rl Za.z0 12),bx 20 (Zg.enc x0.addr),bx 21 (Zb.enc vb2),bx 22 (Zi.enc vb3)]):=
 itK h (λg1 h=>Zk (ffi 1 9++[((1,10),(1,11)),((1,11),(1,12)),((1,12),(1,13)),((1,13),(1,14)),((1,14),(1,15)),((1,15),(1,16)),((1,16),(1,17)),((1,17),(1,18)),((1,18),(1,19)),((1,19),(1,20)),((1,20),(1,21))]) 3 (gg g1 (Za.sc {x0 with addr:=Zg.z0} (Za.sc Za.z0 ee))) (Zzq h)) λg1 h=>bnK h λr0 Zo h=>bnK h λr1 Zw h=>bnK h λr2 Z6 h=>Zk (ffi 1 9++[((1,10),(1,11)),((1,11),(1,12)),((1,12),(1,13)),((1,13),(1,14)),((1,14),(1,15)),((1,15),(1,16)),((1,16),(1,17)),((1,17),(1,18)),((1,18),(1,19)),((1,19),(1,20)),((1,20),(1,21))]) 5 (gg g1 (kk 1 (oe Zc.enc x0.conf.masters (rr (Yx8 Zo) (rr (Z9r Zw) (kk 3 (Zj.so x0.model (rr (Yb4 Z6) (Za.sc {x0 with addr:=Zg.z0} (Za.sc Za.z0 ee)))))))))) (Zzq h)
theorem Yox {x0:Za} {x1:Ze} {r:Za} (h:Ztk x0 x1=some r):Zv Tryz.prog Mo (Zbp x0 x1 r):=
 Zt Tryz.func152 (itK h (λg1 h=>rtK h (gg g1 (kk 8 (Za.so x0 ee)))) λg1 h=>bnK h λa0 Z0 h=>bnK h λa1 Y3 h=>bnK h λr3 Yu h=>bnK h λr4 Kx h=>bnK h λr5 hr5 h=>have p1 {q p} (k:Scr q p):=(gg g1 (xd Zb.enc Z0 (xb Zi.enc Y3 (rr (Zpr Yu) (rr (Z25 Kx) (rr (Yw3 hr5) k))))));itK h (λg2 h=>Zk ([((1,1),(1,0))]++Za.ff 2 0 0++[((1,10),(1,1024)),((1,11),(1,2048)),((1,20),(2,2048)),((1,21),(5,6144)),((1,22),(6,4096))]) 25 (p1 (gg g2 (kk 2 (Za.sc {x0 with addr:=Zg.z0} ee)))) (Z0b h)) λg2 h=>Zk ([((1,1),(1,0))]++Za.ff 2 0 0++[((1,10),(1,1024)),((1,11),(1,2048)),((1,20),(2,2048)),((1,21),(5,6144)),((1,22),(6,4096))]) 25 (p1 (gg g2 (kk 2 (Za.sc {x0 with addr:=Zg.z0} ee)))) (Z0b h))
abbrev Yqi (x0:Zb) (r:Bool):Y:=(207,[.agg (Zb.enc x0)],bl r,[.undef])
theorem Zzl {x0:Zb} {r:Bool} (h:Zm1 x0=some r):Zv Tryz.prog Mo (Yqi x0 r):=
 Zt Tryz.func207 (bnK h λr0 Zo h=>itK h (λg1 h=>bnK h λr1 Zw h=>rtK h (rr (J9 Zo) (gg g1 (kk 3 (rr (Zeu Zw) (kk 2 ee)))))) λg1 h=>rtK h (rr (J9 Zo) (gg g1 (kk 5 ee))))
abbrev Z4c (x0:Zf) (x1:Zc) (r:Zf×Bool):Y:=(208,[.agg (Zf.enc x0),.agg (Zc.enc x1)],.tup [.agg (Zf.enc r.1),bl r.2],[.undef,.undef])
theorem Zme {x0:Zf} {x1:Zc} {r:Zf×Bool} {v0:Bool} (h:Zc6 x0 x1 v0=some r):CS (Z4c x0 x1 r) Tryz.f208 [1,0,1] [(2,.ptr (1,1) 0 0),(4,.ptr (1,2) 0 0),(19,bl v0)] [bx 1 (Zf.enc x0),bx 2 (Zf.enc Zf.z0)]:=
 itK h (λg1 h=>rtK h (gg g1 ee)) λg1 h=>rtK h (gg g1 ee)
theorem Yjv {x0:Zf} {x1:Zc} {r:Zf×Bool} (h:Znn x0 x1=some r):Zv Tryz.prog Mo (Z4c x0 x1 r):=
 Zt Tryz.func208 (itK h (λg1 h=>Zk [((1,1),(1,0)),((1,2),(1,2048))] 5 (gg g1 (kk 8 ee)) (Zme h)) λg1 h=>bnK h λr0 Zo h=>itK h (λg2 h=>Zk [((1,1),(1,0)),((1,2),(1,2048))] 5 (gg g1 (kk 2 (rr (Zna Zo) (kk 2 (gg g2 (kk 3 ee)))))) (Zme h)) λg2 h=>Zk [((1,1),(1,0)),((1,2),(1,2048))] 5 (gg g1 (kk 2 (rr (Zna Zo) (kk 2 (gg g2 (kk 3 ee)))))) (Zme h))
abbrev Z86 (x0:Zb) (r:Zb×Bool):Y:=(210,[.agg (Zb.enc x0)],.tup [.agg [.own 104 (r.1.queue.map Zi.enc),il r.1.beat,il r.1.done,il r.1.tries,bl r.1.parted,bl r.1.broken],bl r.2],[.undef])
theorem Zy4 {x0:Zb} {r:Zb×Bool} {vb0:Zb} {v0:Bool} (h:Zis x0 vb0 v0=some r):CS (Z86 x0 r) Tryz.f210 [1,1,0,1] [(2,.ptr (1,1) 0 0),(4,.ptr (1,3) 0 0),(17,bl v0)] [rx 2 104 ([].map Zi.enc),bx 1 [.sl (1,2) 0 ([].map Zi.enc).length,il 0,il 0,il 0,bl false,bl false],rx 4 104 (vb0.queue.map Zi.enc),bx 3 [.sl (1,4) 0 (vb0.queue.map Zi.enc).length,il vb0.beat,il vb0.done,il vb0.tries,bl vb0.parted,bl vb0.broken]]:=
 itK h (λg1 h=>rtK h (gg g1 (kk 1 (oe Zi.enc vb0.queue ee)))) λg1 h=>rtK h (gg g1 (kk 1 (oe Zi.enc vb0.queue ee)))
theorem Yoa {x0:Zb} {r:Zb×Bool} (h:Ztm x0=some r):Zv Tryz.prog Mo (Z86 x0 r):=
 Zt Tryz.func210 (bnK h λr0 Zo h=>bnK h λr1 Zw h=>itK h (λg1 h=>Zk [((1,1),(1,1024)),((1,3),(2,2048)),((1,4),(2,1024))] 7 (rr (Zec Zo) (rr (Zzl Zw) (gg g1 (kk 6 (ln Zi.enc r0.queue ee))))) (Zy4 h)) λg1 h=>Zk [((1,1),(1,1024)),((1,3),(2,2048)),((1,4),(2,1024))] 7 (rr (Zec Zo) (rr (Zzl Zw) (gg g1 (kk 6 (ln Zi.enc r0.queue ee))))) (Zy4 h))
abbrev Zvy (x0:Z5) (x1:Zh) (x2:List Bool) (r:Z5×Int):Y:=(209,[.agg (Z5.enc x0),.agg (Zh.enc x1),.tr (x2.map Z8)],.tup [.agg (Z5.enc r.1),il r.2],[.undef,.undef,.undef])
theorem Yfx {x0:Z5} {x1:Zh} {x2:List Bool} {r:Z5×Int}:∀{m:Nat} {v0:Int},Zkw x0 x1 x2 m v0=some r->CS (Zvy x0 x1 x2 r) Tryz.f209 [1,1,1,0,1,0] [(2,.tr (x2.map Z8)),(3,.ptr (1,1) 0 0),(4,.ptr (1,2) 0 0),(6,.ptr (1,3) 0 0),(8,il v0)] [bx 1 (Z5.enc x0),bx 2 (Zh.enc x1),bx 3 (Z5.enc Z5.z0)]:=by
 intro m
 induction m with
 | zero=>intro v0 h;cases h
 | succ m ih=>exactλ{v0} h=>itK h (λg1 h=>bnK h λn0 hn0 h=>bnK h λa0 Z0 h=>have p1 {q p} (k:Scr q p):=(lr Z8 x2 (gg g1 (lr Z8 x2 (tp (.obl) (ob (nz0 hn0) (xb Z8 Z0 k))))));itK h (λg2 h=>bnK h λr0 Zo h=>rtK h (p1 (gg g2 (rr (Z6y Zo) ee)))) λg2 h=>Zk (ffi 1 3) 16 (p1 (gg g2 ee)) (ih h)) λg1 h=>rtK h (lr Z8 x2 (gg g1 ee))
theorem Z1i {x0:Z5} {x1:Zh} {x2:List Bool} {r:Z5×Int} {v1:Bool} (h:Zls x0 x1 x2 v1=some r):CS (Zvy x0 x1 x2 r) Tryz.f209 [1,1,0,1] [(2,.tr (x2.map Z8)),(3,.ptr (1,1) 0 0),(4,.ptr (1,2) 0 0),(6,.ptr (1,3) 0 0),(32,bl v1)] [bx 1 (Z5.enc x0),bx 2 (Zh.enc x1),bx 3 (Z5.enc Z5.z0)]:=
 itK h (λg1 h=>rtK h (gg g1 ee)) λg1 h=>Zk (ffi 1 3) 6 (gg g1 ee) (Yfx h)
theorem Z2b {x0:Z5} {x1:Zh} {x2:List Bool} {r:Z5×Int} {v2:Bool} (h:Zlf x0 x1 x2 v2=some r):CS (Zvy x0 x1 x2 r) Tryz.f209 [1,0,1] [(2,.tr (x2.map Z8)),(3,.ptr (1,1) 0 0),(4,.ptr (1,2) 0 0),(6,.ptr (1,3) 0 0),(21,bl v2)] [bx 1 (Z5.enc x0),bx 2 (Zh.enc x1),bx 3 (Z5.enc Z5.z0)]:=
 itK h (λg1 h=>rtK h (gg g1 ee)) λg1 h=>itK h (λg2 h=>bnK h λa1 Y3 h=>Zk (ffi 1 3) 5 (gg g1 (gg g2 (kk 3 (xb Z8 Y3 (kk 2 ee))))) (Z1i h)) λg2 h=>Zk (ffi 1 3) 5 (gg g1 (gg g2 (kk 5 ee))) (Z1i h)
theorem Ytp {x0:Z5} {x1:Zh} {x2:List Bool} {r:Z5×Int} (h:Zvs x0 x1 x2=some r):Zv Tryz.prog Mo (Zvy x0 x1 x2 r):=
 Zt Tryz.func209 (bnK h λr1 Zw h=>itK h (λg1 h=>Zk [((1,1),(1,0)),((1,2),(1,1024)),((1,3),(1,2048))] 5 (rr (Zwe Zw) (gg g1 (kk 6 ee))) (Z2b h)) λg1 h=>Zk [((1,1),(1,0)),((1,2),(1,1024)),((1,3),(1,2048))] 5 (rr (Zwe Zw) (gg g1 (kk 1 (lr Z8 x2 (kk 3 (lr Zc.enc x1.masters (kk 2 ee))))))) (Z2b h))
abbrev Qk (x0:Za) (r:Za):Y:=(151,[.agg (Za.ow x0)],.agg (Za.ow r),[.undef])
theorem Z0a {x0:Za} {r:Za} {k_L2:Za->Zg->(List Bool)->Int->Option Za} (i_L2:∀{vb0:Za} {vb1:Zg} {v0:List Bool} {v1:Int},k_L2 vb0 vb1 v0 v1=some r->CS (Qk x0 r) Tryz.f151 [1,1,1,1,1,0,1,0] [(1,.ptr (1,1) 0 0),(2,.ptr (1,10) 0 0),(3,.sl (1,20) 0 (v0.map Z8).length),(5,.ptr (1,19) 0 0),(6,il v1)] (Za.bk vb0 2++[bx 1 (Za.rl vb0 2)]++Za.bk Za.z0 11++[bx 10 (Za.rl Za.z0 11),bx 19 (Zg.enc vb1),rx 20 4 (v0.map Z8)])) {vb0:Za} {vb1:Zg} {v0:List Bool} {v1:Int} {v2:Bool} (h:Ziw x0 k_L2 vb0 vb1 v0 v1 v2=some r):CS (Qk x0 r) Tryz.f151 [1,1,1,1,1,0,1,0,0,1,0,0,1] [(1,.ptr (1,1) 0 0),(2,.ptr (1,10) 0 0),(3,.sl (1,20) 0 (v0.map Z8).length),(5,.ptr (1,19) 0 0),(6,il v1),(84,bl v2)] (Za.bk vb0 2++[bx 1 (Za.rl vb0 2)]++Za.bk Za.z0 11++[bx 10 (Za.rl Za.z0 11),bx 19 (Zg.enc vb1),rx 20 4 (v0.map Z8)]):=
 itK h (λg1 h=>bnK h λa0 Z0 h=>bnK h λa1 Y3 h=>bnK h λr0 Zo h=>bnK h λy0 W6 h=>Zk (ffi 1 20) 6 (gg g1 (xd Zf.enc Z0 (xd Zc.enc Y3 (rr (Yjv Zo) (xp Zf.enc Z0 W6 (ln Z8 v0 (tq (Za.nm {vb0 with buckets:=y0}) (oe Zc.enc vb0.conf.masters (oe Zb.enc vb0.m (ob (Q9 Zf.enc W6) (oe Zd vb0.splits (Zj.so vb0.model (oe Zr.enc vb0.log (Za.sc Za.z0 ee)))))))))))))) (i_L2 h)) λg1 h=>Zk (ffi 1 20) 4 (gg g1 (ln Z8 v0 (Za.sc vb0 (Za.sc Za.z0 ee)))) (i_L2 h)
theorem Zxh {x0:Za} {r:Za} {vb0:Za} {vb1:Zg} {vb2:Zb} (h:Zhc x0 vb0 vb1 vb2=some r):CS (Qk x0 r) Tryz.f151 [1,1,1,1,1,1,1,1,1,1,1,1,1] [(1,.ptr (1,1) 0 0),(2,.ptr (1,10) 0 0),(5,.ptr (1,19) 0 0),(7,.ptr (1,20) 0 0)] (Za.bk vb0 2++[bx 1 (Za.rl vb0 2)]++Za.bk Za.z0 11++[bx 10 (Za.rl Za.z0 11),bx 19 (Zg.enc vb1),bx 20 (Zb.enc vb2)]):=
 bnK h λr1 Zw h=>bnK h λa2 Ks h=>bnK h λy1 hy1 h=>rtK h (rr (Yoa Zw) (xq Zb.enc Ks y1 (kk 9 (oe Zi.enc r1.1.queue (ob (Z0r Zb.enc hy1) (oe Zc.enc vb0.conf.masters (ob (Q9 Zb.enc hy1) (oe Zf.enc vb0.buckets (oe Zd vb0.splits (Zj.so vb0.model (oe Zr.enc vb0.log ee)))))))))))
theorem Zo5 {x0:Za} {r:Za} {vb0:Za} {vb1:Zg} {vb2:Zb} {v3:Bool} (h:Zdp x0 vb0 vb1 vb2 v3=some r):CS (Qk x0 r) Tryz.f151 [1,1,1,1,1,1,1,1,1,1,1,1,0,1] [(1,.ptr (1,1) 0 0),(2,.ptr (1,10) 0 0),(5,.ptr (1,19) 0 0),(7,.ptr (1,20) 0 0),(165,bl v3)] (Za.bk vb0 2++[bx 1 (Za.rl vb0 2)]++Za.bk Za.z0 11++[bx 10 (Za.rl Za.z0 11),bx 19 (Zg.enc vb1),bx 20 (Zb.enc vb2)]):=
 itK h (λg1 h=>Zk (ffi 1 20) 4 (gg g1 (Za.sc {vb0 with holder:=vb1.who,held:=0} (Za.sc Za.z0 ee))) (Zxh h)) λg1 h=>Zk (ffi 1 20) 2 (gg g1 (Za.sc vb0 (Za.sc Za.z0 ee))) (Zxh h)
theorem Z0w {x0:Za} {r:Za} {vb0:Za} {vb1:Zg} {vb2:Zb} (h:Zex x0 vb0 vb1 vb2=some r):CS (Qk x0 r) Tryz.f151 [1,1,1,1,1,1,1,1,1,1,1,1] [(1,.ptr (1,1) 0 0),(2,.ptr (1,10) 0 0),(5,.ptr (1,19) 0 0),(7,.ptr (1,20) 0 0)] (Za.bk vb0 2++[bx 1 (Za.rl vb0 2)]++Za.bk Za.z0 11++[bx 10 (Za.rl Za.z0 11),bx 19 (Zg.enc vb1),bx 20 (Zb.enc vb2)]):=
 bnK h λa3 ha3 h=>itK h (λg1 h=>itK h (λg2 h=>Zk (ffi 1 20) 3 (xb Zi.enc ha3 (gg g1 (kk 3 (gg g2 (kk 3 (Za.sc vb0 (Za.sc Za.z0 ee))))))) (Zo5 h)) λg2 h=>Zk (ffi 1 20) 3 (xb Zi.enc ha3 (gg g1 (kk 3 (gg g2 (kk 3 (Za.sc vb0 (Za.sc Za.z0 ee))))))) (Zo5 h)) λg1 h=>Zk (ffi 1 20) 3 (xb Zi.enc ha3 (gg g1 (kk 7 (Za.sc vb0 (Za.sc Za.z0 ee))))) (Zo5 h)
theorem Zzt {x0:Za} {r:Za} {vb0:Za} {vb1:Zg} (h:Jg x0 vb0 vb1=some r):CS (Qk x0 r) Tryz.f151 [1,1,1,1,1,1,1] [(1,.ptr (1,1) 0 0),(2,.ptr (1,10) 0 0),(5,.ptr (1,19) 0 0)] (Za.bk vb0 2++[bx 1 (Za.rl vb0 2)]++Za.bk Za.z0 11++[bx 10 (Za.rl Za.z0 11),bx 19 (Zg.enc vb1)]):=
 itK h (λg1 h=>rtK h (gg g1 (kk 8 (Za.so vb0 ee)))) λg1 h=>bnK h λa4 ha4 h=>itK h (λg2 h=>Zk (ffi 1 19++[((1,20),(3,6144))]) 13 (gg g1 (xd Zb.enc ha4 (gg g2 (kk 5 (Za.sc vb0 (Za.sc Za.z0 ee)))))) (Z0w h)) λg2 h=>Zk (ffi 1 19++[((1,20),(3,6144))]) 13 (gg g1 (xd Zb.enc ha4 (gg g2 (kk 5 (Za.sc vb0 (Za.sc Za.z0 ee)))))) (Z0w h)
theorem Zz9 {x0:Za} {r:Za} {vb0:Za} {vb1:Zg} {v0:List Bool} {v4:Bool} (h:Zel x0 vb0 vb1 v0 v4=some r):CS (Qk x0 r) Tryz.f151 [1,1,1,1,1,1,0,1] [(1,.ptr (1,1) 0 0),(2,.ptr (1,10) 0 0),(3,.sl (1,20) 0 (v0.map Z8).length),(5,.ptr (1,19) 0 0),(113,bl v4)] (Za.bk vb0 2++[bx 1 (Za.rl vb0 2)]++Za.bk Za.z0 11++[bx 10 (Za.rl Za.z0 11),bx 19 (Zg.enc vb1),rx 20 4 (v0.map Z8)]):=
 itK h (λg1 h=>bnK h λr2 Z6 h=>Zk (ffi 1 19) 4 (gg g1 (kk 2 (oe Zc.enc vb0.conf.masters (oe Z8 v0 (rr (Ytp Z6) (Za.sc {vb0 with arb:=r2.1} (Za.sc Za.z0 ee))))))) (Zzt h)) λg1 h=>Zk (ffi 1 19) 2 (gg g1 (Za.sc vb0 (Za.sc Za.z0 ee))) (Zzt h)
theorem Zzb {x0:Za} {r:Za} {k_L2:Za->Zg->(List Bool)->Int->Option Za} (i_L2:∀{vb0:Za} {vb1:Zg} {v0:List Bool} {v1:Int},k_L2 vb0 vb1 v0 v1=some r->CS (Qk x0 r) Tryz.f151 [1,1,1,1,1,0,1,0] [(1,.ptr (1,1) 0 0),(2,.ptr (1,10) 0 0),(3,.sl (1,20) 0 (v0.map Z8).length),(5,.ptr (1,19) 0 0),(6,il v1)] (Za.bk vb0 2++[bx 1 (Za.rl vb0 2)]++Za.bk Za.z0 11++[bx 10 (Za.rl Za.z0 11),bx 19 (Zg.enc vb1),rx 20 4 (v0.map Z8)])) {vb0:Za} {vb1:Zg} {v0:List Bool} {v1:Int} {v5:Bool} (h:Zch x0 k_L2 vb0 vb1 v0 v1 v5=some r):CS (Qk x0 r) Tryz.f151 [1,1,1,1,1,0,1,0,0,0,1] [(1,.ptr (1,1) 0 0),(2,.ptr (1,10) 0 0),(3,.sl (1,20) 0 (v0.map Z8).length),(5,.ptr (1,19) 0 0),(6,il v1),(69,bl v5)] (Za.bk vb0 2++[bx 1 (Za.rl vb0 2)]++Za.bk Za.z0 11++[bx 10 (Za.rl Za.z0 11),bx 19 (Zg.enc vb1),rx 20 4 (v0.map Z8)]):=
 itK h (λg1 h=>bnK h λa5 ha5 h=>itK h (λg2 h=>bnK h λa6 ha6 h=>Zk (ffi 1 20) 6 (gg g1 (xd Z8 ha5 (gg g2 (kk 3 (tp (.row (v1:Int).toNat (Zf.enc a6)) (kk 2 (tp (.cell (Zf.enc a6)) (kk 2 (tp (.num (v0.map Z8).length 0 0 []) (ob (ixn ha6) (ob (ixl Zf.enc ha6) (ob (ixr Zf.enc ha6) (ob (ixr Zf.enc ha6) (oe Z8 v0 (Za.sc vb0 (Za.sc Za.z0 ee)))))))))))))))) (Z0a i_L2 h)) λg2 h=>Zk (ffi 1 20) 6 (gg g1 (xd Z8 ha5 (gg g2 (kk 7 (ln Z8 v0 (Za.sc vb0 (Za.sc Za.z0 ee))))))) (Z0a i_L2 h)) λg1 h=>itK h (λg2 h=>Zk (ffi 1 20) 8 (gg g1 (gg g2 (kk 3 (ln Z8 v0 (Za.sc vb0 (Za.sc Za.z0 ee)))))) (Zz9 h)) λg2 h=>Zk (ffi 1 20) 8 (gg g1 (gg g2 (kk 3 (ln Z8 v0 (Za.sc vb0 (Za.sc Za.z0 ee)))))) (Zz9 h)
theorem Yej {x0:Za} {r:Za}:∀{m:Nat} {vb0:Za} {vb1:Zg} {v0:List Bool} {v1:Int},Zaj x0 m vb0 vb1 v0 v1=some r->CS (Qk x0 r) Tryz.f151 [1,1,1,1,1,0,1,0] [(1,.ptr (1,1) 0 0),(2,.ptr (1,10) 0 0),(3,.sl (1,20) 0 (v0.map Z8).length),(5,.ptr (1,19) 0 0),(6,il v1)] (Za.bk vb0 2++[bx 1 (Za.rl vb0 2)]++Za.bk Za.z0 11++[bx 10 (Za.rl Za.z0 11),bx 19 (Zg.enc vb1),rx 20 4 (v0.map Z8)]):=by
 intro m
 induction m with
 | zero=>intro vb0 vb1 v0 v1 h;cases h
 | succ m ih=>exactλ{vb0} {vb1} {v0} {v1} h=>itK h (λg1 h=>Zk (ffi 1 20) 4 (lr Zb.enc vb0.m (gg g1 (kk 3 (ln Z8 v0 (Za.sc vb0 (Za.sc Za.z0 ee)))))) (Zzb ih h)) λg1 h=>Zk (ffi 1 20) 4 (lr Zb.enc vb0.m (gg g1 (kk 3 (ln Z8 v0 (Za.sc vb0 (Za.sc Za.z0 ee)))))) (Zzb ih h)
theorem Z0h {x0:Za} {r:Za} {vb1:Zg} {v0:List Bool} (h:Zi9 x0 vb1 v0=some r):CS (Qk x0 r) Tryz.f151 [1,1,1,1,1] [(1,.ptr (1,1) 0 0),(2,.ptr (1,10) 0 0),(3,.sl (1,20) 0 (v0.map Z8).length),(5,.ptr (1,19) 0 0)] (Za.bk x0 2++[bx 1 (Za.rl x0 2)]++Za.bk Za.z0 11++[bx 10 (Za.rl Za.z0 11),bx 19 (Zg.enc vb1),rx 20 4 (v0.map Z8)]):=
 Zk (ffi 1 20) 4 (ln Z8 v0 (Za.sc x0 (Za.sc Za.z0 ee))) (Yej h)
theorem Zzc {x0:Za} {r:Za} {v0:List Bool} {v6:Bool} (h:Ziz x0 v0 v6=some r):CS (Qk x0 r) Tryz.f151 [1,1,1,1,0,1] [(1,.ptr (1,1) 0 0),(2,.ptr (1,10) 0 0),(3,.sl (1,20) 0 (v0.map Z8).length),(5,.ptr (1,19) 0 0),(56,bl v6)] (Za.bk x0 2++[bx 1 (Za.rl x0 2)]++Za.bk Za.z0 11++[bx 10 (Za.rl Za.z0 11),bx 19 (Zg.enc (Zg.mk false (-1) 0 false 0 0 0 false)),rx 20 4 (v0.map Z8)]):=
 itK h (λg1 h=>Zk (ffi 1 20) 2 (gg g1 (ln Z8 v0 (Za.sc x0 (Za.sc Za.z0 ee)))) (Z0h h)) λg1 h=>Zk (ffi 1 20) 2 (gg g1 (ln Z8 v0 (Za.sc x0 (Za.sc Za.z0 ee)))) (Z0h h)
theorem Ydp {x0:Za} {r:Za}:∀{m:Nat} {v0:List Bool} {v7:Int},Zje x0 m v0 v7=some r->CS (Qk x0 r) Tryz.f151 [1,1,0,1,0] [(1,.ptr (1,1) 0 0),(2,.ptr (1,10) 0 0),(3,.sl (1,19) 0 (v0.map Z8).length),(4,il v7)] (Za.bk x0 2++[bx 1 (Za.rl x0 2)]++Za.bk Za.z0 11++[bx 10 (Za.rl Za.z0 11),rx 19 4 (v0.map Z8)]):=by
 intro m
 induction m with
 | zero=>intro v0 v7 h;cases h
 | succ m ih=>exactλ{v0} {v7} h=>have p1 {q p} (k:Scr q p):=(lr Zb.enc x0.m k);itK h (λg1 h=>bnK h λa7 ha7 h=>bnK h λr3 Yu h=>have p2 {q p} (k:Scr q p):=(p1 (gg g1 (xd Zb.enc ha7 (rr (Zzl Yu) k))));itK h (λg2 h=>bnK h λa8 ha8 h=>have p3 {q p} (k:Scr q p):=(p2 (gg g2 (kk 3 (tp (.row (v7:Int).toNat (Zd a8)) (kk 1 (tp (.cell (Zd a8)) (kk 2 k)))))));itK h (λg3 h=>itK h (λg4 h=>bnK h λz0 We h=>Zk (ffi 1 18++[((1,19),(3,27648))]) 11 (p3 (tp (.t true) (kk 3 (tp (.t true) (kk 6 (ta Z8 [true] z0 (kk 1 (tp (.num (z0.map Z8).length 0 0 []) (ob (ixn ha8) (ob (ixl Zd ha8) (ob (ixr Zd ha8) (ob (ixr Zd ha8) (ob g3 (ob g4 (oa 1 Zmg true (ox Z8 We (oe Z8 z0 (oe Z8 z0 (Za.sc x0 (Za.sc Za.z0 ee)))))))))))))))))))) (ih h)) λg4 h=>bnK h λz0 We h=>Zk (ffi 1 18++[((1,19),(3,27648))]) 11 (p3 (tp (.t true) (kk 3 (tp (.t false) (kk 6 (ta Z8 [decide (x0.holder=v7)] z0 (kk 1 (tp (.num (z0.map Z8).length 0 0 []) (ob (ixn ha8) (ob (ixl Zd ha8) (ob (ixr Zd ha8) (ob (ixr Zd ha8) (ob g3 (ob g4 (oa 1 Zmg (decide (x0.holder=v7)) (ox Z8 We (oe Z8 z0 (oe Z8 z0 (Za.sc x0 (Za.sc Za.z0 ee)))))))))))))))))))) (ih h)) λg3 h=>bnK h λz0 We h=>Zk (ffi 1 18++[((1,19),(3,27648))]) 11 (p3 (tp (.t false) (kk 5 (ta Z8 [false] z0 (kk 1 (tp (.num (z0.map Z8).length 0 0 []) (ob (ixn ha8) (ob (ixl Zd ha8) (ob (ixr Zd ha8) (ob (ixr Zd ha8) (ob g3 (oa 1 Zmg false (ox Z8 We (oe Z8 z0 (oe Z8 z0 (Za.sc x0 (Za.sc Za.z0 ee))))))))))))))))) (ih h)) λg2 h=>bnK h λz0 We h=>Zk (ffi 1 18++[((1,19),(3,27648))]) 11 (p2 (gg g2 (kk 12 (ta Z8 [false] z0 (kk 1 (oa 1 Zmg false (ox Z8 We (ln Z8 z0 (oe Z8 z0 (Za.sc x0 (Za.sc Za.z0 ee))))))))))) (ih h)) λg1 h=>itK h (λg2 h=>bnK h λa9 ha9 h=>Zk (ffi 1 18++[((1,19),(3,1024)),((1,20),(1,19))]) 14 (p1 (gg g1 (gg g2 (kk 3 (tp (.row (x0.holder:Int).toNat (Z8 a9)) (kk 1 (tp (.cell (Z8 a9)) (kk 1 (tp (.num (v0.map Z8).length 0 0 []) (ob (ixn ha9) (ob (ixl Z8 ha9) (ob (ixr Z8 ha9) (ob (ixr Z8 ha9) (oe Z8 v0 (Za.sc x0 (Za.sc Za.z0 ee)))))))))))))))) (Zzc h)) λg2 h=>Zk (ffi 1 18++[((1,19),(3,1024)),((1,20),(1,19))]) 14 (p1 (gg g1 (gg g2 (kk 5 (ln Z8 v0 (Za.sc x0 (Za.sc Za.z0 ee))))))) (Zzc h)
theorem Yqv {x0:Za} {r:Za} (h:Zty x0=some r):Zv Tryz.prog Mo (Qk x0 r):=
 Zt Tryz.func151 (Zk ([((1,1),(1,0))]++Za.ff 2 0 0++[((1,10),(1,1024)),((1,19),(2,0))]) 8 (tp (.num ([].map Z8).length 0 0 []) (ob (show 0=([].map Z8).length from rfl) (Za.sc x0 ee))) (Ydp h))
abbrev Za2 (x0:Za) (x1:Ze) (r:Za×Zm):Y:=(88,[.agg (Za.enc x0),.agg (Ze.enc x1)],.tup [.agg (Za.ow r.1),.agg (Zm.enc r.2)],[.undef,.undef])
theorem Zrn {x0:Za} {x1:Ze} {r:Za×Zm} {vb0:Za} {vb1:Zm} (h:Zda x0 x1 vb0 vb1=some r):CS (Za2 x0 x1 r) Tryz.f88 [1,1,1,1,1,1,1,1,1] [(2,.ptr (1,1) 0 0),(4,.ptr (1,10) 0 0),(5,.ptr (1,19) 0 0),(6,.ptr (1,20) 0 0)] (Za.bk vb0 2++[bx 1 (Za.rl vb0 2)]++Za.bk Za.z0 11++[bx 10 (Za.rl Za.z0 11),bx 19 (Zm.enc Zm.z0),bx 20 (Zm.enc vb1)]):=
 rtK h (kk 8 (Za.so vb0 ee))
theorem Z14 {x0:Za} {x1:Ze} {r:Za×Zm} {vb0:Za} {vb2:Zm} (h:Zdd x0 x1 vb0 vb2=some r):CS (Za2 x0 x1 r) Tryz.f88 [1,1,1,1,1,1,1,1,0,1,0,1] [(2,.ptr (1,1) 0 0),(3,.ptr (1,10) 0 0),(4,.ptr (1,11) 0 0),(5,.ptr (1,20) 0 0),(6,.ptr (1,21) 0 0)] (Za.bk vb0 2++[bx 1 (Za.rl vb0 2),bx 10 (Ze.enc x1)]++Za.bk Za.z0 12++[bx 11 (Za.rl Za.z0 12),bx 20 (Zm.enc Zm.z0),bx 21 (Zm.enc vb2)]):=
 bnK h λr0 Zo h=>bnK h λr1 Zw h=>have p1 {q p} (k:Scr q p):=(kk 8 (Za.so vb0 (rr (Yox Zo) (kk 8 (Za.so r0 (rr (Yqv Zw) k))))));itK h (λg1 h=>Zk ([((1,1),(1,1))]++Za.ff 2 2 3072++[((1,10),(1,11)),((1,11),(1,12)),((1,12),(1,13)),((1,13),(1,14)),((1,14),(1,15)),((1,15),(1,16)),((1,16),(1,17)),((1,17),(1,18)),((1,18),(1,19)),((1,19),(1,20)),((1,20),(1,21))]) 6 (p1 (gg g1 (Za.sc r1 (Za.sc Za.z0 ee)))) (Zrn h)) λg1 h=>Zk ([((1,1),(1,1))]++Za.ff 2 2 3072++[((1,10),(1,11)),((1,11),(1,12)),((1,12),(1,13)),((1,13),(1,14)),((1,14),(1,15)),((1,15),(1,16)),((1,16),(1,17)),((1,17),(1,18)),((1,18),(1,19)),((1,19),(1,20)),((1,20),(1,21))]) 6 (p1 (gg g1 (Za.sc r1 (Za.sc Za.z0 ee)))) (Zrn h)
theorem Z2h {x0:Za} {x1:Ze} {r:Za×Zm} {vb0:Za} {vb2:Zm} {v0:Bool} (h:J1 x0 x1 vb0 vb2 v0=some r):CS (Za2 x0 x1 r) Tryz.f88 [1,1,1,1,1,1,1,1,0,1,0,0,1] [(2,.ptr (1,1) 0 0),(3,.ptr (1,10) 0 0),(4,.ptr (1,11) 0 0),(5,.ptr (1,20) 0 0),(6,.ptr (1,21) 0 0),(182,bl v0)] (Za.bk vb0 2++[bx 1 (Za.rl vb0 2),bx 10 (Ze.enc x1)]++Za.bk Za.z0 12++[bx 11 (Za.rl Za.z0 12),bx 20 (Zm.enc Zm.z0),bx 21 (Zm.enc vb2)]):=
 itK h (λg1 h=>bnK h λa0 Z0 h=>bnK h λy0 W6 h=>Zk (ffi 1 21) 6 (gg g1 (xp Zb.enc Z0 W6 (tq (Za.nm {vb0 with m:=y0,holder:=(-1),held:=0}) (oe Zc.enc vb0.conf.masters (ob (Q9 Zb.enc W6) (oe Zf.enc vb0.buckets (oe Zd vb0.splits (Zj.so vb0.model (oe Zr.enc vb0.log (Za.sc Za.z0 ee)))))))))) (Z14 h)) λg1 h=>Zk (ffi 1 21) 2 (gg g1 (Za.sc vb0 (Za.sc Za.z0 ee))) (Z14 h)
theorem Zgl {x0:Za} {x1:Ze} {r:Za×Zm} {vb0:Za} {vb2:Zm} (h:Q5 x0 x1 vb0 vb2=some r):CS (Za2 x0 x1 r) Tryz.f88 [1,1,1,1,1,1,1,1] [(2,.ptr (1,1) 0 0),(3,.ptr (1,10) 0 0),(4,.ptr (1,11) 0 0),(5,.ptr (1,20) 0 0),(6,.ptr (1,21) 0 0)] (Za.bk vb0 2++[bx 1 (Za.rl vb0 2),bx 10 (Ze.enc x1)]++Za.bk Za.z0 12++[bx 11 (Za.rl Za.z0 12),bx 20 (Zm.enc Zm.z0),bx 21 (Zm.enc vb2)]):=
 itK h (λg1 h=>itK h (λg2 h=>Zk (ffi 1 21) 7 (gg g1 (gg g2 (kk 6 (Za.sc vb0 (Za.sc Za.z0 ee))))) (Z2h h)) λg2 h=>Zk (ffi 1 21) 7 (gg g1 (gg g2 (kk 6 (Za.sc vb0 (Za.sc Za.z0 ee))))) (Z2h h)) λg1 h=>Zk (ffi 1 9++[((1,10),(1,11)),((1,11),(1,12)),((1,12),(1,13)),((1,13),(1,14)),((1,14),(1,15)),((1,15),(1,16)),((1,16),(1,17)),((1,17),(1,18)),((1,18),(1,19)),((1,19),(1,20)),((1,20),(1,21))]) 5 (gg g1 (Za.sc vb0 (Za.sc Za.z0 ee))) (Zrn h)
theorem Zs8 {x0:Za} {x1:Ze} {r:Za×Zm} {vb0:Za} {vb2:Zm} {v1:Bool} (h:J2 x0 x1 vb0 vb2 v1=some r):CS (Za2 x0 x1 r) Tryz.f88 [1,1,1,1,1,1,1,0,0,1,1,1] [(2,.ptr (1,1) 0 0),(3,.ptr (1,10) 0 0),(4,.ptr (1,11) 0 0),(5,.ptr (1,20) 0 0),(6,.ptr (1,21) 0 0),(126,bl v1)] (Za.bk vb0 2++[bx 1 (Za.rl vb0 2),bx 10 (Ze.enc x1)]++Za.bk Za.z0 12++[bx 11 (Za.rl Za.z0 12),bx 20 (Zm.enc Zm.z0),bx 21 (Zm.enc vb2)]):=
 itK h (λg1 h=>itK h (λg2 h=>bnK h λr2 Z6 h=>Zk ([((1,1),(1,1))]++Za.ff 2 8 2048++ffi 10 12) 16 (gg g1 (gg g2 (kk 8 (Za.so vb0 (rr (Z2w Z6) (Za.sc r2 (Za.sc Za.z0 ee))))))) (Zgl h)) λg2 h=>Zk (ffi 1 21) 12 (gg g1 (gg g2 (Za.sc {vb0 with data_:={vb0.data_ with second:=true}} (Za.sc Za.z0 ee)))) (Zgl h)) λg1 h=>itK h (λg2 h=>bnK h λr3 Yu h=>Zk ([((1,1),(1,1))]++Za.ff 2 4 2048++ffi 10 12) 8 (gg g1 (gg g2 (kk 8 (Za.so vb0 (rr (Ylu Yu) (Za.sc r3 (Za.sc Za.z0 ee))))))) (Zgl h)) λg2 h=>Zk (ffi 1 21) 6 (gg g1 (gg g2 (Za.sc vb0 (Za.sc Za.z0 ee)))) (Zgl h)
theorem Z1r {x0:Za} {x1:Ze} {r:Za×Zm} {vb0:Za} {vb2:Zm} {v2:Bool} (h:Zld x0 x1 vb0 vb2 v2=some r):CS (Za2 x0 x1 r) Tryz.f88 [1,1,1,1,1,1,1,0,0,1] [(2,.ptr (1,1) 0 0),(3,.ptr (1,10) 0 0),(4,.ptr (1,11) 0 0),(5,.ptr (1,20) 0 0),(6,.ptr (1,21) 0 0),(109,bl v2)] (Za.bk vb0 2++[bx 1 (Za.rl vb0 2),bx 10 (Ze.enc x1)]++Za.bk Za.z0 12++[bx 11 (Za.rl Za.z0 12),bx 20 (Zm.enc Zm.z0),bx 21 (Zm.enc vb2)]):=
 itK h (λg1 h=>Zk (ffi 1 21) 5 (gg g1 (Za.sc {vb0 with data_:={vb0.data_ with left:=(Xa vb0.data_.left 1)}} (Za.sc Za.z0 ee))) (Zgl h)) λg1 h=>itK h (λg2 h=>itK h (λg3 h=>Zk (ffi 1 21) 3 (gg g1 (gg g2 (kk 4 (gg g3 (kk 4 (Za.sc vb0 (Za.sc Za.z0 ee))))))) (Zs8 h)) λg3 h=>Zk (ffi 1 21) 3 (gg g1 (gg g2 (kk 4 (gg g3 (kk 4 (Za.sc vb0 (Za.sc Za.z0 ee))))))) (Zs8 h)) λg2 h=>Zk (ffi 1 21) 3 (gg g1 (gg g2 (kk 9 (Za.sc vb0 (Za.sc Za.z0 ee))))) (Zs8 h)
theorem Z11 {x0:Za} {x1:Ze} {r:Za×Zm} {vb0:Za} {vb2:Zm} (h:J0 x0 x1 vb0 vb2=some r):CS (Za2 x0 x1 r) Tryz.f88 [1,1,1,1,1,1,1] [(2,.ptr (1,1) 0 0),(3,.ptr (1,10) 0 0),(4,.ptr (1,11) 0 0),(5,.ptr (1,20) 0 0),(6,.ptr (1,21) 0 0)] (Za.bk vb0 2++[bx 1 (Za.rl vb0 2),bx 10 (Ze.enc x1)]++Za.bk Za.z0 12++[bx 11 (Za.rl Za.z0 12),bx 20 (Zm.enc Zm.z0),bx 21 (Zm.enc vb2)]):=
 itK h (λg1 h=>Zk (ffi 1 21) 4 (gg g1 (kk 4 (Za.sc vb0 (Za.sc Za.z0 ee)))) (Z1r h)) λg1 h=>Zk (ffi 1 21) 4 (gg g1 (kk 4 (Za.sc vb0 (Za.sc Za.z0 ee)))) (Z1r h)
theorem Yhq {x0:Za} {x1:Ze} {r:Za×Zm}:∀{m:Nat} {vb0:Za} {vb2:Zm} {v3:Int},Za9 x0 x1 m vb0 vb2 v3=some r->CS (Za2 x0 x1 r) Tryz.f88 [1,1,1,1,1,0,1,0] [(2,.ptr (1,1) 0 0),(3,.ptr (1,10) 0 0),(4,.ptr (1,11) 0 0),(5,.ptr (1,20) 0 0),(6,.ptr (1,21) 0 0),(11,il v3)] (Za.bk vb0 2++[bx 1 (Za.rl vb0 2),bx 10 (Ze.enc x1)]++Za.bk Za.z0 12++[bx 11 (Za.rl Za.z0 12),bx 20 (Zm.enc Zm.z0),bx 21 (Zm.enc vb2)]):=by
 intro m
 induction m with
 | zero=>intro vb0 vb2 v3 h;cases h
 | succ m ih=>exactλ{vb0} {vb2} {v3} h=>itK h (λg1 h=>bnK h λa1 Y3 h=>bnK h λy1 hy1 h=>bnK h λa2 Ks h=>bnK h λa3 ha3 h=>bnK h λr4 Kx h=>bnK h λy2 hy2 h=>Zk (ffi 1 21) 13 (lr Zb.enc vb0.m (gg g1 (xd Zd Y3 (xp Zd Y3 hy1 (xd Zf.enc Ks (xd Zc.enc ha3 (rr (Yjw Kx) (xp Zf.enc Ks hy2 (tq (Za.nm {vb0 with buckets:=y2,splits:=y1}) (oe Zc.enc vb0.conf.masters (oe Zb.enc vb0.m (ob (Q9 Zf.enc hy2) (ob (Q9 Zd hy1) (Zj.so vb0.model (oe Zr.enc vb0.log (Za.sc Za.z0 ee)))))))))))))))) (ih h)) λg1 h=>itK h (λg2 h=>Zk (ffi 1 21) 14 (lr Zb.enc vb0.m (gg g1 (gg g2 (Za.sc {vb0 with held:=(Zji vb0.conf.lockMost (Zs vb0.held 1))} (Za.sc Za.z0 ee))))) (Z11 h)) λg2 h=>Zk (ffi 1 21) 14 (lr Zb.enc vb0.m (gg g1 (gg g2 (Za.sc vb0 (Za.sc Za.z0 ee))))) (Z11 h)
theorem Yfz {x0:Za} {x1:Ze} {r:Za×Zm}:∀{m:Nat} {vb0:Za} {vb2:Zm} {v4:List Zl} {v5:Int},Zgh x0 x1 m vb0 vb2 v4 v5=some r->CS (Za2 x0 x1 r) Tryz.f88 [1,1,1,1,0,1,0] [(2,.ptr (1,1) 0 0),(3,.ptr (1,10) 0 0),(4,.ptr (1,11) 0 0),(5,.ptr (1,20) 0 0),(6,.ptr (1,21) 0 0),(7,.sl (1,22) 0 (v4.map Zl.enc).length),(8,il v5)] (Za.bk vb0 2++[bx 1 (Za.rl vb0 2),bx 10 (Ze.enc x1)]++Za.bk Za.z0 12++[bx 11 (Za.rl Za.z0 12),bx 20 (Zm.enc Zm.z0),bx 21 (Zm.enc vb2),rx 22 106 (v4.map Zl.enc)]):=by
 intro m
 induction m with
 | zero=>intro vb0 vb2 v4 v5 h;cases h
 | succ m ih=>exactλ{vb0} {vb2} {v4} {v5} h=>itK h (λg1 h=>bnK h λa4 ha4 h=>bnK h λr5 hr5 h=>have p1 {q p} (k:Scr q p):=(lr Zl.enc v4 (gg g1 (xd Zl.enc ha4 (lr Zb.enc vb0.m (rr (Z3 hr5) k)))));itK h (λg2 h=>bnK h λa5 ha5 h=>bnK h λr6 hr6 h=>bnK h λy3 hy3 h=>Zk (ffi 1 22) 16 (p1 (gg g2 (xd Zl.enc ha4 (xd Zb.enc ha5 (xd Zl.enc ha4 (rr (Yt8 hr6) (xd Zl.enc ha4 (xq Zb.enc ha5 y3 (kk 1 (oe Zi.enc r6.1.queue (ob (Z0r Zb.enc hy3) (ln Zl.enc v4 (tq (Za.nm {vb0 with m:=y3}) (oe Zc.enc vb0.conf.masters (ob (Q9 Zb.enc hy3) (oe Zf.enc vb0.buckets (oe Zd vb0.splits (Zj.so vb0.model (oe Zr.enc vb0.log (Za.sc Za.z0 ee)))))))))))))))))))) (ih h)) λg2 h=>Zk (ffi 1 22) 14 (p1 (gg g2 (ln Zl.enc v4 (Za.sc vb0 (Za.sc Za.z0 ee))))) (ih h)) λg1 h=>Zk (ffi 1 21) 13 (lr Zl.enc v4 (gg g1 (Za.sc vb0 (Za.sc Za.z0 ee)))) (Yhq h)
theorem Yss {x0:Za} {x1:Ze} {r:Za×Zm} (h:Zu2 x0 x1=some r):Zv Tryz.prog Mo (Za2 x0 x1 r):=
 Zt Tryz.func88 (bnK h λr7 hr7 h=>bnK h λr8 hr8 h=>bnK h λr9 hr9 h=>Zk ([((1,1),(1,0))]++Za.ff 2 2 1024++[((1,10),(1,1024)),((1,11),(1,2048)),((1,20),(1,3072)),((1,21),(3,2048)),((1,22),(4,3072))]) 12 (rr (Z27 hr7) (kk 8 (Za.so r7 (rr (Yr9 hr8) (rr (Ysa hr9) (ln Zl.enc r9 (Za.sc r7 ee))))))) (Yfz h))
abbrev Z9k (x0:Zh) (x1:Ze) (r:Bool):Y:=(60,[.agg (Zh.enc x0),.agg (Ze.enc x1)],bl r,[.undef,.undef])
theorem Yeb {x0:Zh} {x1:Ze} {r:Bool}:∀{m:Nat} {v0:Int},Zjc x0 x1 m v0=some r->CS (Z9k x0 x1 r) Tryz.f60 [1,0,1,0] [(2,.ptr (1,1) 0 0),(3,.ptr (1,2) 0 0),(5,il v0)] [bx 1 (Zh.enc x0),bx 2 (Ze.enc x1)]:=by
 intro m
 induction m with
 | zero=>intro v0 h;cases h
 | succ m ih=>exactλ{v0} h=>have p1 {q p} (k:Scr q p):=(lr Zl.enc x1.posts k);itK h (λg1 h=>bnK h λa0 Z0 h=>bnK h λr0 Zo h=>have p2 {q p} (k:Scr q p):=(p1 (gg g1 (xb Zl.enc Z0 (rr (Z3 Zo) k))));itK h (λg2 h=>rtK h (p2 (gg g2 (kk 19 ee)))) λg2 h=>bnK h λr1 Zw h=>have p3 {q p} (k:Scr q p):=(p2 (gg g2 (kk 4 (lr Zc.enc x0.masters (kk 2 (rr (Z3 Zw) (kk 2 k)))))));itK h (λg3 h=>rtK h (p3 (gg g3 (kk 10 ee)))) λg3 h=>bnK h λr2 Z6 h=>have p4 {q p} (k:Scr q p):=(p3 (gg g3 (kk 2 (rr (Z13 Z6) (kk 2 k)))));itK h (λg4 h=>rtK h (p4 (gg g4 (kk 5 ee)))) λg4 h=>itK h (λg5 h=>bnK h λa1 Y3 h=>itK h (λg6 h=>rtK h (p4 (gg g4 (kk 2 (gg g5 (kk 6 (xb Zl.enc Y3 (kk 6 (gg g6 ee))))))))) λg6 h=>Zk [((1,1),(1,1)),((1,2),(1,2))] 16 (p4 (gg g4 (kk 2 (gg g5 (kk 6 (xb Zl.enc Y3 (kk 6 (gg g6 ee)))))))) (ih h)) λg5 h=>Zk [((1,1),(1,1)),((1,2),(1,2))] 16 (p4 (gg g4 (kk 2 (gg g5 (kk 13 ee))))) (ih h)) λg1 h=>bnK h λr3 Yu h=>have p5 {q p} (k:Scr q p):=(p1 (gg g1 (rr (Zcv Yu) k)));itK h (λg2 h=>have p6 {q p} (k:Scr q p):=(p5 (gg g2 (kk 2 (lr Zl.enc x1.posts (kk 2 k)))));itK h (λg3 h=>itK h (λg4 h=>rtK h (p6 (gg g3 (kk 2 (lr Zd x1.waits (kk 2 (gg g4 (kk 2 (lr Zd x1.says (kk 2 ee)))))))))) λg4 h=>rtK h (p6 (gg g3 (kk 2 (lr Zd x1.waits (kk 2 (gg g4 (kk 4 ee)))))))) λg3 h=>rtK h (p6 (gg g3 (kk 9 ee)))) λg2 h=>rtK h (p5 (gg g2 (kk 14 ee)))
theorem Z77 {x0:Zh} {x1:Ze} {r:Bool} (h:Zrw x0 x1=some r):Zv Tryz.prog Mo (Z9k x0 x1 r):=
 Zt Tryz.func60 (Zk [((1,1),(1,0)),((1,2),(1,1024))] 6 ee (Yeb h))
abbrev Z6f (x0:Za) (x1:Ze) (x2:Int) (r:Za×List Zm):Y:=(37,[.agg (Za.enc x0),.agg (Ze.enc x1),il x2],.tup [.agg (Za.ow r.1),.own 84 (r.2.map Zm.enc)],[.undef,.undef,.undef])
theorem Yjt {x0:Za} {x1:Ze} {x2:Int} {r:Za×List Zm}:∀{m:Nat} {vb0:Za} {v0:List Zm} {v1:Int},Zog x0 x1 x2 m vb0 v0 v1=some r->CS (Z6f x0 x1 x2 r) Tryz.f37 [1,1,1,1,0,1,0] [(2,il x2),(4,.ptr (1,1) 0 0),(6,.ptr (1,2) 0 0),(8,.sl (1,20) 0 (v0.map Zm.enc).length),(9,.ptr (1,11) 0 0),(10,il v1)] ([bx 1 (Ze.enc x1)]++Za.bk Za.z0 3++[bx 2 (Za.rl Za.z0 3)]++Za.bk vb0 12++[bx 11 (Za.rl vb0 12),rx 20 84 (v0.map Zm.enc)]):=by
 intro m
 induction m with
 | zero=>intro vb0 v0 v1 h;cases h
 | succ m ih=>exactλ{vb0} {v0} {v1} h=>itK h (λg1 h=>bnK h λr0 Zo h=>bnK h λz0 We h=>Zk (ffi 1 11++Za.ff 12 3 2048++[((1,20),(4,3072))]) 15 (gg g1 (kk 8 (Za.so vb0 (rr (Yss Zo) (ta Zm.enc [r0.2] z0 (kk 1 (oa 9 Zm.enc_len r0.2 (ox Zm.enc We (ln Zm.enc z0 (oe Zm.enc z0 (Za.sc Za.z0 (Za.sc r0.1 ee)))))))))))) (ih h)) λg1 h=>rtK h (gg g1 (kk 9 (Za.so vb0 (oe Zm.enc v0 ee))))
theorem Z4g {x0:Za} {x1:Ze} {x2:Int} {r:Za×List Zm} {vb0:Za} {v2:Bool} (h:Zn8 x0 x1 x2 vb0 v2=some r):CS (Z6f x0 x1 x2 r) Tryz.f37 [1,1,1,0,1] [(2,il x2),(4,.ptr (1,1) 0 0),(6,.ptr (1,2) 0 0),(8,.sl (1,20) 0 ([].map Zm.enc).length),(9,.ptr (1,11) 0 0),(26,bl v2)] ([bx 1 (Ze.enc x1)]++Za.bk Za.z0 3++[bx 2 (Za.rl Za.z0 3)]++Za.bk vb0 12++[bx 11 (Za.rl vb0 12),rx 20 84 ([].map Zm.enc)]):=
 itK h (λg1 h=>rtK h (gg g1 (kk 9 (Za.so vb0 (oe Zm.enc [] ee))))) λg1 h=>Zk (ffi 1 20) 6 (gg g1 (ln Zm.enc [] (Za.sc Za.z0 (Za.sc vb0 ee)))) (Yjt h)
theorem Ywg {x0:Za} {x1:Ze} {x2:Int} {r:Za×List Zm} (h:Zya x0 x1 x2=some r):Zv Tryz.prog Mo (Z6f x0 x1 x2 r):=
 Zt Tryz.func37 (bnK h λr1 Zw h=>bnK h λr2 Z6 h=>itK h (λg1 h=>Zk ([((1,1),(1,1024)),((1,2),(1,2048)),((1,11),(3,2048))]++Za.ff 12 3 1024++[((1,20),(2,0))]) 9 (rr (Z27 Zw) (rr (Ykq Z6) (gg g1 (kk 6 (tp (.num ([].map Zm.enc).length 0 0 []) (ob (show 0=([].map Zm.enc).length from rfl) (Za.sc r1 ee))))))) (Z4g h)) λg1 h=>bnK h λr3 Yu h=>Zk ([((1,1),(1,1024)),((1,2),(1,2048)),((1,11),(3,2048))]++Za.ff 12 3 1024++[((1,20),(2,0))]) 9 (rr (Z27 Zw) (rr (Ykq Z6) (gg g1 (kk 4 (rr (Z3 Yu) (kk 2 (tp (.num ([].map Zm.enc).length 0 0 []) (ob (show 0=([].map Zm.enc).length from rfl) (Za.sc r1 ee))))))))) (Z4g h))
abbrev Zz5 (x0:Zh) (x1:Ze) (x2:Int) (r:Za×Bool):Y:=(22,[.agg (Zh.enc x0),.agg (Ze.enc x1),il x2],.tup [.agg (Za.ow r.1),bl r.2],[.undef,.undef,.undef])
theorem Z8r {x0:Zh} {x1:Ze} {x2:Int} {r:Za×Bool} {v0:Bool} (h:Zss x0 x1 x2 v0=some r):CS (Zz5 x0 x1 x2 r) Tryz.f22 [1,0,1] [(2,il x2),(3,.ptr (1,1) 0 0),(4,.ptr (1,2) 0 0),(6,.ptr (1,3) 0 0),(20,bl v0)] ([bx 1 (Zh.enc x0),bx 2 (Ze.enc x1)]++Za.bk Za.z0 4++[bx 3 (Za.rl Za.z0 4)]):=
 itK h (λg1 h=>rtK h (gg g1 ee)) λg1 h=>bnK h λr0 Zo h=>bnK h λr1 Zw h=>rtK h (gg g1 (rr (Yx0 Zo) (kk 8 (Za.so r0.1 (rr (Ywg Zw) (kk 8 (Za.so r1.1 ee)))))))
theorem Y2e {x0:Zh} {x1:Ze} {x2:Int} {r:Za×Bool} (h:Z46 x0 x1 x2=some r):Zv Tryz.prog Mo (Zz5 x0 x1 x2 r):=
 Zt Tryz.func22 (bnK h λr2 Z6 h=>itK h (λg1 h=>Zk [((1,1),(1,0)),((1,2),(1,1024)),((1,3),(1,2048))] 5 (rr (Z77 Z6) (gg g1 (kk 3 ee))) (Z8r h)) λg1 h=>bnK h λr3 Yu h=>Zk [((1,1),(1,0)),((1,2),(1,1024)),((1,3),(1,2048))] 5 (rr (Z77 Z6) (gg g1 (kk 1 (rr (Z3 Yu) (kk 2 ee))))) (Z8r h))
abbrev Yxc (x0:Int) (x1:Int) (x2:Int) (r:Bool):Y:=(65,[il x0,il x1,il x2],bl r,[.undef,.undef,.undef])
theorem Yf {x0:Int} {x1:Int} {x2:Int} {r:Bool} (h:Yp x0 x1 x2=some r):Zv Tryz.prog Mo (Yxc x0 x1 x2 r):=
 Zt Tryz.func65 (itK h (λg1 h=>rtK h (gg g1 (kk 3 ee))) λg1 h=>rtK h (gg g1 (kk 3 ee)))
abbrev Yhw (x0:Zh) (r:Int):Y:=(237,[.agg (Zh.enc x0)],il r,[.undef])
theorem Z4b {x0:Zh} {r:Int} {v0:Bool} (h:Zuf x0 v0=some r):CS (Yhw x0 r) Tryz.f237 [1,0,1] [(1,.ptr (1,1) 0 0),(12,bl v0)] [bx 1 (Zh.enc x0)]:=
 itK h (λg1 h=>rtK h (gg g1 ee)) λg1 h=>rtK h (gg g1 ee)
theorem Z5e {x0:Zh} {r:Int} (h:Ztb x0=some r):Zv Tryz.prog Mo (Yhw x0 r):=
 Zt Tryz.func237 (bnK h λr0 Zo h=>itK h (λg1 h=>Zk [((1,1),(1,0))] 5 (rr (Yf Zo) (gg g1 (kk 4 ee))) (Z4b h)) λg1 h=>bnK h λr1 Zw h=>Zk [((1,1),(1,0))] 5 (rr (Yf Zo) (gg g1 (kk 2 (rr (Yf Zw) (kk 2 ee))))) (Z4b h))
abbrev Yxo (x0:Zh) (r:Int):Y:=(182,[.agg (Zh.enc x0)],il r,[.undef])
theorem Z41 {x0:Zh} {r:Int} (h:Zsc x0=some r):Zv Tryz.prog Mo (Yxo x0 r):=
 Zt Tryz.func182 (bnK h λr0 Zo h=>itK h (λg1 h=>rtK h (rr (Z5e Zo) (gg g1 (kk 5 ee)))) λg1 h=>bnK h λr1 Zw h=>have p1 {q p} (k:Scr q p):=(rr (Z5e Zo) (gg g1 (kk 2 (rr (Yf Zw) (kk 2 k)))));itK h (λg2 h=>rtK h (p1 (gg g2 ee))) λg2 h=>bnK h λr2 Z6 h=>rtK h (p1 (gg g2 (rr (Z5e Z6) ee))))
abbrev Ylc (x0:Zh) (r:Int):Y:=(239,[.agg (Zh.enc x0)],il r,[.undef])
theorem Ymi {x0:Zh} {r:Int}:∀{m:Nat} {v0:Int} {v1:Int},Zqd x0 m v0 v1=some r->CS (Ylc x0 r) Tryz.f239 [1,1,0,1,0] [(3,il v0),(7,.tr (x0.masters.map Zc.enc)),(8,il (x0.masters.length:Int)),(9,il v1)] []:=by
 intro m
 induction m with
 | zero=>intro v0 v1 h;cases h
 | succ m ih=>exactλ{v0} {v1} h=>itK h (λg1 h=>bnK h λa0 Z0 h=>itK h (λg2 h=>Zk [] 16 (gg g1 (xb Zc.enc Z0 (gg g2 ee))) (ih h)) λg2 h=>Zk [] 16 (gg g1 (xb Zc.enc Z0 (gg g2 ee))) (ih h)) λg1 h=>rtK h (gg g1 ee)
theorem Y1o {x0:Zh} {r:Int} (h:Z1j x0=some r):Zv Tryz.prog Mo (Ylc x0 r):=
 Zt Tryz.func239 (Zk [] 8 (lr Zc.enc x0.masters ee) (Ymi h))
abbrev Yi4 (x0:Zh) (r:Int):Y:=(185,[.agg (Zh.enc x0)],il r,[.undef])
theorem Z4k {x0:Zh} {r:Int} (h:Zoj x0=some r):Zv Tryz.prog Mo (Yi4 x0 r):=
 Zt Tryz.func185 (bnK h λr0 Zo h=>bnK h λr1 Zw h=>rtK h (rr (Z41 Zo) (rr (Y1o Zw) ee)))
abbrev You (x0:Zc) (x1:Zh) (r:Bool):Y:=(184,[.agg (Zc.enc x0),.rp true (Zh.enc x1) 0],bl r,[.undef,.undef])
theorem Z83 {x0:Zc} {x1:Zh} {r:Bool} (h:Zrr x0 x1=some r):Zv Tryz.prog Mo (You x0 x1 r):=
 Zt Tryz.func184 (bnK h λr0 Zo h=>have p1 {q p} (k:Scr q p):=(rr (Yf Zo) k);itK h (λg1 h=>rtK h (p1 (gg g1 ee))) λg1 h=>itK h (λg2 h=>bnK h λr1 Zw h=>bnK h λr2 Z6 h=>itK h (λg3 h=>rtK h (p1 (gg g1 (gg g2 (rr (Z4k Zw) (rr (Yf Z6) (gg g3 (kk 4 ee)))))))) λg3 h=>bnK h λr3 Yu h=>rtK h (p1 (gg g1 (gg g2 (rr (Z4k Zw) (rr (Yf Z6) (gg g3 (kk 2 (rr (Yf Yu) (kk 2 ee)))))))))) λg2 h=>itK h (λg3 h=>rtK h (p1 (gg g1 (gg g2 (gg g3 (kk 3 ee)))))) λg3 h=>rtK h (p1 (gg g1 (gg g2 (gg g3 (kk 3 ee))))))
abbrev Zau (x0:List Zc) (x1c0:Zh) (r:Int):Y:=(238,[.tr (x0.map Zc.enc),.fn 184 [.rp true (Zh.enc x1c0) 0]],il r,[.undef,.undef])
theorem Zfi {x0:List Zc} {x1c0:Zh} {r:Int}:∀{m:Nat} {v0:Int},Y2 x0 x1c0 m v0=some r->CS (Zau x0 x1c0 r) Tryz.f238 [1,0,1,0] [(0,.tr (x0.map Zc.enc)),(1,.fn 184 [.rp true (Zh.enc x1c0) 0]),(7,il (x0.length:Int)),(8,il v0)] []:=by
 intro m
 induction m with
 | zero=>intro v0 h;cases h
 | succ m ih=>exactλ{v0} h=>itK h (λg1 h=>bnK h λa0 Z0 h=>bnK h λr0 Zo h=>itK h (λg2 h=>rtK h (gg g1 (xb Zc.enc Z0 (rr (Z83 Zo) (gg g2 ee))))) λg2 h=>Zk [] 16 (gg g1 (xb Zc.enc Z0 (rr (Z83 Zo) (gg g2 ee)))) (ih h)) λg1 h=>rtK h (gg g1 ee)
theorem Zh0 {x0:List Zc} {x1c0:Zh} {r:Int} (h:Qz x0 x1c0=some r):Zv Tryz.prog Mo (Zau x0 x1c0 r):=
 Zt Tryz.func238 (Zk [] 6 (lr Zc.enc x0 ee) (Zfi h))
abbrev Zgg (x0:List Zc) (x1c0:Zh) (r:Bool):Y:=(183,[.tr (x0.map Zc.enc),.fn 184 [.rp true (Zh.enc x1c0) 0]],bl r,[.undef,.undef])
theorem Zgb {x0:List Zc} {x1c0:Zh} {r:Bool} (h:X8 x0 x1c0=some r):Zv Tryz.prog Mo (Zgg x0 x1c0 r):=
 Zt Tryz.func183 (bnK h λr0 Zo h=>rtK h (rr (Zh0 Zo) ee))
abbrev Yxu (x0:Zh) (r:Bool):Y:=(111,[.agg (Zh.enc x0)],bl r,[.undef])
theorem Zdy {x0:Zh} {r:Bool} (h:Zf7 x0=some r):Zv Tryz.prog Mo (Yxu x0 r):=
 Zt Tryz.func111 (bnK h λr0 Zo h=>have p1 {q p} (k:Scr q p):=(lr Zc.enc x0.masters (rr (Yf Zo) k));itK h (λg1 h=>rtK h (p1 (gg g1 (kk 14 ee)))) λg1 h=>bnK h λr1 Zw h=>have p2 {q p} (k:Scr q p):=(p1 (gg g1 (kk 2 (rr (Yf Zw) (kk 2 k)))));itK h (λg2 h=>rtK h (p2 (gg g2 (kk 9 ee)))) λg2 h=>bnK h λr2 Z6 h=>have p3 {q p} (k:Scr q p):=(p2 (gg g2 (kk 2 (rr (Yf Z6) (kk 2 k)))));itK h (λg3 h=>rtK h (p3 (gg g3 (kk 4 ee)))) λg3 h=>bnK h λr3 Yu h=>itK h (λg4 h=>rtK h (p3 (gg g3 (kk 1 (rr (Z41 Yu) (kk 2 (gg g4 ee))))))) λg4 h=>bnK h λr4 Kx h=>rtK h (p3 (gg g3 (kk 1 (rr (Z41 Yu) (kk 2 (gg g4 (rr (Zgb Kx) ee))))))))
abbrev Zjx (x0:List Zc) (r:List Zc):Y:=(186,[.tr (x0.map Zc.enc)],.own 150 (r.map Zc.enc),[.undef])
theorem Zw2 {x0:List Zc} {r:List Zc} (h:Zad x0=some r):Zv Tryz.prog Mo (Zjx x0 r):=by
 refine Zt Tryz.func186 ?_;unfold Zad at h;cases x0 with
 | nil=>
  obtain rfl:[]=r:=(Z5d h);have hn:CS (Zjx [] []) Tryz.f186 [1,0,0] [(0,.tr [])] []:=Z5k Mo fOk (k:=at_ [1,0,1] (Xm Tryz.f186) []) (x0:=.tmp 0) (d0:=3) (d1:=4) (t:=31) (e:=150) (y:=.const (.slice none 0 0)) (by kernel_rfl) (by kernel_rfl) rfl rfl λb=>by
   cases b with
   | true=>exact rtQ rfl [.k] tt
   | false=>exact rtQ rfl [.k,.app [] true [] 0,.k] (aa (Eq.refl ([]:List (List V))) (aa (Eq.refl true) (aa (Eq.refl true) (aa (Eq.refl 0) (aa (apz 32) (aa (Eq.refl ([]:List (List V))) (aa (Eq.refl 0) (aa (Eq.refl 0) tt))))))))
  exact cutQ [] 4 [] tt hn
 | cons a l=>
  exact rtQ rfl [.k,.app ((a::l).map Zc.enc) true (r.map Zc.enc) (r.map Zc.enc).length,.k] (aa (Vdg (Zc.enc a) (l.map Zc.enc)) (aa (Eq.refl ((a::l).map Zc.enc)) (aa (ltr Zc.enc_lit (a::l)) (aa (alr 4 Zc.enc_len (a::l)) (aa (Eq.refl 0) (aa (apl Zc.enc h) (aa (apm0 Zc.enc h) (aa (Z9n Zc.enc r) (aa (Z9n Zc.enc r) tt)))))))))
abbrev Ytj (x0:Zh) (r:Zh):Y:=(112,[.agg (Zh.enc x0)],.agg [.own 150 (r.masters.map Zc.enc),il r.quantum,il r.maxWait,il r.maxRetry,il r.maxSplit,il r.lockMost],[.undef])
theorem Ycj {x0:Zh} {r:Zh} (h:Zpc x0=some r):Zv Tryz.prog Mo (Ytj x0 r):=
 Zt Tryz.func112 (bnK h λr0 Zo h=>rtK h (rr (Zw2 Zo) (kk 1 (oe Zc.enc r0 ee))))
abbrev Yx9  (r:Zn):Y:=(187,[],.agg (Zn.ow r),[])
theorem Ywa  {r:Zn} (h:Ygz  = some r):Zv Tryz.prog Mo (Yx9  r):=
 Zt Tryz.func187 (bnK h λm0 hm0 h=>rtK h (tp (.mk (4:Int).toNat (m0.map Zd)) (kk 1 (ob (mkn hm0) (ob (mkn hm0) (ob (mkl hm0) (ob (mkr Zd hm0) (oe Zd m0 ee))))))))
abbrev Ypi  (r:Zj):Y:=(113,[],.agg (Zj.ow r),[])
theorem Ym9  {r:Zj} (h:Ztj  = some r):Zv Tryz.prog Mo (Ypi  r):=
 Zt Tryz.func113 (bnK h λm0 hm0 h=>bnK h λr0 Zo h=>rtK h (tp (.mk (192:Int).toNat (m0.map Zd)) (ob (mkn hm0) (ob (mkn hm0) (ob (mkl hm0) (ob (mkr Zd hm0) (rr (Ywa Zo) (kk 3 (oe Zd m0 (Zn.so r0 ee))))))))))
abbrev Ymr (x0:Zc) (r:Zf):Y:=(114,[.agg (Zc.enc x0)],.agg (Zf.enc r),[.undef])
theorem Yl4 {x0:Zc} {r:Zf} (h:Zpz x0=some r):Zv Tryz.prog Mo (Ymr x0 r):=
 Zt Tryz.func114 (itK h (λg1 h=>rtK h (gg g1 ee)) λg1 h=>rtK h (gg g1 ee))
abbrev Yht (x0:Zh) (r:Za×Bool):Y:=(49,[.agg (Zh.enc x0)],.tup [.agg (Za.ow r.1),bl r.2],[.undef])
theorem Yje {x0:Zh} {r:Za×Bool}:∀{m:Nat} {vb0:Za} {v0:Int},Zn0 x0 m vb0 v0=some r->CS (Yht x0 r) Tryz.f49 [1,1,1,0,1,0] [(2,.ptr (1,1) 0 0),(4,.ptr (1,10) 0 0),(16,.tr (x0.masters.map Zc.enc)),(17,il (x0.masters.length:Int)),(18,il v0)] (Za.bk Za.z0 2++[bx 1 (Za.rl Za.z0 2)]++Za.bk vb0 11++[bx 10 (Za.rl vb0 11)]):=by
 intro m
 induction m with
 | zero=>intro vb0 v0 h;cases h
 | succ m ih=>exactλ{vb0} {v0} h=>itK h (λg1 h=>bnK h λa0 Z0 h=>bnK h λz0 We h=>bnK h λr0 Zo h=>bnK h λz1 hz1 h=>bnK h λz2 hz2 h=>Zk (ffi 1 11++[((1,12),(4,4096)),((1,13),(5,5120)),((1,14),(6,3072))]++ffi 15 4) 17 (gg g1 (xb Zc.enc Z0 (ta Zb.enc [Zb.z0] z0 (kk 1 (oa 6 Zb.enc_len Zb.z0 (ox Zb.enc We (oe Zb.enc z0 (rr (Yl4 Zo) (ta Zf.enc [r0] z1 (kk 1 (ta Zd [0] z2 (kk 1 (oa 2 Zf.enc_len r0 (ox Zf.enc hz1 (oe Zf.enc z1 (oa 1 Zak 0 (ox Zd hz2 (oe Zd z2 (Za.sc Za.z0 (Za.sc {vb0 with m:=z0,buckets:=z1,splits:=z2} ee)))))))))))))))))))) (ih h)) λg1 h=>rtK h (gg g1 (kk 8 (Za.so vb0 ee)))
theorem Yf9 {x0:Zh} {r:Za×Bool} (h:Zxx x0=some r):Zv Tryz.prog Mo (Yht x0 r):=
 Zt Tryz.func49 (bnK h λr1 Zw h=>itK h (λg1 h=>rtK h (rr (Zdy Zw) (gg g1 ee))) λg1 h=>bnK h λr2 Z6 h=>bnK h λr3 Yu h=>Zk [((1,1),(1,1024)),((1,10),(3,4096)),((1,11),(3,1024)),((1,15),(3,2048)),((1,16),(3,2049)),((1,17),(3,2051))] 13 (rr (Zdy Zw) (gg g1 (rr (Ycj Z6) (rr (Ym9 Yu) (lr Zc.enc x0.masters (ln Zc.enc r2.masters (tp (.num (r3.mem.map Zd).length 0 0 []) (tp (.num (r3.dev.regs.map Zd).length 0 0 []) (tp (.num (r3.dev.fifo.map Zd).length 0 0 []) (Zj.so r3 ee)))))))))) (Yje h))
abbrev Yr1 (x0:Int) (r:Int):Y:=(116,[il x0],il r,[.undef])
theorem Zvc {x0:Int} {r:Int} (h:Zgt x0=some r):Zv Tryz.prog Mo (Yr1 x0 r):=
 Zt Tryz.func116 (bnK h λr0 Zo h=>itK h (λg1 h=>rtK h (rr (Yf Zo) (gg g1 ee))) λg1 h=>bnK h λa0 Z0 h=>rtK h (rr (Yf Zo) (gg g1 (xd Zd Z0 ee))))
abbrev Yrx (x0:Int) (r:Int):Y:=(241,[il x0],il r,[.undef])
theorem Zcs {x0:Int} {r:Int} (h:J7 x0=some r):Zv Tryz.prog Mo (Yrx x0 r):=
 Zt Tryz.func241 (bnK h λr0 Zo h=>itK h (λg1 h=>rtK h (rr (Yf Zo) (gg g1 ee))) λg1 h=>bnK h λn0 hn0 h=>rtK h (rr (Yf Zo) (gg g1 (tp (.obl) (ob (nn0 hn0) ee)))))
abbrev Ys1 (x0:Int) (x1:Int) (r:Bool):Y:=(223,[il x0,il x1],bl r,[.undef,.undef])
theorem Zg3 {x0:Int} {x1:Int} {r:Bool} (h:Zgp x0 x1=some r):Zv Tryz.prog Mo (Ys1 x0 x1 r):=
 Zt Tryz.func223 (bnK h λr0 Zo h=>itK h (λg1 h=>itK h (λg2 h=>bnK h λr1 Zw h=>bnK h λn0 hn0 h=>rtK h (rr (Yf Zo) (gg g1 (kk 2 (gg g2 (kk 2 (rr (Zcs Zw) (kk 1 (tp (.obl) (kk 2 (ob (nz0 hn0) ee))))))))))) λg2 h=>rtK h (rr (Yf Zo) (gg g1 (kk 2 (gg g2 (kk 5 ee)))))) λg1 h=>rtK h (rr (Yf Zo) (gg g1 (kk 8 ee))))
abbrev Z7s (x0:Int) (x1:Int) (x2:Int) (r:Int):Y:=(240,[il x0,il x1,il x2],il r,[.undef,.undef,.undef])
theorem Zqm {x0:Int} {x1:Int} {x2:Int} {r:Int} {v0:Bool} (h:Zez x0 x1 x2 v0=some r):CS (Z7s x0 x1 x2 r) Tryz.f240 [1,0,1] [(0,il x0),(1,il x1),(2,il x2),(21,bl v0)] []:=
 itK h (λg1 h=>rtK h (gg g1 ee)) λg1 h=>bnK h λr0 Zo h=>bnK h λr1 Zw h=>have p1 {q p} (k:Scr q p):=(gg g1 (rr (Zcs Zo) (rr (Zcs Zw) k)));itK h (λg2 h=>bnK h λn0 hn0 h=>itK h (λg3 h=>rtK h (p1 (gg g2 (kk 2 (tp (.obl) (kk 2 (ob (nz0 hn0) (gg g3 ee)))))))) λg3 h=>rtK h (p1 (gg g2 (kk 2 (tp (.obl) (kk 2 (ob (nz0 hn0) (gg g3 ee)))))))) λg2 h=>rtK h (p1 (gg g2 (kk 5 ee)))
theorem Z7o {x0:Int} {x1:Int} {x2:Int} {r:Int} (h:Zse x0 x1 x2=some r):Zv Tryz.prog Mo (Z7s x0 x1 x2 r):=
 Zt Tryz.func240 (bnK h λr2 Z6 h=>itK h (λg1 h=>Zk [] 5 (rr (Zg3 Z6) (gg g1 (kk 6 ee))) (Zqm h)) λg1 h=>itK h (λg2 h=>Zk [] 5 (rr (Zg3 Z6) (gg g1 (kk 2 (gg g2 (kk 3 ee))))) (Zqm h)) λg2 h=>bnK h λr3 Yu h=>Zk [] 5 (rr (Zg3 Z6) (gg g1 (kk 2 (gg g2 (kk 1 (rr (Zvc Yu) (kk 2 ee))))))) (Zqm h))
abbrev Z4j (x0:Int) (x1:Int) (x2:Int) (r:List Int):Y:=(188,[il x0,il x1,il x2],.own 3 (r.map Zd),[.undef,.undef,.undef])
theorem Z9y {x0:Int} {x1:Int} {x2:Int} {r:List Int}:∀{m:Nat} {v0:Int} {v1:List Int} {v2:Int} {v3:Int},Zga x0 x1 x2 m v0 v1 v2 v3=some r->CS (Z4j x0 x1 x2 r) Tryz.f188 [1,1,0,1,0] [(0,il v0),(1,il x1),(2,il x2),(7,.sl (1,1) 0 (v1.map Zd).length),(11,il v2),(12,il v3)] [rx 1 3 (v1.map Zd)]:=by
 intro m
 induction m with
 | zero=>intro v0 v1 v2 v3 h;cases h
 | succ m ih=>exactλ{v0} {v1} {v2} {v3} h=>itK h (λg1 h=>bnK h λr0 Zo h=>itK h (λg2 h=>rtK h (gg g1 (rr (Z7o Zo) (gg g2 ee)))) λg2 h=>bnK h λz0 We h=>Zk [((1,1),(5,3072))] 20 (gg g1 (rr (Z7o Zo) (gg g2 (ta Zd [v0] z0 (kk 1 (oa 1 Zak v0 (ox Zd We (ln Zd z0 (oe Zd z0 ee))))))))) (ih h)) λg1 h=>rtK h (gg g1 (kk 1 (oe Zd v1 ee)))
theorem Z4m {x0:Int} {x1:Int} {x2:Int} {r:List Int} (h:Zh3 x0 x1 x2=some r):Zv Tryz.prog Mo (Z4j x0 x1 x2 r):=
 Zt Tryz.func188 (bnK h λr1 Zw h=>Zk [((1,1),(2,0))] 8 (rr (Zvc Zw) (tp (.num ([].map Zd).length 0 0 []) (ob (show 0=([].map Zd).length from rfl) ee))) (Z9y h))
abbrev Yb2 (x0:Int) (x1:Int) (x2:Int) (r:Bool):Y:=(117,[il x0,il x1,il x2],bl r,[.undef,.undef,.undef])
theorem Ye6 {x0:Int} {x1:Int} {x2:Int} {r:Bool}:∀{m:Nat} {v0:List Int} {v1:Int} {v2:Int},Zlj x0 x1 x2 m v0 v1 v2=some r->CS (Yb2 x0 x1 x2 r) Tryz.f117 [1,1,0,1,0] [(7,.sl (1,1) 0 (v0.map Zd).length),(14,.sl (1,1) 0 (v0.map Zd).length),(15,il v1),(16,il v2)] [rx 1 3 (v0.map Zd)]:=by
 intro m
 induction m with
 | zero=>intro v0 v1 v2 h;cases h
 | succ m ih=>exactλ{v0} {v1} {v2} h=>itK h (λg1 h=>bnK h λa0 Z0 h=>bnK h λa1 Y3 h=>itK h (λg2 h=>rtK h (gg g1 (xd Zd Z0 (kk 1 (xd Zd Y3 (kk 1 (gg g2 ee))))))) λg2 h=>Zk [((1,1),(1,1))] 16 (gg g1 (xd Zd Z0 (kk 1 (xd Zd Y3 (kk 1 (gg g2 (ln Zd v0 (ln Zd v0 ee)))))))) (ih h)) λg1 h=>rtK h (gg g1 (lr Zd v0 ee))
theorem Z3l {x0:Int} {x1:Int} {x2:Int} {r:Bool} (h:Zu7 x0 x1 x2=some r):Zv Tryz.prog Mo (Yb2 x0 x1 x2 r):=
 Zt Tryz.func117 (bnK h λr0 Zo h=>Zk [((1,1),(2,3072))] 8 (rr (Z4m Zo) (lr Zd r0 (ln Zd r0 (ln Zd r0 ee)))) (Ye6 h))
abbrev Yup (x0:Int) (r:Int):Y:=(190,[il x0],il r,[.undef])
theorem Ycd {x0:Int} {r:Int} (h:Zpu x0=some r):Zv Tryz.prog Mo (Yup x0 r):=
 Zt Tryz.func190 (bnK h λr0 Zo h=>itK h (λg1 h=>rtK h (rr (Zcs Zo) (gg g1 ee))) λg1 h=>bnK h λr1 Zw h=>bnK h λn0 hn0 h=>rtK h (rr (Zcs Zo) (gg g1 (rr (Zcs Zw) (tp (.obl) (ob (nn0 hn0) ee))))))
abbrev Y0d (x0:Int) (x1:Int) (r:Bool):Y:=(120,[il x0,il x1],bl r,[.undef,.undef])
theorem Zm9 {x0:Int} {x1:Int} {r:Bool} (h:Zd8 x0 x1=some r):Zv Tryz.prog Mo (Y0d x0 x1 r):=
 Zt Tryz.func120 (bnK h λr0 Zo h=>bnK h λr1 Zw h=>rtK h (rr (Ycd Zo) (rr (Yf Zw) ee)))
abbrev Ysm (x0:Int) (x1:Zi) (r:Bool):Y:=(119,[il x0,.rp true (Zi.enc x1) 0],bl r,[.undef,.undef])
theorem Ybu {x0:Int} {x1:Zi} {r:Bool} (h:Zu5 x0 x1=some r):Zv Tryz.prog Mo (Ysm x0 x1 r):=
 Zt Tryz.func119 (bnK h λr0 Zo h=>rtK h (rr (Zm9 Zo) ee))
abbrev Zcn (x0:List Int) (x1c0:Zi) (r:Int):Y:=(189,[.tr (x0.map Zd),.fn 119 [.rp true (Zi.enc x1c0) 0]],il r,[.undef,.undef])
theorem Zih {x0:List Int} {x1c0:Zi} {r:Int}:∀{m:Nat} {v0:Int},Q7 x0 x1c0 m v0=some r->CS (Zcn x0 x1c0 r) Tryz.f189 [1,0,1,0] [(0,.tr (x0.map Zd)),(1,.fn 119 [.rp true (Zi.enc x1c0) 0]),(7,il (x0.length:Int)),(8,il v0)] []:=by
 intro m
 induction m with
 | zero=>intro v0 h;cases h
 | succ m ih=>exactλ{v0} h=>itK h (λg1 h=>bnK h λa0 Z0 h=>bnK h λr0 Zo h=>itK h (λg2 h=>rtK h (gg g1 (xb Zd Z0 (rr (Ybu Zo) (gg g2 ee))))) λg2 h=>Zk [] 16 (gg g1 (xb Zd Z0 (rr (Ybu Zo) (gg g2 ee)))) (ih h)) λg1 h=>rtK h (gg g1 ee)
theorem Zl5 {x0:List Int} {x1c0:Zi} {r:Int} (h:K7 x0 x1c0=some r):Zv Tryz.prog Mo (Zcn x0 x1c0 r):=
 Zt Tryz.func189 (Zk [] 6 (lr Zd x0 ee) (Zih h))
abbrev Zix (x0:List Int) (x1c0:Zi) (r:Bool):Y:=(118,[.tr (x0.map Zd),.fn 119 [.rp true (Zi.enc x1c0) 0]],bl r,[.undef,.undef])
theorem Zjm {x0:List Int} {x1c0:Zi} {r:Bool} (h:Wr x0 x1c0=some r):Zv Tryz.prog Mo (Zix x0 x1c0 r):=
 Zt Tryz.func118 (bnK h λr0 Zo h=>rtK h (rr (Zl5 Zo) ee))
abbrev Yk4 (x0:Zi) (r:Bool):Y:=(52,[.agg (Zi.enc x0)],bl r,[.undef])
theorem Z7e {x0:Zi} {r:Bool} {v0:Int} (h:Zqg x0 v0=some r):CS (Yk4 x0 r) Tryz.f52 [1,1,1] [(1,.ptr (1,1) 0 0),(3,il v0)] [bx 1 (Zi.enc x0)]:=
 bnK h λr0 Zo h=>itK h (λg1 h=>itK h (λg2 h=>bnK h λr1 Zw h=>rtK h (rr (Z3l Zo) (gg g1 (kk 2 (lr Zd x0.data_ (kk 3 (gg g2 (kk 3 (rr (Zjm Zw) (kk 2 ee)))))))))) λg2 h=>rtK h (rr (Z3l Zo) (gg g1 (kk 2 (lr Zd x0.data_ (kk 3 (gg g2 (kk 5 ee)))))))) λg1 h=>rtK h (rr (Z3l Zo) (gg g1 (kk 11 ee)))
theorem Zni {x0:Zi} {r:Bool} (h:Znj x0=some r):Zv Tryz.prog Mo (Yk4 x0 r):=
 Zt Tryz.func52 (itK h (λg1 h=>bnK h λr2 Z6 h=>Zk [((1,1),(1,0))] 9 (gg g1 (rr (Zvc Z6) ee)) (Z7e h)) λg1 h=>Zk [((1,1),(1,0))] 9 (gg g1 ee) (Z7e h))
abbrev Zpn (x0:List Int) (r:List Int):Y:=(159,[.tr (x0.map Zd)],.own 3 (r.map Zd),[.undef])
theorem Wv {x0:List Int} {r:List Int} (h:Xd x0=some r):Zv Tryz.prog Mo (Zpn x0 r):=by
 refine Zt Tryz.func159 ?_;unfold Xd at h;cases x0 with
 | nil=>
  obtain rfl:[]=r:=(Z5d h);have hn:CS (Zpn [] []) Tryz.f159 [1,0,0] [(0,.tr [])] []:=Z5k Mo fOk (k:=at_ [1,0,1] (Xm Tryz.f159) []) (x0:=.tmp 0) (d0:=3) (d1:=4) (t:=45) (e:=3) (y:=.const (.slice none 0 0)) (by kernel_rfl) (by kernel_rfl) rfl rfl λb=>by
   cases b with
   | true=>exact rtQ rfl [.k] tt
   | false=>exact rtQ rfl [.k,.app [] true [] 0,.k] (aa (Eq.refl ([]:List (List V))) (aa (Eq.refl true) (aa (Eq.refl true) (aa (Eq.refl 0) (aa (apz 8) (aa (Eq.refl ([]:List (List V))) (aa (Eq.refl 0) (aa (Eq.refl 0) tt))))))))
  exact cutQ [] 4 [] tt hn
 | cons a l=>
  exact rtQ rfl [.k,.app ((a::l).map Zd) true (r.map Zd) (r.map Zd).length,.k] (aa (Vdg (Zd a) (l.map Zd)) (aa (Eq.refl ((a::l).map Zd)) (aa (ltr Zqk (a::l)) (aa (alr 1 Zak (a::l)) (aa (Eq.refl 0) (aa (apl Zd h) (aa (apm0 Zd h) (aa (Z9n Zd r) (aa (Z9n Zd r) tt)))))))))
abbrev Yxj (x0:Zi) (r:Zi):Y:=(214,[.agg (Zi.enc x0)],.agg [bl r.write,il r.addr,il r.size,il r.burst,bl r.lock,.own 3 (r.data_.map Zd)],[.undef])
theorem Z5r {x0:Zi} {r:Zi} (h:Ziv x0=some r):Zv Tryz.prog Mo (Yxj x0 r):=
 Zt Tryz.func214 (bnK h λr0 Zo h=>rtK h (rr (Wv Zo) (kk 1 (oe Zd r0 ee))))
abbrev Ygn (x0:Zb) (r:Zb):Y:=(157,[.agg (Zb.enc x0)],.agg [.own 104 (r.queue.map Zi.enc),il r.beat,il r.done,il r.tries,bl r.parted,bl r.broken],[.undef])
theorem Yix {x0:Zb} {r:Zb}:∀{m:Nat} {v0:List Zi} {v1:Int},Zoc x0 m v0 v1=some r->CS (Ygn x0 r) Tryz.f157 [1,1,0,1,0] [(1,.ptr (1,1) 0 0),(2,.ptr (1,2) 0 0),(3,.sl (1,4) 0 (v0.map Zi.enc).length),(8,.tr (x0.queue.map Zi.enc)),(9,il (x0.queue.length:Int)),(10,il v1)] [bx 1 (Zb.enc x0),rx 3 104 ([].map Zi.enc),bx 2 [.sl (1,3) 0 ([].map Zi.enc).length,il 0,il 0,il 0,bl false,bl false],rx 4 104 (v0.map Zi.enc)]:=by
 intro m
 induction m with
 | zero=>intro v0 v1 h;cases h
 | succ m ih=>exactλ{v0} {v1} h=>itK h (λg1 h=>bnK h λa0 Z0 h=>bnK h λr0 Zo h=>bnK h λz0 We h=>Zk (ffi 1 3++[((1,4),(4,4096))]) 13 (gg g1 (xb Zi.enc Z0 (rr (Z5r Zo) (kk 1 (ta Zi.enc [r0] z0 (kk 1 (oe Zd r0.data_ (oa 6 Zi.enc_len r0 (ox Zi.enc We (ln Zi.enc z0 (oe Zi.enc z0 (ln Zi.enc [] ee)))))))))))) (ih h)) λg1 h=>rtK h (gg g1 (kk 1 (oe Zi.enc v0 ee)))
theorem Zge {x0:Zb} {r:Zb} (h:Zf3 x0=some r):Zv Tryz.prog Mo (Ygn x0 r):=
 Zt Tryz.func157 (Zk [((1,1),(1,0)),((1,2),(1,1024)),((1,4),(2,0))] 8 (lr Zi.enc x0.queue (tp (.num ([].map Zi.enc).length 0 0 []) (ob (show 0=([].map Zi.enc).length from rfl) ee))) (Yix h))
abbrev Zh9 (x0:List Zf) (r:List Zf):Y:=(158,[.tr (x0.map Zf.enc)],.own 158 (r.map Zf.enc),[.undef])
theorem Zuk {x0:List Zf} {r:List Zf} (h:Js x0=some r):Zv Tryz.prog Mo (Zh9 x0 r):=by
 refine Zt Tryz.func158 ?_;unfold Js at h;cases x0 with
 | nil=>
  obtain rfl:[]=r:=(Z5d h);have hn:CS (Zh9 [] []) Tryz.f158 [1,0,0] [(0,.tr [])] []:=Z5k Mo fOk (k:=at_ [1,0,1] (Xm Tryz.f158) []) (x0:=.tmp 0) (d0:=3) (d1:=4) (t:=52) (e:=158) (y:=.const (.slice none 0 0)) (by kernel_rfl) (by kernel_rfl) rfl rfl λb=>by
   cases b with
   | true=>exact rtQ rfl [.k] tt
   | false=>exact rtQ rfl [.k,.app [] true [] 0,.k] (aa (Eq.refl ([]:List (List V))) (aa (Eq.refl true) (aa (Eq.refl true) (aa (Eq.refl 0) (aa (apz 16) (aa (Eq.refl ([]:List (List V))) (aa (Eq.refl 0) (aa (Eq.refl 0) tt))))))))
  exact cutQ [] 4 [] tt hn
 | cons a l=>
  exact rtQ rfl [.k,.app ((a::l).map Zf.enc) true (r.map Zf.enc) (r.map Zf.enc).length,.k] (aa (Vdg (Zf.enc a) (l.map Zf.enc)) (aa (Eq.refl ((a::l).map Zf.enc)) (aa (ltr Zf.enc_lit (a::l)) (aa (alr 2 Zf.enc_len (a::l)) (aa (Eq.refl 0) (aa (apl Zf.enc h) (aa (apm0 Zf.enc h) (aa (Z9n Zf.enc r) (aa (Z9n Zf.enc r) tt)))))))))
abbrev Ywt (x0:Zn) (r:Zn):Y:=(215,[.agg (Zn.enc x0)],.agg (Zn.ow r),[.undef])
theorem Ygl {x0:Zn} {r:Zn} (h:Zst x0=some r):Zv Tryz.prog Mo (Ywt x0 r):=
 Zt Tryz.func215 (bnK h λr0 Zo h=>bnK h λr1 Zw h=>rtK h (rr (Wv Zo) (rr (Wv Zw) (kk 2 (oe Zd r0 (oe Zd r1 ee))))))
abbrev Yoh (x0:Zj) (r:Zj):Y:=(160,[.agg (Zj.enc x0)],.agg (Zj.ow r),[.undef])
theorem Zyx {x0:Zj} {r:Zj} (h:Zhz x0=some r):Zv Tryz.prog Mo (Yoh x0 r):=
 Zt Tryz.func160 (bnK h λr0 Zo h=>bnK h λr1 Zw h=>rtK h (rr (Wv Zo) (rr (Ygl Zw) (kk 3 (oe Zd r0 (Zn.so r1 ee))))))
abbrev Zm5 (x0:List Zr) (r:List Zr):Y:=(161,[.tr (x0.map Zr.enc)],.own 113 (r.map Zr.enc),[.undef])
theorem Zy0 {x0:List Zr} {r:List Zr} (h:Za6 x0=some r):Zv Tryz.prog Mo (Zm5 x0 r):=by
 refine Zt Tryz.func161 ?_;unfold Za6 at h;cases x0 with
 | nil=>
  obtain rfl:[]=r:=(Z5d h);have hn:CS (Zm5 [] []) Tryz.f161 [1,0,0] [(0,.tr [])] []:=Z5k Mo fOk (k:=at_ [1,0,1] (Xm Tryz.f161) []) (x0:=.tmp 0) (d0:=3) (d1:=4) (t:=28) (e:=113) (y:=.const (.slice none 0 0)) (by kernel_rfl) (by kernel_rfl) rfl rfl λb=>by
   cases b with
   | true=>exact rtQ rfl [.k] tt
   | false=>exact rtQ rfl [.k,.app [] true [] 0,.k] (aa (Eq.refl ([]:List (List V))) (aa (Eq.refl true) (aa (Eq.refl true) (aa (Eq.refl 0) (aa (apz 56) (aa (Eq.refl ([]:List (List V))) (aa (Eq.refl 0) (aa (Eq.refl 0) tt))))))))
  exact cutQ [] 4 [] tt hn
 | cons a l=>
  exact rtQ rfl [.k,.app ((a::l).map Zr.enc) true (r.map Zr.enc) (r.map Zr.enc).length,.k] (aa (Vdg (Zr.enc a) (l.map Zr.enc)) (aa (Eq.refl ((a::l).map Zr.enc)) (aa (ltr Zr.enc_lit (a::l)) (aa (alr 7 Zr.enc_len (a::l)) (aa (Eq.refl 0) (aa (apl Zr.enc h) (aa (apm0 Zr.enc h) (aa (Z9n Zr.enc r) (aa (Z9n Zr.enc r) tt)))))))))
abbrev Ygi (x0:Za) (r:Za):Y:=(95,[.agg (Za.enc x0)],.agg (Za.ow r),[.undef])
theorem Yjp {x0:Za} {r:Za}:∀{m:Nat} {vb0:Za} {v0:List Zb} {v1:Int},Zh6 x0 m vb0 v0 v1=some r->CS (Ygi x0 r) Tryz.f95 [1,1,1,0,1,0] [(1,.ptr (1,1) 0 0),(2,.ptr (1,3) 0 0),(3,.sl (1,12) 0 (v0.map Zb.enc).length),(12,.tr (x0.m.map Zb.enc)),(13,il (x0.m.length:Int)),(14,il v1)] ([rx 2 150 (vb0.conf.masters.map Zc.enc),bx 1 [.sl (1,2) 0 (vb0.conf.masters.map Zc.enc).length,il vb0.conf.quantum,il vb0.conf.maxWait,il vb0.conf.maxRetry,il vb0.conf.maxSplit,il vb0.conf.lockMost,il vb0.now,.tr (vb0.m.map Zb.enc),il vb0.arb.at_,il vb0.arb.credit,.tr (vb0.buckets.map Zf.enc),.tr (vb0.splits.map Zd),il vb0.holder,il vb0.held,il vb0.last,bl vb0.addr.live,il vb0.addr.who,il vb0.addr.beat,bl vb0.addr.first,il vb0.addr.by_,il vb0.addr.left,il vb0.addr.resp,bl vb0.addr.second,bl vb0.data_.live,il vb0.data_.who,il vb0.data_.beat,bl vb0.data_.first,il vb0.data_.by_,il vb0.data_.left,il vb0.data_.resp,bl vb0.data_.second,.tr (vb0.model.mem.map Zd),.tr (vb0.model.dev.regs.map Zd),il vb0.model.dev.timer,.tr (vb0.model.dev.fifo.map Zd),il vb0.picks,.tr (vb0.log.map Zr.enc)]]++Za.bk Za.z0 4++[bx 3 (Za.rl Za.z0 4),rx 12 156 (v0.map Zb.enc)]):=by
 intro m
 induction m with
 | zero=>intro vb0 v0 v1 h;cases h
 | succ m ih=>exactλ{vb0} {v0} {v1} h=>itK h (λg1 h=>bnK h λa0 Z0 h=>bnK h λr0 Zo h=>bnK h λz0 We h=>Zk (ffi 1 11++[((1,12),(4,4096))]) 13 (gg g1 (xb Zb.enc Z0 (rr (Zge Zo) (kk 1 (ta Zb.enc [r0] z0 (kk 1 (oe Zi.enc r0.queue (oa 6 Zb.enc_len r0 (ox Zb.enc We (ln Zb.enc z0 (oe Zb.enc z0 (ln Zc.enc vb0.conf.masters (Za.sc Za.z0 ee))))))))))))) (ih h)) λg1 h=>bnK h λr1 Zw h=>bnK h λr2 Z6 h=>bnK h λr3 Yu h=>bnK h λr4 Kx h=>rtK h (gg g1 (rr (Zuk Zw) (rr (Wv Z6) (rr (Zyx Yu) (rr (Zy0 Kx) (kk 8 (oe Zc.enc vb0.conf.masters (oe Zb.enc v0 (oe Zf.enc r1 (oe Zd r2 (Zj.so r3 (oe Zr.enc r4 ee))))))))))))
theorem Z5l {x0:Za} {r:Za} (h:Zsw x0=some r):Zv Tryz.prog Mo (Ygi x0 r):=
 Zt Tryz.func95 (bnK h λr5 hr5 h=>Zk [((1,1),(1,0)),((1,2),(2,2048)),((1,3),(1,1024)),((1,12),(3,0))] 10 (rr (Ycj hr5) (lr Zb.enc x0.m (tp (.num ([].map Zb.enc).length 0 0 []) (ob (show 0=([].map Zb.enc).length from rfl) (ln Zc.enc r5.masters ee))))) (Yjp h))
abbrev Z8w (x0:Zi) (r:Bool):Y:=(248,[.agg (Zi.enc x0)],bl r,[.undef])
theorem Zv5 {x0:Zi} {r:Bool} (h:Zf9 x0=some r):Zv Tryz.prog Mo (Z8w x0 r):=
 Zt Tryz.func248 (bnK h λr0 Zo h=>rtK h (rr (Zni Zo) ee))
abbrev J8 (x0:List Zi) (r:Int):Y:=(115,[.tr (x0.map Zi.enc),.fn 248 []],il r,[.undef,.undef])
theorem Zej {x0:List Zi} {r:Int}:∀{m:Nat} {v0:Int},W0 x0 m v0=some r->CS (J8 x0 r) Tryz.f115 [1,0,1,0] [(0,.tr (x0.map Zi.enc)),(1,.fn 248 []),(7,il (x0.length:Int)),(8,il v0)] []:=by
 intro m
 induction m with
 | zero=>intro v0 h;cases h
 | succ m ih=>exactλ{v0} h=>itK h (λg1 h=>bnK h λa0 Z0 h=>bnK h λr0 Zo h=>itK h (λg2 h=>rtK h (gg g1 (xb Zi.enc Z0 (rr (Zv5 Zo) (gg g2 ee))))) λg2 h=>Zk [] 16 (gg g1 (xb Zi.enc Z0 (rr (Zv5 Zo) (gg g2 ee)))) (ih h)) λg1 h=>rtK h (gg g1 ee)
theorem Zgx {x0:List Zi} {r:Int} (h:Qm x0=some r):Zv Tryz.prog Mo (J8 x0 r):=
 Zt Tryz.func115 (Zk [] 6 (lr Zi.enc x0 ee) (Zej h))
abbrev Zff (x0:List Zi) (r:Bool):Y:=(50,[.tr (x0.map Zi.enc),.fn 248 []],bl r,[.undef,.undef])
theorem Zfg {x0:List Zi} {r:Bool} (h:X2 x0=some r):Zv Tryz.prog Mo (Zff x0 r):=
 Zt Tryz.func50 (bnK h λr0 Zo h=>rtK h (rr (Zgx Zo) ee))
abbrev Ymm (x0:Zb) (r:Int):Y:=(224,[.rp true (Zb.enc x0) 0],il r,[.undef])
theorem Zdm {x0:Zb} {r:Int} (h:Zbw x0=some r):Zv Tryz.prog Mo (Ymm x0 r):=
 Zt Tryz.func224 (itK h (λg1 h=>rtK h (lr Zi.enc x0.queue (gg g1 ee))) λg1 h=>bnK h λa0 Z0 h=>bnK h λr0 Zo h=>rtK h (lr Zi.enc x0.queue (gg g1 (xb Zi.enc Z0 (rr (Zvc Zo) ee)))))
abbrev Zy9 (x0:Zb) (r:Bool):Y:=(216,[.agg (Zb.enc x0)],bl r,[.undef])
theorem Zip {x0:Zb} {r:Bool} {v0:Bool} (h:Wt x0 v0=some r):CS (Zy9 x0 r) Tryz.f216 [1,0,1] [(1,.ptr (1,1) 0 0),(16,bl v0)] [bx 1 (Zb.enc x0)]:=
 itK h (λg1 h=>rtK h (gg g1 ee)) λg1 h=>have p1 {q p} (k:Scr q p):=(gg g1 (lr Zi.enc x0.queue k));itK h (λg2 h=>itK h (λg3 h=>itK h (λg4 h=>have p2 {q p} (k:Scr q p):=(p1 (gg g2 (gg g3 (kk 3 (gg g4 (kk 3 k))))));itK h (λg5 h=>itK h (λg6 h=>rtK h (p2 (gg g5 (kk 3 (gg g6 (kk 3 ee)))))) λg6 h=>rtK h (p2 (gg g5 (kk 3 (gg g6 (kk 3 ee)))))) λg5 h=>rtK h (p2 (gg g5 (kk 7 ee)))) λg4 h=>rtK h (p1 (gg g2 (gg g3 (kk 3 (gg g4 (kk 11 ee))))))) λg3 h=>rtK h (p1 (gg g2 (gg g3 (kk 15 ee))))) λg2 h=>bnK h λr0 Zo h=>bnK h λr1 Zw h=>itK h (λg3 h=>bnK h λr2 Z6 h=>bnK h λr3 Yu h=>rtK h (p1 (gg g2 (rr (Zdm Zo) (rr (Yf Zw) (gg g3 (kk 7 (rr (Zdm Z6) (kk 2 (rr (Yf Yu) (kk 1 ee))))))))))) λg3 h=>rtK h (p1 (gg g2 (rr (Zdm Zo) (rr (Yf Zw) (gg g3 (kk 10 ee))))))
theorem Qq {x0:Zb} {r:Bool} (h:Kp x0=some r):Zv Tryz.prog Mo (Zy9 x0 r):=
 Zt Tryz.func216 (itK h (λg1 h=>Zk [((1,1),(1,0))] 5 (lr Zi.enc x0.queue (gg g1 (kk 7 ee))) (Zip h)) λg1 h=>itK h (λg2 h=>Zk [((1,1),(1,0))] 5 (lr Zi.enc x0.queue (gg g1 (kk 3 (gg g2 (kk 3 ee))))) (Zip h)) λg2 h=>bnK h λr4 Kx h=>Zk [((1,1),(1,0))] 5 (lr Zi.enc x0.queue (gg g1 (kk 3 (gg g2 (kk 2 (rr (Zfg Kx) (kk 1 ee))))))) (Zip h))
abbrev Yn9 (x0:Zf) (x1:Zc) (r:Bool):Y:=(217,[.agg (Zf.enc x0),.agg (Zc.enc x1)],bl r,[.undef,.undef])
theorem Z7n {x0:Zf} {x1:Zc} {r:Bool} (h:Zm7 x0 x1=some r):Zv Tryz.prog Mo (Yn9 x0 x1 r):=
 Zt Tryz.func217 (itK h (λg1 h=>rtK h (gg g1 ee)) λg1 h=>bnK h λr0 Zo h=>itK h (λg2 h=>itK h (λg3 h=>rtK h (gg g1 (rr (Yf Zo) (gg g2 (kk 3 (gg g3 (kk 5 ee))))))) λg3 h=>rtK h (gg g1 (rr (Yf Zo) (gg g2 (kk 3 (gg g3 (kk 5 ee))))))) λg2 h=>rtK h (gg g1 (rr (Yf Zo) (gg g2 (kk 9 ee)))))
abbrev Zmx (x0:Za) (r:Bool):Y:=(162,[.rp true (Za.enc x0) 0],bl r,[.undef])
theorem Z3b {x0:Za} {r:Bool}:∀{m:Nat} {v0:Int},Zgr x0 m v0=some r->CS (Zmx x0 r) Tryz.f162 [1,1,1,0,1,0] [(0,.rp true (Za.enc x0) 0),(40,.tr (x0.m.map Zb.enc)),(41,il (x0.m.length:Int)),(42,il v0)] []:=by
 intro m
 induction m with
 | zero=>intro v0 h;cases h
 | succ m ih=>exactλ{v0} h=>itK h (λg1 h=>bnK h λa0 Z0 h=>bnK h λr0 Zo h=>have p1 {q p} (k:Scr q p):=(gg g1 (xb Zb.enc Z0 (rr (Qq Zo) k)));itK h (λg2 h=>rtK h (p1 (gg g2 (kk 42 ee)))) λg2 h=>itK h (λg3 h=>rtK h (p1 (gg g2 (kk 8 (gg g3 (kk 33 ee)))))) λg3 h=>bnK h λa1 Y3 h=>bnK h λa2 Ks h=>bnK h λr1 Zw h=>have p2 {q p} (k:Scr q p):=(p1 (gg g2 (kk 8 (gg g3 (kk 5 (xb Zf.enc Y3 (kk 8 (xb Zc.enc Ks (kk 2 (rr (Z7n Zw) (kk 2 k)))))))))));itK h (λg4 h=>rtK h (p2 (gg g4 (kk 15 ee)))) λg4 h=>bnK h λa3 ha3 h=>bnK h λr2 Z6 h=>have p3 {q p} (k:Scr q p):=(p2 (gg g4 (kk 5 (xb Zd ha3 (kk 7 (rr (Yf Z6) (kk 2 k)))))));itK h (λg5 h=>rtK h (p3 (gg g5 ee))) λg5 h=>Zk [] 16 (p3 (gg g5 ee)) (ih h)) λg1 h=>rtK h (gg g1 ee)
theorem Zg4 {x0:Za} {r:Bool} {v1:Bool} (h:Qn x0 v1=some r):CS (Zmx x0 r) Tryz.f162 [1,1,0,1] [(0,.rp true (Za.enc x0) 0),(36,bl v1)] []:=
 itK h (λg1 h=>rtK h (gg g1 ee)) λg1 h=>Zk [] 6 (gg g1 (lr Zb.enc x0.m ee)) (Z3b h)
theorem Z8m {x0:Za} {r:Bool} (h:Zf4 x0=some r):Zv Tryz.prog Mo (Zmx x0 r):=
 Zt Tryz.func162 (have p1 {q p} (k:Scr q p):=(lr Zc.enc x0.conf.masters (lr Zb.enc x0.m k));itK h (λg1 h=>Zk [] 7 (p1 (gg g1 (kk 15 ee))) (Zg4 h)) λg1 h=>itK h (λg2 h=>Zk [] 7 (p1 (gg g1 (kk 4 (lr Zf.enc x0.buckets (kk 3 (gg g2 (kk 7 ee))))))) (Zg4 h)) λg2 h=>Zk [] 7 (p1 (gg g1 (kk 4 (lr Zf.enc x0.buckets (kk 3 (gg g2 (kk 4 (lr Zd x0.splits (kk 3 ee))))))))) (Zg4 h))
abbrev Yo5 (x0:Zh) (x1:Int) (r:Bool):Y:=(124,[.agg (Zh.enc x0),il x1],bl r,[.undef,.undef])
theorem Zbe {x0:Zh} {x1:Int} {r:Bool} (h:Q1 x0 x1=some r):Zv Tryz.prog Mo (Yo5 x0 x1 r):=
 Zt Tryz.func124 (bnK h λr0 Zo h=>rtK h (lr Zc.enc x0.masters (rr (Yf Zo) ee)))
abbrev Yg0 (x0:Zh) (x1:Int) (r:Int):Y:=(218,[.agg (Zh.enc x0),il x1],il r,[.undef,.undef])
theorem Z38 {x0:Zh} {x1:Int} {r:Int} {v0:Bool} (h:Zun x0 x1 v0=some r):CS (Yg0 x0 x1 r) Tryz.f218 [1,0,1] [(1,il x1),(2,.ptr (1,1) 0 0),(13,bl v0)] [bx 1 (Zh.enc x0)]:=
 itK h (λg1 h=>rtK h (gg g1 ee)) λg1 h=>bnK h λa0 Z0 h=>rtK h (gg g1 (xb Zc.enc Z0 ee))
theorem Z52 {x0:Zh} {x1:Int} {r:Int} (h:Zn4 x0 x1=some r):Zv Tryz.prog Mo (Yg0 x0 x1 r):=
 Zt Tryz.func218 (bnK h λr0 Zo h=>itK h (λg1 h=>Zk [((1,1),(1,0))] 5 (rr (Zdy Zo) (gg g1 (kk 4 ee))) (Z38 h)) λg1 h=>bnK h λr1 Zw h=>Zk [((1,1),(1,0))] 5 (rr (Zdy Zo) (gg g1 (kk 2 (rr (Zbe Zw) (kk 2 ee))))) (Z38 h))
abbrev Y0k (x0:Z5) (x1:Zh) (r:Bool):Y:=(163,[.agg (Z5.enc x0),.agg (Zh.enc x1)],bl r,[.undef,.undef])
theorem Zwj {x0:Z5} {x1:Zh} {r:Bool} (h:Zmo x0 x1=some r):Zv Tryz.prog Mo (Y0k x0 x1 r):=
 Zt Tryz.func163 (bnK h λr0 Zo h=>itK h (λg1 h=>bnK h λr1 Zw h=>have p1 {q p} (k:Scr q p):=(rr (Zdy Zo) (gg g1 (kk 3 (rr (Zbe Zw) (kk 1 k)))));itK h (λg2 h=>bnK h λr2 Z6 h=>bnK h λr3 Yu h=>rtK h (p1 (gg g2 (kk 5 (rr (Z52 Z6) (kk 1 (rr (Yf Yu) (kk 1 ee)))))))) λg2 h=>rtK h (p1 (gg g2 (kk 7 ee)))) λg1 h=>rtK h (rr (Zdy Zo) (gg g1 (kk 12 ee))))
abbrev Yw0 (x0:Int) (r:Bool):Y:=(249,[il x0],bl r,[.undef])
theorem Yfa {x0:Int} {r:Bool} (h:Zyb x0=some r):Zv Tryz.prog Mo (Yw0 x0 r):=
 Zt Tryz.func249 (bnK h λr0 Zo h=>rtK h (rr (Yf Zo) ee))
abbrev Zc4 (x0:List Int) (r:Int):Y:=(189,[.tr (x0.map Zd),.fn 249 []],il r,[.undef,.undef])
theorem Zja {x0:List Int} {r:Int}:∀{m:Nat} {v0:Int},Kj x0 m v0=some r->CS (Zc4 x0 r) Tryz.f189 [1,0,1,0] [(0,.tr (x0.map Zd)),(1,.fn 249 []),(7,il (x0.length:Int)),(8,il v0)] []:=by
 intro m
 induction m with
 | zero=>intro v0 h;cases h
 | succ m ih=>exactλ{v0} h=>itK h (λg1 h=>bnK h λa0 Z0 h=>bnK h λr0 Zo h=>itK h (λg2 h=>rtK h (gg g1 (xb Zd Z0 (rr (Yfa Zo) (gg g2 ee))))) λg2 h=>Zk [] 16 (gg g1 (xb Zd Z0 (rr (Yfa Zo) (gg g2 ee)))) (ih h)) λg1 h=>rtK h (gg g1 ee)
theorem Zmm {x0:List Int} {r:Int} (h:Jf x0=some r):Zv Tryz.prog Mo (Zc4 x0 r):=
 Zt Tryz.func189 (Zk [] 6 (lr Zd x0 ee) (Zja h))
abbrev Zjy (x0:List Int) (r:Bool):Y:=(118,[.tr (x0.map Zd),.fn 249 []],bl r,[.undef,.undef])
theorem Zj4 {x0:List Int} {r:Bool} (h:Wy x0=some r):Zv Tryz.prog Mo (Zjy x0 r):=
 Zt Tryz.func118 (bnK h λr0 Zo h=>rtK h (rr (Zmm Zo) ee))
abbrev Y3j (x0:List Int) (x1:Int) (x2:Int) (r:Bool):Y:=(219,[.tr (x0.map Zd),il x1,il x2],bl r,[.undef,.undef,.undef])
theorem Zur {x0:List Int} {x1:Int} {x2:Int} {r:Bool} (h:Zum x0 x1 x2=some r):Zv Tryz.prog Mo (Y3j x0 x1 x2 r):=
 Zt Tryz.func219 (itK h (λg1 h=>bnK h λr0 Zo h=>have p1 {q p} (k:Scr q p):=(lr Zd x0 (gg g1 (kk 1 (rr (Zj4 Zo) (kk 2 k)))));itK h (λg2 h=>bnK h λr1 Zw h=>itK h (λg3 h=>bnK h λr2 Z6 h=>rtK h (p1 (gg g2 (kk 2 (rr (Zg3 Zw) (kk 1 (gg g3 (kk 2 (lr Zd x0 (kk 2 (rr (Zcs Z6) (kk 3 ee)))))))))))) λg3 h=>rtK h (p1 (gg g2 (kk 2 (rr (Zg3 Zw) (kk 1 (gg g3 (kk 7 ee)))))))) λg2 h=>rtK h (p1 (gg g2 (kk 11 ee)))) λg1 h=>rtK h (lr Zd x0 (gg g1 (kk 15 ee))))
abbrev Yt7 (x0:Int) (r:Bool):Y:=(250,[il x0],bl r,[.undef])
theorem Ybx {x0:Int} {r:Bool} (h:Zvq x0=some r):Zv Tryz.prog Mo (Yt7 x0 r):=
 Zt Tryz.func250 (bnK h λr0 Zo h=>rtK h (rr (Zm9 Zo) ee))
abbrev Zco (x0:List Int) (r:Int):Y:=(189,[.tr (x0.map Zd),.fn 250 []],il r,[.undef,.undef])
theorem Zig {x0:List Int} {r:Int}:∀{m:Nat} {v0:Int},Q8 x0 m v0=some r->CS (Zco x0 r) Tryz.f189 [1,0,1,0] [(0,.tr (x0.map Zd)),(1,.fn 250 []),(7,il (x0.length:Int)),(8,il v0)] []:=by
 intro m
 induction m with
 | zero=>intro v0 h;cases h
 | succ m ih=>exactλ{v0} h=>itK h (λg1 h=>bnK h λa0 Z0 h=>bnK h λr0 Zo h=>itK h (λg2 h=>rtK h (gg g1 (xb Zd Z0 (rr (Ybx Zo) (gg g2 ee))))) λg2 h=>Zk [] 16 (gg g1 (xb Zd Z0 (rr (Ybx Zo) (gg g2 ee)))) (ih h)) λg1 h=>rtK h (gg g1 ee)
theorem Zl4 {x0:List Int} {r:Int} (h:K6 x0=some r):Zv Tryz.prog Mo (Zco x0 r):=
 Zt Tryz.func189 (Zk [] 6 (lr Zd x0 ee) (Zig h))
abbrev Zjn (x0:List Int) (r:Bool):Y:=(118,[.tr (x0.map Zd),.fn 250 []],bl r,[.undef,.undef])
theorem Zbd {x0:List Int} {r:Bool} (h:Xy x0=some r):Zv Tryz.prog Mo (Zjn x0 r):=
 Zt Tryz.func118 (bnK h λr0 Zo h=>rtK h (rr (Zl4 Zo) ee))
abbrev Y1n (x0:Zn) (r:Bool):Y:=(220,[.agg (Zn.enc x0)],bl r,[.undef])
theorem Yke {x0:Zn} {r:Bool} (h:Zwq x0=some r):Zv Tryz.prog Mo (Y1n x0 r):=
 Zt Tryz.func220 (itK h (λg1 h=>have p1 {q p} (k:Scr q p):=(lr Zd x0.regs (gg g1 (kk 2 (lr Zd x0.fifo (kk 2 k)))));itK h (λg2 h=>bnK h λr0 Zo h=>have p2 {q p} (k:Scr q p):=(p1 (gg g2 (kk 3 (rr (Zbd Zo) (kk 2 k)))));itK h (λg3 h=>bnK h λr1 Zw h=>have p3 {q p} (k:Scr q p):=(p2 (gg g3 (kk 3 (rr (Zbd Zw) (kk 2 k)))));itK h (λg4 h=>bnK h λr2 Z6 h=>rtK h (p3 (gg g4 (kk 2 (rr (Zm9 Z6) (kk 1 ee)))))) λg4 h=>rtK h (p3 (gg g4 (kk 3 ee)))) λg3 h=>rtK h (p2 (gg g3 (kk 9 ee)))) λg2 h=>rtK h (p1 (gg g2 (kk 15 ee)))) λg1 h=>rtK h (lr Zd x0.regs (gg g1 (kk 20 ee))))
abbrev Ysz (x0:Zj) (r:Bool):Y:=(164,[.agg (Zj.enc x0)],bl r,[.undef])
theorem Z2z {x0:Zj} {r:Bool} (h:Zgy x0=some r):Zv Tryz.prog Mo (Ysz x0 r):=
 Zt Tryz.func164 (itK h (λg1 h=>bnK h λr0 Zo h=>itK h (λg2 h=>bnK h λr1 Zw h=>rtK h (lr Zd x0.mem (gg g1 (kk 2 (rr (Zur Zo) (kk 1 (gg g2 (kk 2 (rr (Yke Zw) (kk 1 ee)))))))))) λg2 h=>rtK h (lr Zd x0.mem (gg g1 (kk 2 (rr (Zur Zo) (kk 1 (gg g2 (kk 3 ee)))))))) λg1 h=>rtK h (lr Zd x0.mem (gg g1 (kk 7 ee))))
abbrev Yis (x0:Zg) (r:Bool):Y:=(252,[.agg (Zg.enc x0)],bl r,[.undef])
theorem Zut {x0:Zg} {r:Bool} (h:Znz x0=some r):Zv Tryz.prog Mo (Yis x0 r):=
 Zt Tryz.func252 (rtK h ee)
abbrev Zaq (x0:List Zg) (r:Int):Y:=(264,[.tr (x0.map Zg.enc),.fn 252 []],il r,[.undef,.undef])
theorem Zfl {x0:List Zg} {r:Int}:∀{m:Nat} {v0:Int},Qe x0 m v0=some r->CS (Zaq x0 r) Tryz.f264 [1,0,1,0] [(0,.tr (x0.map Zg.enc)),(1,.fn 252 []),(7,il (x0.length:Int)),(8,il v0)] []:=by
 intro m
 induction m with
 | zero=>intro v0 h;cases h
 | succ m ih=>exactλ{v0} h=>itK h (λg1 h=>bnK h λa0 Z0 h=>bnK h λr0 Zo h=>itK h (λg2 h=>rtK h (gg g1 (xb Zg.enc Z0 (rr (Zut Zo) (gg g2 ee))))) λg2 h=>Zk [] 16 (gg g1 (xb Zg.enc Z0 (rr (Zut Zo) (gg g2 ee)))) (ih h)) λg1 h=>rtK h (gg g1 ee)
theorem Zh4 {x0:List Zg} {r:Int} (h:Q0 x0=some r):Zv Tryz.prog Mo (Zaq x0 r):=
 Zt Tryz.func264 (Zk [] 6 (lr Zg.enc x0 ee) (Zfl h))
abbrev Zah (x0:List Zg) (r:List Zg):Y:=(251,[.own 54 (x0.map Zg.enc),.fn 252 []],.own 54 (r.map Zg.enc),[.undef,.undef])
theorem Zfd {x0:List Zg} {r:List Zg}:∀{m:Nat} {v0:List Zg} {v1:Int} {v2:Int},W9 x0 m v0 v1 v2=some r->CS (Zah x0 r) Tryz.f251 [1,1,1,0,1,0] [(0,.sl (1,1) 0 (v0.map Zg.enc).length),(1,.fn 252 []),(5,il v1),(6,il v2)] [rx 1 54 (v0.map Zg.enc)]:=by
 intro m
 induction m with
 | zero=>intro v0 v1 v2 h;cases h
 | succ m ih=>exactλ{v0} {v1} {v2} h=>itK h (λg1 h=>bnK h λa0 Z0 h=>bnK h λr0 Zo h=>have p1 {q p} (k:Scr q p):=(lr Zg.enc v0 (gg g1 (xd Zg.enc Z0 (rr (Zut Zo) k))));itK h (λg2 h=>bnK h λa1 Y3 h=>bnK h λy0 W6 h=>Zk [((1,1),(1,1))] 18 (p1 (gg g2 (xp Zg.enc Y3 W6 (tp (.num (y0.map Zg.enc).length 0 0 []) (ob (Q9 Zg.enc W6) ee))))) (ih h)) λg2 h=>Zk [((1,1),(1,1))] 16 (p1 (gg g2 (ln Zg.enc v0 ee))) (ih h)) λg1 h=>bnK h λs0 hs0 h=>bnK h λy1 hy1 h=>bnK h λs1 hs1 h=>rtK h (lr Zg.enc v0 (gg g1 (tp (.num (v1:Int).toNat ((v0.length:Int):Int).toNat (((v0.length:Int):Int).toNat - (v1:Int).toNat) []) (kk 1 (tp (.app (y1.map Zg.enc) true [] 0) (tp (.num (0:Int).toNat (v1:Int).toNat ((v1:Int).toNat - (0:Int).toNat) []) (kk 1 (tp (.mk 0 (s1.map Zg.enc)) (oe Zg.enc v0 (ob (sln hs0).1 (ob (Yi5 Zg.enc v0) (ob (sll Zg.enc hs0) (ob (alr 8 Zg.enc_len v0) (ob (Eq.refl (((v0.length:Int):Int).toNat - (v1:Int).toNat)) (ob (clrl Zg.enc hy1) (ob (clrr Zg.enc hy1) (ob (clrs Zg.enc hy1) (ob (Eq.refl 0) (ob (sln hs1).2 (ob (sll Zg.enc hs1) (ob (alr 8 Zg.enc_len y1) (ob (Eq.refl ((v1:Int).toNat - (0:Int).toNat)) (ob (sla Zg.enc hs1) (ob (slr Zg.enc hs1) ee))))))))))))))))))))))))
theorem Zg7 {x0:List Zg} {r:List Zg} (h:Wk x0=some r):Zv Tryz.prog Mo (Zah x0 r):=
 Zt Tryz.func251 (bnK h λr1 Zw h=>have p1 {q p} (k:Scr q p):=(kk 1 (oe Zg.enc x0 (rr (Zh4 Zw) k)));itK h (λg1 h=>rtK h (p1 (gg g1 (kk 1 (oe Zg.enc x0 ee))))) λg1 h=>Zk [((1,1),(0,0))] 13 (p1 (gg g1 (ln Zg.enc x0 ee))) (Zfd h))
abbrev Ypf (x0:Za) (r:List Zg):Y:=(221,[.rp true (Za.enc x0) 0],.own 54 (r.map Zg.enc),[.undef])
theorem Yp8 {x0:Za} {r:List Zg} (h:Zr6 x0=some r):Zv Tryz.prog Mo (Ypf x0 r):=
 Zt Tryz.func221 (bnK h λr0 Zo h=>rtK h (kk 1 (ob (show 2=([x0.addr,x0.data_].map Zg.enc).length from rfl) (rr (Zg7 Zo) (kk 1 (oe Zg.enc r0 ee))))))
abbrev Kk (x0:Za) (r:Bool):Y:=(165,[.rp true (Za.enc x0) 0],bl r,[.undef])
theorem Zi1 {x0:Za} {r:Bool} {k_L1:(List Int)->(List Zg)->Int->Int->Option Bool} (i_L1:∀{v0:List Int} {v1:List Zg} {v2:Int} {v3:Int},k_L1 v0 v1 v2 v3=some r->CS (Kk x0 r) Tryz.f165 [1,1,0,1,0] [(0,.rp true (Za.enc x0) 0),(3,.sl (1,1) 0 (v0.map Zd).length),(18,.sl (1,2) 0 (v1.map Zg.enc).length),(19,il v2),(20,il v3)] [rx 1 3 (v0.map Zd),rx 2 54 (v1.map Zg.enc)]) {vb0:Zg} {v0:List Int} {v1:List Zg} {v2:Int} {v3:Int} {v4:Bool} (h:Kn x0 k_L1 vb0 v0 v1 v2 v3 v4=some r):CS (Kk x0 r) Tryz.f165 [1,1,0,1,0,0,1,1,0,0,1,0,1] [(0,.rp true (Za.enc x0) 0),(3,.sl (1,2) 0 (v0.map Zd).length),(5,.ptr (1,1) 0 0),(18,.sl (1,3) 0 (v1.map Zg.enc).length),(19,il v2),(20,il v3),(48,bl v4)] [bx 1 (Zg.enc vb0),rx 2 3 (v0.map Zd),rx 3 54 (v1.map Zg.enc)]:=
 itK h (λg1 h=>rtK h (gg g1 ee)) λg1 h=>bnK h λa0 Z0 h=>bnK h λy0 W6 h=>Zk [((1,1),(1,2)),((1,2),(1,3))] 5 (gg g1 (xd Zd Z0 (xp Zd Z0 W6 (tp (.num (y0.map Zd).length 0 0 []) (ob (Q9 Zd W6) (ln Zg.enc v1 ee)))))) (i_L1 h)
theorem Ziu {x0:Za} {r:Bool} {v5:Bool} (h:Qj x0 v5=some r):CS (Kk x0 r) Tryz.f165 [1,1,1,1,1,1,1,1,0,0,1,1,1,1,1] [(0,.rp true (Za.enc x0) 0),(9,.ptr (1,1) 0 0),(179,bl v5)] [bx 1 (Zg.enc x0.data_)]:=
 itK h (λg1 h=>rtK h (gg g1 ee)) λg1 h=>itK h (λg2 h=>rtK h (gg g1 (gg g2 (kk 7 ee)))) λg2 h=>itK h (λg3 h=>itK h (λg4 h=>rtK h (gg g1 (gg g2 (kk 3 (gg g3 (kk 5 (gg g4 (kk 8 ee)))))))) λg4 h=>rtK h (gg g1 (gg g2 (kk 3 (gg g3 (kk 5 (gg g4 (kk 8 ee)))))))) λg3 h=>rtK h (gg g1 (gg g2 (kk 3 (gg g3 (kk 14 ee)))))
theorem Ztz {x0:Za} {r:Bool} {vb1:Zb} {v6:Bool} (h:Zbk x0 vb1 v6=some r):CS (Kk x0 r) Tryz.f165 [1,1,1,1,1,1,1,1,0,0,1,1,1] [(0,.rp true (Za.enc x0) 0),(9,.ptr (1,1) 0 0),(10,.ptr (1,2) 0 0),(165,bl v6)] [bx 1 (Zg.enc x0.data_),bx 2 (Zb.enc vb1)]:=
 itK h (λg1 h=>rtK h (gg g1 ee)) λg1 h=>itK h (λg2 h=>itK h (λg3 h=>Zk [((1,1),(1,1))] 3 (gg g1 (gg g2 (kk 2 (gg g3 (kk 9 ee))))) (Ziu h)) λg3 h=>Zk [((1,1),(1,1))] 3 (gg g1 (gg g2 (kk 2 (gg g3 (kk 9 ee))))) (Ziu h)) λg2 h=>Zk [((1,1),(1,1))] 3 (gg g1 (gg g2 (kk 4 ee))) (Ziu h)
theorem Zjt {x0:Za} {r:Bool} {vb1:Zb} {v7:Bool} (h:Ju x0 vb1 v7=some r):CS (Kk x0 r) Tryz.f165 [1,1,1,1,1,1,1,1,0,0,1] [(0,.rp true (Za.enc x0) 0),(9,.ptr (1,1) 0 0),(10,.ptr (1,2) 0 0),(141,bl v7)] [bx 1 (Zg.enc x0.data_),bx 2 (Zb.enc vb1)]:=
 itK h (λg1 h=>rtK h (gg g1 ee)) λg1 h=>itK h (λg2 h=>Zk [((1,1),(1,1)),((1,2),(1,2))] 3 (gg g1 (gg g2 (kk 8 ee))) (Ztz h)) λg2 h=>Zk [((1,1),(1,1)),((1,2),(1,2))] 3 (gg g1 (gg g2 (kk 8 ee))) (Ztz h)
theorem Qi {x0:Za} {r:Bool} {v8:Bool} (h:Xg x0 v8=some r):CS (Kk x0 r) Tryz.f165 [1,1,1,1,0,1,1] [(0,.rp true (Za.enc x0) 0),(122,bl v8)] []:=
 itK h (λg1 h=>rtK h (gg g1 ee)) λg1 h=>itK h (λg2 h=>rtK h (gg g1 (gg g2 ee))) λg2 h=>bnK h λa1 Y3 h=>have p1 {q p} (k:Scr q p):=(gg g1 (gg g2 (xb Zb.enc Y3 k)));itK h (λg3 h=>Zk [((1,1),(2,4096)),((1,2),(4,8192))] 15 (p1 (gg g3 (kk 15 ee))) (Zjt h)) λg3 h=>bnK h λr0 Zo h=>itK h (λg4 h=>Zk [((1,1),(2,4096)),((1,2),(4,8192))] 15 (p1 (gg g3 (kk 8 (rr (Yf Zo) (kk 2 (gg g4 (kk 4 ee))))))) (Zjt h)) λg4 h=>bnK h λr1 Zw h=>Zk [((1,1),(2,4096)),((1,2),(4,8192))] 15 (p1 (gg g3 (kk 8 (rr (Yf Zo) (kk 2 (gg g4 (kk 2 (rr (Yf Zw) (kk 2 ee))))))))) (Zjt h)
end Go.Proofs.YtagdmghmblplbaaGreat.Ev
