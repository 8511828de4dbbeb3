/- A part of the proof of FnExactBusRun: see the text YtagdmghmblplbaaGreatLawFnExactBusRun for what is proved and its conditions. Conditions here: those in each line. -/
import Derived.Test.YtagdmghmblplbaaGreatA5
set_option linter.unusedSimpArgs false
set_option linter.unusedVariables false
set_option linter.unusedSectionVars false
namespace Go.Proofs.YtagdmghmblplbaaGreat.Ev
open Go Go.Proofs
variable [Anchor]
theorem Z0d {x0:Za} {x1:Zi} {r:Za} {vb0:Zh} (h:Zex x0 x1 vb0=some r):CS (Zbs x0 x1 r) Tryz.f152 [1,1,1,1,1,1,1,1,1,1,1,1,1] [(2,.ptr (1,1) 0 0),(4,.ptr (1,10) 0 0),(5,.ptr (1,19) 0 0)] (Za.bk {x0 with addr:=Zh.z0} 2++[bx 1 (Za.rl {x0 with addr:=Zh.z0} 2)]++Za.bk Za.z0 11++[bx 10 (Za.rl Za.z0 11),bx 19 (Zh.enc vb0)]):=
 rtK h (kk 8 (Za.so x0 ee))
theorem Zeq {x0:Za} {x1:Zi} {r:Za} {vb0:Zh} {v0:Bool} (h:Kp x0 x1 vb0 v0=some r):CS (Zbs x0 x1 r) Tryz.f152 [1,1,1,1,1,1,1,1,1,1,1,1,0,1] [(2,.ptr (1,1) 0 0),(4,.ptr (1,10) 0 0),(5,.ptr (1,19) 0 0),(128,bl v0)] (Za.bk {x0 with addr:=Zh.z0} 2++[bx 1 (Za.rl {x0 with addr:=Zh.z0} 2)]++Za.bk Za.z0 11++[bx 10 (Za.rl Za.z0 11),bx 19 (Zh.enc vb0)]):=
 itK h (λg1 h=>Zk (ffi 1 19) 2 (gg g1 (Za.sc {x0 with addr:=Zh.z0} (Za.sc Za.z0 ee))) (Z0d h)) λg1 h=>Zk (ffi 1 19) 2 (gg g1 (Za.sc {x0 with addr:=Zh.z0} (Za.sc Za.z0 ee))) (Z0d h)
theorem Z0q {x0:Za} {x1:Zi} {r:Za} {vb0:Zh} {vb1:Zb} {v1:Int} {v2:Int} (h:Zcq x0 x1 vb0 vb1 v1 v2=some r):CS (Zbs x0 x1 r) Tryz.f152 [1,1,1,1,1,1,1,1,1,1,1,1] [(2,.ptr (1,1) 0 0),(4,.ptr (1,10) 0 0),(5,.ptr (1,19) 0 0),(6,.ptr (1,20) 0 0),(9,il v1),(10,il v2)] (Za.bk {x0 with addr:=Zh.z0} 2++[bx 1 (Za.rl {x0 with addr:=Zh.z0} 2)]++Za.bk Za.z0 11++[bx 10 (Za.rl Za.z0 11),bx 19 (Zh.enc vb0),bx 20 (Zb.enc vb1)]):=
 itK h (λg1 h=>itK h (λg2 h=>itK h (λg3 h=>itK h (λg4 h=>Zk (ffi 1 19) 3 (gg g1 (kk 2 (gg g2 (kk 2 (gg g3 (kk 3 (gg g4 (kk 5 (Za.sc {x0 with addr:=Zh.z0} (Za.sc Za.z0 ee)))))))))) (Zeq h)) λg4 h=>Zk (ffi 1 19) 3 (gg g1 (kk 2 (gg g2 (kk 2 (gg g3 (kk 3 (gg g4 (kk 5 (Za.sc {x0 with addr:=Zh.z0} (Za.sc Za.z0 ee)))))))))) (Zeq h)) λg3 h=>Zk (ffi 1 19) 3 (gg g1 (kk 2 (gg g2 (kk 2 (gg g3 (kk 9 (Za.sc {x0 with addr:=Zh.z0} (Za.sc Za.z0 ee)))))))) (Zeq h)) λg2 h=>Zk (ffi 1 19) 3 (gg g1 (kk 2 (gg g2 (kk 12 (Za.sc {x0 with addr:=Zh.z0} (Za.sc Za.z0 ee)))))) (Zeq h)) λg1 h=>Zk (ffi 1 19) 3 (gg g1 (kk 15 (Za.sc {x0 with addr:=Zh.z0} (Za.sc Za.z0 ee)))) (Zeq h)
theorem Zep {x0:Za} {x1:Zi} {r:Za} {vb0:Zh} {vb1:Zb} {v1:Int} {v2:Int} {v3:Bool} (h:Kn x0 x1 vb0 vb1 v1 v2 v3=some r):CS (Zbs x0 x1 r) Tryz.f152 [1,1,1,1,1,1,1,1,1,1,1,0,1] [(2,.ptr (1,1) 0 0),(4,.ptr (1,10) 0 0),(5,.ptr (1,19) 0 0),(6,.ptr (1,20) 0 0),(9,il v1),(10,il v2),(104,bl v3)] (Za.bk {x0 with addr:=Zh.z0} 2++[bx 1 (Za.rl {x0 with addr:=Zh.z0} 2)]++Za.bk Za.z0 11++[bx 10 (Za.rl Za.z0 11),bx 19 (Zh.enc vb0),bx 20 (Zb.enc vb1)]):=
 itK h (λg1 h=>Zk (ffi 1 20) 2 (gg g1 (Za.sc {x0 with addr:=Zh.z0} (Za.sc Za.z0 ee))) (Z0q h)) λg1 h=>Zk (ffi 1 20) 2 (gg g1 (Za.sc {x0 with addr:=Zh.z0} (Za.sc Za.z0 ee))) (Z0q h)
theorem Zzn {x0:Za} {x1:Zi} {r:Za} {vb0:Zh} {vb1:Zb} {v1:Int} {v2:Int} (h:Zcl x0 x1 vb0 vb1 v1 v2=some r):CS (Zbs x0 x1 r) Tryz.f152 [1,1,1,1,1,1,1,1,1,1,1] [(2,.ptr (1,1) 0 0),(4,.ptr (1,10) 0 0),(5,.ptr (1,19) 0 0),(6,.ptr (1,20) 0 0),(9,il v1),(10,il v2)] (Za.bk {x0 with addr:=Zh.z0} 2++[bx 1 (Za.rl {x0 with addr:=Zh.z0} 2)]++Za.bk Za.z0 11++[bx 10 (Za.rl Za.z0 11),bx 19 (Zh.enc vb0),bx 20 (Zb.enc vb1)]):=
 itK h (λg1 h=>itK h (λg2 h=>itK h (λg3 h=>Zk (ffi 1 20) 3 (gg g1 (kk 2 (gg g2 (kk 2 (gg g3 (kk 11 (Za.sc {x0 with addr:=Zh.z0} (Za.sc Za.z0 ee)))))))) (Zep h)) λg3 h=>itK h (λg4 h=>Zk (ffi 1 20) 3 (gg g1 (kk 2 (gg g2 (kk 2 (gg g3 (kk 4 (gg g4 (kk 6 (Za.sc {x0 with addr:=Zh.z0} (Za.sc Za.z0 ee)))))))))) (Zep h)) λg4 h=>Zk (ffi 1 20) 3 (gg g1 (kk 2 (gg g2 (kk 2 (gg g3 (kk 4 (gg g4 (kk 6 (Za.sc {x0 with addr:=Zh.z0} (Za.sc Za.z0 ee)))))))))) (Zep h)) λg2 h=>Zk (ffi 1 20) 3 (gg g1 (kk 2 (gg g2 (kk 11 (Za.sc {x0 with addr:=Zh.z0} (Za.sc Za.z0 ee)))))) (Zep h)) λg1 h=>Zk (ffi 1 20) 3 (gg g1 (kk 14 (Za.sc {x0 with addr:=Zh.z0} (Za.sc Za.z0 ee)))) (Zep h)
theorem Z0s {x0:Za} {x1:Zi} {r:Za} {vb0:Zh} {vb1:Zb} {v1:Int} {v2:Int} {v4:Bool} (h:Zck x0 x1 vb0 vb1 v1 v2 v4=some r):CS (Zbs x0 x1 r) Tryz.f152 [1,1,1,1,1,1,1,1,1,1,0,1] [(2,.ptr (1,1) 0 0),(4,.ptr (1,10) 0 0),(5,.ptr (1,19) 0 0),(6,.ptr (1,20) 0 0),(9,il v1),(10,il v2),(77,bl v4)] (Za.bk {x0 with addr:=Zh.z0} 2++[bx 1 (Za.rl {x0 with addr:=Zh.z0} 2)]++Za.bk Za.z0 11++[bx 10 (Za.rl Za.z0 11),bx 19 (Zh.enc vb0),bx 20 (Zb.enc vb1)]):=
 itK h (λg1 h=>Zk (ffi 1 20) 2 (gg g1 (Za.sc {x0 with addr:=Zh.z0} (Za.sc Za.z0 ee))) (Zzn h)) λg1 h=>Zk (ffi 1 20) 2 (gg g1 (Za.sc {x0 with addr:=Zh.z0} (Za.sc Za.z0 ee))) (Zzn h)
theorem Z00 {x0:Za} {x1:Zi} {r:Za} {vb0:Zh} {vb1:Zb} {v1:Int} {v2:Int} (h:Zci x0 x1 vb0 vb1 v1 v2=some r):CS (Zbs x0 x1 r) Tryz.f152 [1,1,1,1,1,1,1,1,1,1] [(2,.ptr (1,1) 0 0),(4,.ptr (1,10) 0 0),(5,.ptr (1,19) 0 0),(6,.ptr (1,20) 0 0),(9,il v1),(10,il v2)] (Za.bk {x0 with addr:=Zh.z0} 2++[bx 1 (Za.rl {x0 with addr:=Zh.z0} 2)]++Za.bk Za.z0 11++[bx 10 (Za.rl Za.z0 11),bx 19 (Zh.enc vb0),bx 20 (Zb.enc vb1)]):=
 itK h (λg1 h=>Zk (ffi 1 20) 3 (gg g1 (kk 3 (Za.sc {x0 with addr:=Zh.z0} (Za.sc Za.z0 ee)))) (Z0s h)) λg1 h=>Zk (ffi 1 20) 3 (gg g1 (kk 3 (Za.sc {x0 with addr:=Zh.z0} (Za.sc Za.z0 ee)))) (Z0s h)
theorem Zzr {x0:Za} {x1:Zi} {r:Za} {vb2:Zb} {vb3:Zf} {v5:Int} {v1:Int} {v2:Int} {v6:Bool} (h:Zcf x0 x1 vb2 vb3 v5 v1 v2 v6=some r):CS (Zbs x0 x1 r) Tryz.f152 [1,1,1,1,1,1,1,1,1,0,0,1] [(2,.ptr (1,1) 0 0),(3,.ptr (1,10) 0 0),(4,.ptr (1,11) 0 0),(5,.ptr (1,20) 0 0),(6,.ptr (1,21) 0 0),(7,.ptr (1,22) 0 0),(8,il v5),(9,il v1),(10,il v2),(63,bl v6)] (Za.bk {x0 with addr:=Zh.z0} 2++[bx 1 (Za.rl {x0 with addr:=Zh.z0} 2),bx 10 (Zi.enc x1)]++Za.bk Za.z0 12++[bx 11 (Za.rl Za.z0 12),bx 20 (Zh.enc x0.addr),bx 21 (Zb.enc vb2),bx 22 (Zf.enc vb3)]):=
 itK h (λg1 h=>Zk (ffi 1 9++[((1,10),(1,11)),((1,11),(1,12)),((1,12),(1,13)),((1,13),(1,14)),((1,14),(1,15)),((1,15),(1,16)),((1,16),(1,17)),((1,17),(1,18)),((1,18),(1,19)),((1,19),(1,20)),((1,20),(1,21))]) 3 (gg g1 (Za.sc {x0 with addr:=Zh.z0} (Za.sc Za.z0 ee))) (Z00 h)) λg1 h=>bnK h λr0 Zp h=>bnK h λr1 Zw h=>bnK h λr2 Z6 h=>Zk (ffi 1 9++[((1,10),(1,11)),((1,11),(1,12)),((1,12),(1,13)),((1,13),(1,14)),((1,14),(1,15)),((1,15),(1,16)),((1,16),(1,17)),((1,17),(1,18)),((1,18),(1,19)),((1,19),(1,20)),((1,20),(1,21))]) 5 (gg g1 (kk 1 (oe Zd.enc x0.conf.masters (rr (Yww Zp) (rr (Z9k Zw) (kk 3 (Zj.so x0.model (rr (Ydg Z6) (Za.sc {x0 with addr:=Zh.z0} (Za.sc Za.z0 ee)))))))))) (Z00 h)
theorem Yog {x0:Za} {x1:Zi} {r:Za} (h:Ztc x0 x1=some r):Zu Tryz.prog Mo (Zbs x0 x1 r):=
 Zt Tryz.func152 (itK h (λg1 h=>rtK h (gg g1 (kk 8 (Za.so x0 ee)))) λg1 h=>bnK h λa0 Zx h=>bnK h λa1 Yw h=>bnK h λr3 Y5 h=>bnK h λr4 Qz h=>bnK h λr5 hr5 h=>have p1 {q p} (k:Scr q p):=(gg g1 (xd Zb.enc Zx (xb Zf.enc Yw (rr (Zpn Y5) (rr (Z3x Qz) (rr (Yyc hr5) k))))));itK h (λg2 h=>Zk ([((1,1),(1,0))]++Za.ff 2 0 0++[((1,10),(1,1024)),((1,11),(1,2048)),((1,20),(2,2048)),((1,21),(5,6144)),((1,22),(6,4096))]) 25 (p1 (gg g2 (kk 2 (Za.sc {x0 with addr:=Zh.z0} ee)))) (Zzr h)) λg2 h=>Zk ([((1,1),(1,0))]++Za.ff 2 0 0++[((1,10),(1,1024)),((1,11),(1,2048)),((1,20),(2,2048)),((1,21),(5,6144)),((1,22),(6,4096))]) 25 (p1 (gg g2 (kk 2 (Za.sc {x0 with addr:=Zh.z0} ee)))) (Zzr h))
abbrev Yo4 (x0:Zb) (r:Bool):Y:=(207,[.agg (Zb.enc x0)],bl r,[.undef])
theorem Z0u {x0:Zb} {r:Bool} (h:Znc x0=some r):Zu Tryz.prog Mo (Yo4 x0 r):=
 Zt Tryz.func207 (bnK h λr0 Zp h=>itK h (λg1 h=>bnK h λr1 Zw h=>rtK h (rr (J7 Zp) (gg g1 (kk 3 (rr (Zer Zw) (kk 2 ee)))))) λg1 h=>rtK h (rr (J7 Zp) (gg g1 (kk 5 ee))))
abbrev Z33 (x0:Zc) (x1:Zd) (r:Zc×Bool):Y:=(208,[.agg (Zc.enc x0),.agg (Zd.enc x1)],.tup [.agg (Zc.enc r.1),bl r.2],[.undef,.undef])
theorem Znf {x0:Zc} {x1:Zd} {r:Zc×Bool} {v0:Bool} (h:Zc8 x0 x1 v0=some r):CS (Z33 x0 x1 r) Tryz.f208 [1,0,1] [(2,.ptr (1,1) 0 0),(4,.ptr (1,2) 0 0),(19,bl v0)] [bx 1 (Zc.enc x0),bx 2 (Zc.enc Zc.z0)]:=
 itK h (λg1 h=>rtK h (gg g1 ee)) λg1 h=>rtK h (gg g1 ee)
theorem Yjf {x0:Zc} {x1:Zd} {r:Zc×Bool} (h:Zov x0 x1=some r):Zu Tryz.prog Mo (Z33 x0 x1 r):=
 Zt Tryz.func208 (itK h (λg1 h=>Zk [((1,1),(1,0)),((1,2),(1,2048))] 5 (gg g1 (kk 8 ee)) (Znf h)) λg1 h=>bnK h λr0 Zp h=>itK h (λg2 h=>Zk [((1,1),(1,0)),((1,2),(1,2048))] 5 (gg g1 (kk 2 (rr (Zm3 Zp) (kk 2 (gg g2 (kk 3 ee)))))) (Znf h)) λg2 h=>Zk [((1,1),(1,0)),((1,2),(1,2048))] 5 (gg g1 (kk 2 (rr (Zm3 Zp) (kk 2 (gg g2 (kk 3 ee)))))) (Znf h))
abbrev Z8n (x0:Zb) (r:Zb×Bool):Y:=(210,[.agg (Zb.enc x0)],.tup [.agg [.own 104 (r.1.queue.map Zf.enc),il r.1.beat,il r.1.done,il r.1.tries,bl r.1.parted,bl r.1.broken],bl r.2],[.undef])
theorem Z0b {x0:Zb} {r:Zb×Bool} {vb0:Zb} {v0:Bool} (h:Zi4 x0 vb0 v0=some r):CS (Z8n x0 r) Tryz.f210 [1,1,0,1] [(2,.ptr (1,1) 0 0),(4,.ptr (1,3) 0 0),(17,bl v0)] [rx 2 104 ([].map Zf.enc),bx 1 [.sl (1,2) 0 ([].map Zf.enc).length,il 0,il 0,il 0,bl false,bl false],rx 4 104 (vb0.queue.map Zf.enc),bx 3 [.sl (1,4) 0 (vb0.queue.map Zf.enc).length,il vb0.beat,il vb0.done,il vb0.tries,bl vb0.parted,bl vb0.broken]]:=
 itK h (λg1 h=>rtK h (gg g1 (kk 1 (oe Zf.enc vb0.queue ee)))) λg1 h=>rtK h (gg g1 (kk 1 (oe Zf.enc vb0.queue ee)))
theorem Ypz {x0:Zb} {r:Zb×Bool} (h:Ztk x0=some r):Zu Tryz.prog Mo (Z8n x0 r):=
 Zt Tryz.func210 (bnK h λr0 Zp h=>bnK h λr1 Zw h=>itK h (λg1 h=>Zk [((1,1),(1,1024)),((1,3),(2,2048)),((1,4),(2,1024))] 7 (rr (Zec Zp) (rr (Z0u Zw) (gg g1 (kk 6 (ln Zf.enc r0.queue ee))))) (Z0b h)) λg1 h=>Zk [((1,1),(1,1024)),((1,3),(2,2048)),((1,4),(2,1024))] 7 (rr (Zec Zp) (rr (Z0u Zw) (gg g1 (kk 6 (ln Zf.enc r0.queue ee))))) (Z0b h))
abbrev Zvb (x0:Z2) (x1:Zl) (x2:List Bool) (r:Z2×Int):Y:=(209,[.agg (Z2.enc x0),.agg (Zl.enc x1),.tr (x2.map Z8)],.tup [.agg (Z2.enc r.1),il r.2],[.undef,.undef,.undef])
theorem Yfn {x0:Z2} {x1:Zl} {x2:List Bool} {r:Z2×Int}:∀{m:Nat} {v0:Int},Zln x0 x1 x2 m v0=some r->CS (Zvb x0 x1 x2 r) Tryz.f209 [1,1,1,0,1,0] [(2,.tr (x2.map Z8)),(3,.ptr (1,1) 0 0),(4,.ptr (1,2) 0 0),(6,.ptr (1,3) 0 0),(8,il v0)] [bx 1 (Z2.enc x0),bx 2 (Zl.enc x1),bx 3 (Z2.enc Z2.z0)]:=by
 intro m
 induction m with
 | zero=>intro v0 h;cases h
 | succ m ih=>exactλ{v0} h=>itK h (λg1 h=>bnK h λn0 hn0 h=>bnK h λa0 Zx h=>have p1 {q p} (k:Scr q p):=(lr Z8 x2 (gg g1 (lr Z8 x2 (tp (.obl) (ob (nz0 hn0) (xb Z8 Zx k))))));itK h (λg2 h=>bnK h λr0 Zp h=>rtK h (p1 (gg g2 (rr (Z61 Zp) ee)))) λg2 h=>Zk (ffi 1 3) 16 (p1 (gg g2 ee)) (ih h)) λg1 h=>rtK h (lr Z8 x2 (gg g1 ee))
theorem Z1l {x0:Z2} {x1:Zl} {x2:List Bool} {r:Z2×Int} {v1:Bool} (h:Zk4 x0 x1 x2 v1=some r):CS (Zvb x0 x1 x2 r) Tryz.f209 [1,1,0,1] [(2,.tr (x2.map Z8)),(3,.ptr (1,1) 0 0),(4,.ptr (1,2) 0 0),(6,.ptr (1,3) 0 0),(32,bl v1)] [bx 1 (Z2.enc x0),bx 2 (Zl.enc x1),bx 3 (Z2.enc Z2.z0)]:=
 itK h (λg1 h=>rtK h (gg g1 ee)) λg1 h=>Zk (ffi 1 3) 6 (gg g1 ee) (Yfn h)
theorem Z2c {x0:Z2} {x1:Zl} {x2:List Bool} {r:Z2×Int} {v2:Bool} (h:Zl1 x0 x1 x2 v2=some r):CS (Zvb x0 x1 x2 r) Tryz.f209 [1,0,1] [(2,.tr (x2.map Z8)),(3,.ptr (1,1) 0 0),(4,.ptr (1,2) 0 0),(6,.ptr (1,3) 0 0),(21,bl v2)] [bx 1 (Z2.enc x0),bx 2 (Zl.enc x1),bx 3 (Z2.enc Z2.z0)]:=
 itK h (λg1 h=>rtK h (gg g1 ee)) λg1 h=>itK h (λg2 h=>bnK h λa1 Yw h=>Zk (ffi 1 3) 5 (gg g1 (gg g2 (kk 3 (xb Z8 Yw (kk 2 ee))))) (Z1l h)) λg2 h=>Zk (ffi 1 3) 5 (gg g1 (gg g2 (kk 5 ee))) (Z1l h)
theorem Yub {x0:Z2} {x1:Zl} {x2:List Bool} {r:Z2×Int} (h:Zwf x0 x1 x2=some r):Zu Tryz.prog Mo (Zvb x0 x1 x2 r):=
 Zt Tryz.func209 (bnK h λr1 Zw h=>itK h (λg1 h=>Zk [((1,1),(1,0)),((1,2),(1,1024)),((1,3),(1,2048))] 5 (rr (Zxc Zw) (gg g1 (kk 6 ee))) (Z2c h)) λg1 h=>Zk [((1,1),(1,0)),((1,2),(1,1024)),((1,3),(1,2048))] 5 (rr (Zxc Zw) (gg g1 (kk 1 (lr Z8 x2 (kk 3 (lr Zd.enc x1.masters (kk 2 ee))))))) (Z2c h))
abbrev Qh (x0:Za) (r:Za):Y:=(151,[.agg (Za.ow x0)],.agg (Za.ow r),[.undef])
theorem Z0l {x0:Za} {r:Za} {k_L2:Za->Zh->(List Bool)->Int->Option Za} (i_L2:∀{vb0:Za} {vb1:Zh} {v0:List Bool} {v1:Int},k_L2 vb0 vb1 v0 v1=some r->CS (Qh x0 r) Tryz.f151 [1,1,1,1,1,0,1,0] [(1,.ptr (1,1) 0 0),(2,.ptr (1,10) 0 0),(3,.sl (1,20) 0 (v0.map Z8).length),(5,.ptr (1,19) 0 0),(6,il v1)] (Za.bk vb0 2++[bx 1 (Za.rl vb0 2)]++Za.bk Za.z0 11++[bx 10 (Za.rl Za.z0 11),bx 19 (Zh.enc vb1),rx 20 4 (v0.map Z8)])) {vb0:Za} {vb1:Zh} {v0:List Bool} {v1:Int} {v2:Bool} (h:Zi5 x0 k_L2 vb0 vb1 v0 v1 v2=some r):CS (Qh x0 r) Tryz.f151 [1,1,1,1,1,0,1,0,0,1,0,0,1] [(1,.ptr (1,1) 0 0),(2,.ptr (1,10) 0 0),(3,.sl (1,20) 0 (v0.map Z8).length),(5,.ptr (1,19) 0 0),(6,il v1),(84,bl v2)] (Za.bk vb0 2++[bx 1 (Za.rl vb0 2)]++Za.bk Za.z0 11++[bx 10 (Za.rl Za.z0 11),bx 19 (Zh.enc vb1),rx 20 4 (v0.map Z8)]):=
 itK h (λg1 h=>bnK h λa0 Zx h=>bnK h λa1 Yw h=>bnK h λr0 Zp h=>bnK h λy0 Wc h=>Zk (ffi 1 20) 6 (gg g1 (xd Zc.enc Zx (xd Zd.enc Yw (rr (Yjf Zp) (xp Zc.enc Zx Wc (ln Z8 v0 (tq (Za.nm {vb0 with buckets:=y0}) (oe Zd.enc vb0.conf.masters (oe Zb.enc vb0.m (ob (Qi Zc.enc Wc) (oe Ze vb0.splits (Zj.so vb0.model (oe Zn.enc vb0.log (Za.sc Za.z0 ee)))))))))))))) (i_L2 h)) λg1 h=>Zk (ffi 1 20) 4 (gg g1 (ln Z8 v0 (Za.sc vb0 (Za.sc Za.z0 ee)))) (i_L2 h)
theorem Zxx {x0:Za} {r:Za} {vb0:Za} {vb1:Zh} {vb2:Zb} (h:Zhf x0 vb0 vb1 vb2=some r):CS (Qh x0 r) Tryz.f151 [1,1,1,1,1,1,1,1,1,1,1,1,1] [(1,.ptr (1,1) 0 0),(2,.ptr (1,10) 0 0),(5,.ptr (1,19) 0 0),(7,.ptr (1,20) 0 0)] (Za.bk vb0 2++[bx 1 (Za.rl vb0 2)]++Za.bk Za.z0 11++[bx 10 (Za.rl Za.z0 11),bx 19 (Zh.enc vb1),bx 20 (Zb.enc vb2)]):=
 bnK h λr1 Zw h=>bnK h λa2 Kt h=>bnK h λy1 hy1 h=>rtK h (rr (Ypz Zw) (xq Zb.enc Kt y1 (kk 9 (oe Zf.enc r1.1.queue (ob (Zum Zb.enc hy1) (oe Zd.enc vb0.conf.masters (ob (Qi Zb.enc hy1) (oe Zc.enc vb0.buckets (oe Ze vb0.splits (Zj.so vb0.model (oe Zn.enc vb0.log ee)))))))))))
theorem Zpj {x0:Za} {r:Za} {vb0:Za} {vb1:Zh} {vb2:Zb} {v3:Bool} (h:Zdu x0 vb0 vb1 vb2 v3=some r):CS (Qh x0 r) Tryz.f151 [1,1,1,1,1,1,1,1,1,1,1,1,0,1] [(1,.ptr (1,1) 0 0),(2,.ptr (1,10) 0 0),(5,.ptr (1,19) 0 0),(7,.ptr (1,20) 0 0),(165,bl v3)] (Za.bk vb0 2++[bx 1 (Za.rl vb0 2)]++Za.bk Za.z0 11++[bx 10 (Za.rl Za.z0 11),bx 19 (Zh.enc vb1),bx 20 (Zb.enc vb2)]):=
 itK h (λg1 h=>Zk (ffi 1 20) 4 (gg g1 (Za.sc {vb0 with holder:=vb1.who,held:=0} (Za.sc Za.z0 ee))) (Zxx h)) λg1 h=>Zk (ffi 1 20) 2 (gg g1 (Za.sc vb0 (Za.sc Za.z0 ee))) (Zxx h)
theorem Z0y {x0:Za} {r:Za} {vb0:Za} {vb1:Zh} {vb2:Zb} (h:Ze8 x0 vb0 vb1 vb2=some r):CS (Qh x0 r) Tryz.f151 [1,1,1,1,1,1,1,1,1,1,1,1] [(1,.ptr (1,1) 0 0),(2,.ptr (1,10) 0 0),(5,.ptr (1,19) 0 0),(7,.ptr (1,20) 0 0)] (Za.bk vb0 2++[bx 1 (Za.rl vb0 2)]++Za.bk Za.z0 11++[bx 10 (Za.rl Za.z0 11),bx 19 (Zh.enc vb1),bx 20 (Zb.enc vb2)]):=
 bnK h λa3 ha3 h=>itK h (λg1 h=>itK h (λg2 h=>Zk (ffi 1 20) 3 (xb Zf.enc ha3 (gg g1 (kk 3 (gg g2 (kk 3 (Za.sc vb0 (Za.sc Za.z0 ee))))))) (Zpj h)) λg2 h=>Zk (ffi 1 20) 3 (xb Zf.enc ha3 (gg g1 (kk 3 (gg g2 (kk 3 (Za.sc vb0 (Za.sc Za.z0 ee))))))) (Zpj h)) λg1 h=>Zk (ffi 1 20) 3 (xb Zf.enc ha3 (gg g1 (kk 7 (Za.sc vb0 (Za.sc Za.z0 ee))))) (Zpj h)
theorem Z0k {x0:Za} {r:Za} {vb0:Za} {vb1:Zh} (h:Jg x0 vb0 vb1=some r):CS (Qh x0 r) Tryz.f151 [1,1,1,1,1,1,1] [(1,.ptr (1,1) 0 0),(2,.ptr (1,10) 0 0),(5,.ptr (1,19) 0 0)] (Za.bk vb0 2++[bx 1 (Za.rl vb0 2)]++Za.bk Za.z0 11++[bx 10 (Za.rl Za.z0 11),bx 19 (Zh.enc vb1)]):=
 itK h (λg1 h=>rtK h (gg g1 (kk 8 (Za.so vb0 ee)))) λg1 h=>bnK h λa4 ha4 h=>itK h (λg2 h=>Zk (ffi 1 19++[((1,20),(3,6144))]) 13 (gg g1 (xd Zb.enc ha4 (gg g2 (kk 5 (Za.sc vb0 (Za.sc Za.z0 ee)))))) (Z0y h)) λg2 h=>Zk (ffi 1 19++[((1,20),(3,6144))]) 13 (gg g1 (xd Zb.enc ha4 (gg g2 (kk 5 (Za.sc vb0 (Za.sc Za.z0 ee)))))) (Z0y h)
theorem Zzz {x0:Za} {r:Za} {vb0:Za} {vb1:Zh} {v0:List Bool} {v4:Bool} (h:Zfb x0 vb0 vb1 v0 v4=some r):CS (Qh x0 r) Tryz.f151 [1,1,1,1,1,1,0,1] [(1,.ptr (1,1) 0 0),(2,.ptr (1,10) 0 0),(3,.sl (1,20) 0 (v0.map Z8).length),(5,.ptr (1,19) 0 0),(113,bl v4)] (Za.bk vb0 2++[bx 1 (Za.rl vb0 2)]++Za.bk Za.z0 11++[bx 10 (Za.rl Za.z0 11),bx 19 (Zh.enc vb1),rx 20 4 (v0.map Z8)]):=
 itK h (λg1 h=>bnK h λr2 Z6 h=>Zk (ffi 1 19) 4 (gg g1 (kk 2 (oe Zd.enc vb0.conf.masters (oe Z8 v0 (rr (Yub Z6) (Za.sc {vb0 with arb:=r2.1} (Za.sc Za.z0 ee))))))) (Z0k h)) λg1 h=>Zk (ffi 1 19) 2 (gg g1 (Za.sc vb0 (Za.sc Za.z0 ee))) (Z0k h)
theorem Z0w {x0:Za} {r:Za} {k_L2:Za->Zh->(List Bool)->Int->Option Za} (i_L2:∀{vb0:Za} {vb1:Zh} {v0:List Bool} {v1:Int},k_L2 vb0 vb1 v0 v1=some r->CS (Qh x0 r) Tryz.f151 [1,1,1,1,1,0,1,0] [(1,.ptr (1,1) 0 0),(2,.ptr (1,10) 0 0),(3,.sl (1,20) 0 (v0.map Z8).length),(5,.ptr (1,19) 0 0),(6,il v1)] (Za.bk vb0 2++[bx 1 (Za.rl vb0 2)]++Za.bk Za.z0 11++[bx 10 (Za.rl Za.z0 11),bx 19 (Zh.enc vb1),rx 20 4 (v0.map Z8)])) {vb0:Za} {vb1:Zh} {v0:List Bool} {v1:Int} {v5:Bool} (h:Zch x0 k_L2 vb0 vb1 v0 v1 v5=some r):CS (Qh x0 r) Tryz.f151 [1,1,1,1,1,0,1,0,0,0,1] [(1,.ptr (1,1) 0 0),(2,.ptr (1,10) 0 0),(3,.sl (1,20) 0 (v0.map Z8).length),(5,.ptr (1,19) 0 0),(6,il v1),(69,bl v5)] (Za.bk vb0 2++[bx 1 (Za.rl vb0 2)]++Za.bk Za.z0 11++[bx 10 (Za.rl Za.z0 11),bx 19 (Zh.enc vb1),rx 20 4 (v0.map Z8)]):=
 itK h (λg1 h=>bnK h λa5 ha5 h=>itK h (λg2 h=>bnK h λa6 ha6 h=>Zk (ffi 1 20) 6 (gg g1 (xd Z8 ha5 (gg g2 (kk 3 (tp (.row (v1:Int).toNat (Zc.enc a6)) (kk 2 (tp (.cell (Zc.enc a6)) (kk 2 (tp (.num (v0.map Z8).length 0 0 []) (ob (ixn ha6) (ob (ixl Zc.enc ha6) (ob (ixr Zc.enc ha6) (ob (ixr Zc.enc ha6) (oe Z8 v0 (Za.sc vb0 (Za.sc Za.z0 ee)))))))))))))))) (Z0l i_L2 h)) λg2 h=>Zk (ffi 1 20) 6 (gg g1 (xd Z8 ha5 (gg g2 (kk 7 (ln Z8 v0 (Za.sc vb0 (Za.sc Za.z0 ee))))))) (Z0l i_L2 h)) λg1 h=>itK h (λg2 h=>Zk (ffi 1 20) 8 (gg g1 (gg g2 (kk 3 (ln Z8 v0 (Za.sc vb0 (Za.sc Za.z0 ee)))))) (Zzz h)) λg2 h=>Zk (ffi 1 20) 8 (gg g1 (gg g2 (kk 3 (ln Z8 v0 (Za.sc vb0 (Za.sc Za.z0 ee)))))) (Zzz h)
theorem Yes {x0:Za} {r:Za}:∀{m:Nat} {vb0:Za} {vb1:Zh} {v0:List Bool} {v1:Int},Zap x0 m vb0 vb1 v0 v1=some r->CS (Qh x0 r) Tryz.f151 [1,1,1,1,1,0,1,0] [(1,.ptr (1,1) 0 0),(2,.ptr (1,10) 0 0),(3,.sl (1,20) 0 (v0.map Z8).length),(5,.ptr (1,19) 0 0),(6,il v1)] (Za.bk vb0 2++[bx 1 (Za.rl vb0 2)]++Za.bk Za.z0 11++[bx 10 (Za.rl Za.z0 11),bx 19 (Zh.enc vb1),rx 20 4 (v0.map Z8)]):=by
 intro m
 induction m with
 | zero=>intro vb0 vb1 v0 v1 h;cases h
 | succ m ih=>exactλ{vb0} {vb1} {v0} {v1} h=>itK h (λg1 h=>Zk (ffi 1 20) 4 (lr Zb.enc vb0.m (gg g1 (kk 3 (ln Z8 v0 (Za.sc vb0 (Za.sc Za.z0 ee)))))) (Z0w ih h)) λg1 h=>Zk (ffi 1 20) 4 (lr Zb.enc vb0.m (gg g1 (kk 3 (ln Z8 v0 (Za.sc vb0 (Za.sc Za.z0 ee)))))) (Z0w ih h)
theorem Zzk {x0:Za} {r:Za} {vb1:Zh} {v0:List Bool} (h:Zji x0 vb1 v0=some r):CS (Qh x0 r) Tryz.f151 [1,1,1,1,1] [(1,.ptr (1,1) 0 0),(2,.ptr (1,10) 0 0),(3,.sl (1,20) 0 (v0.map Z8).length),(5,.ptr (1,19) 0 0)] (Za.bk x0 2++[bx 1 (Za.rl x0 2)]++Za.bk Za.z0 11++[bx 10 (Za.rl Za.z0 11),bx 19 (Zh.enc vb1),rx 20 4 (v0.map Z8)]):=
 Zk (ffi 1 20) 4 (ln Z8 v0 (Za.sc x0 (Za.sc Za.z0 ee))) (Yes h)
theorem Z0i {x0:Za} {r:Za} {v0:List Bool} {v6:Bool} (h:Zjp x0 v0 v6=some r):CS (Qh x0 r) Tryz.f151 [1,1,1,1,0,1] [(1,.ptr (1,1) 0 0),(2,.ptr (1,10) 0 0),(3,.sl (1,20) 0 (v0.map Z8).length),(5,.ptr (1,19) 0 0),(56,bl v6)] (Za.bk x0 2++[bx 1 (Za.rl x0 2)]++Za.bk Za.z0 11++[bx 10 (Za.rl Za.z0 11),bx 19 (Zh.enc (Zh.mk false (-1) 0 false 0 0 0 false)),rx 20 4 (v0.map Z8)]):=
 itK h (λg1 h=>Zk (ffi 1 20) 2 (gg g1 (ln Z8 v0 (Za.sc x0 (Za.sc Za.z0 ee)))) (Zzk h)) λg1 h=>Zk (ffi 1 20) 2 (gg g1 (ln Z8 v0 (Za.sc x0 (Za.sc Za.z0 ee)))) (Zzk h)
theorem Yd8 {x0:Za} {r:Za}:∀{m:Nat} {v0:List Bool} {v7:Int},Zjj x0 m v0 v7=some r->CS (Qh x0 r) Tryz.f151 [1,1,0,1,0] [(1,.ptr (1,1) 0 0),(2,.ptr (1,10) 0 0),(3,.sl (1,19) 0 (v0.map Z8).length),(4,il v7)] (Za.bk x0 2++[bx 1 (Za.rl x0 2)]++Za.bk Za.z0 11++[bx 10 (Za.rl Za.z0 11),rx 19 4 (v0.map Z8)]):=by
 intro m
 induction m with
 | zero=>intro v0 v7 h;cases h
 | succ m ih=>exactλ{v0} {v7} h=>have p1 {q p} (k:Scr q p):=(lr Zb.enc x0.m k);itK h (λg1 h=>bnK h λa7 ha7 h=>bnK h λr3 Y5 h=>have p2 {q p} (k:Scr q p):=(p1 (gg g1 (xd Zb.enc ha7 (rr (Z0u Y5) k))));itK h (λg2 h=>bnK h λa8 ha8 h=>have p3 {q p} (k:Scr q p):=(p2 (gg g2 (kk 3 (tp (.row (v7:Int).toNat (Ze a8)) (kk 1 (tp (.cell (Ze a8)) (kk 2 k)))))));itK h (λg3 h=>itK h (λg4 h=>bnK h λz0 Wr h=>Zk (ffi 1 18++[((1,19),(3,27648))]) 11 (p3 (tp (.t true) (kk 3 (tp (.t true) (kk 6 (ta Z8 [true] z0 (kk 1 (tp (.num (z0.map Z8).length 0 0 []) (ob (ixn ha8) (ob (ixl Ze ha8) (ob (ixr Ze ha8) (ob (ixr Ze ha8) (ob g3 (ob g4 (oa 1 Zmw true (ox Z8 Wr (oe Z8 z0 (oe Z8 z0 (Za.sc x0 (Za.sc Za.z0 ee)))))))))))))))))))) (ih h)) λg4 h=>bnK h λz0 Wr h=>Zk (ffi 1 18++[((1,19),(3,27648))]) 11 (p3 (tp (.t true) (kk 3 (tp (.t false) (kk 6 (ta Z8 [decide (x0.holder=v7)] z0 (kk 1 (tp (.num (z0.map Z8).length 0 0 []) (ob (ixn ha8) (ob (ixl Ze ha8) (ob (ixr Ze ha8) (ob (ixr Ze ha8) (ob g3 (ob g4 (oa 1 Zmw (decide (x0.holder=v7)) (ox Z8 Wr (oe Z8 z0 (oe Z8 z0 (Za.sc x0 (Za.sc Za.z0 ee)))))))))))))))))))) (ih h)) λg3 h=>bnK h λz0 Wr h=>Zk (ffi 1 18++[((1,19),(3,27648))]) 11 (p3 (tp (.t false) (kk 5 (ta Z8 [false] z0 (kk 1 (tp (.num (z0.map Z8).length 0 0 []) (ob (ixn ha8) (ob (ixl Ze ha8) (ob (ixr Ze ha8) (ob (ixr Ze ha8) (ob g3 (oa 1 Zmw false (ox Z8 Wr (oe Z8 z0 (oe Z8 z0 (Za.sc x0 (Za.sc Za.z0 ee))))))))))))))))) (ih h)) λg2 h=>bnK h λz0 Wr h=>Zk (ffi 1 18++[((1,19),(3,27648))]) 11 (p2 (gg g2 (kk 12 (ta Z8 [false] z0 (kk 1 (oa 1 Zmw false (ox Z8 Wr (ln Z8 z0 (oe Z8 z0 (Za.sc x0 (Za.sc Za.z0 ee))))))))))) (ih h)) λg1 h=>itK h (λg2 h=>bnK h λa9 ha9 h=>Zk (ffi 1 18++[((1,19),(3,1024)),((1,20),(1,19))]) 14 (p1 (gg g1 (gg g2 (kk 3 (tp (.row (x0.holder:Int).toNat (Z8 a9)) (kk 1 (tp (.cell (Z8 a9)) (kk 1 (tp (.num (v0.map Z8).length 0 0 []) (ob (ixn ha9) (ob (ixl Z8 ha9) (ob (ixr Z8 ha9) (ob (ixr Z8 ha9) (oe Z8 v0 (Za.sc x0 (Za.sc Za.z0 ee)))))))))))))))) (Z0i h)) λg2 h=>Zk (ffi 1 18++[((1,19),(3,1024)),((1,20),(1,19))]) 14 (p1 (gg g1 (gg g2 (kk 5 (ln Z8 v0 (Za.sc x0 (Za.sc Za.z0 ee))))))) (Z0i h)
theorem Yp3 {x0:Za} {r:Za} (h:Zsn x0=some r):Zu Tryz.prog Mo (Qh x0 r):=
 Zt Tryz.func151 (Zk ([((1,1),(1,0))]++Za.ff 2 0 0++[((1,10),(1,1024)),((1,19),(2,0))]) 8 (tp (.num ([].map Z8).length 0 0 []) (ob (show 0=([].map Z8).length from rfl) (Za.sc x0 ee))) (Yd8 h))
abbrev Za8 (x0:Za) (x1:Zi) (r:Za×Zg):Y:=(88,[.agg (Za.enc x0),.agg (Zi.enc x1)],.tup [.agg (Za.ow r.1),.agg (Zg.enc r.2)],[.undef,.undef])
theorem Zs4 {x0:Za} {x1:Zi} {r:Za×Zg} {vb0:Za} {vb1:Zg} (h:Zdg x0 x1 vb0 vb1=some r):CS (Za8 x0 x1 r) Tryz.f88 [1,1,1,1,1,1,1,1,1] [(2,.ptr (1,1) 0 0),(4,.ptr (1,10) 0 0),(5,.ptr (1,19) 0 0),(6,.ptr (1,20) 0 0)] (Za.bk vb0 2++[bx 1 (Za.rl vb0 2)]++Za.bk Za.z0 11++[bx 10 (Za.rl Za.z0 11),bx 19 (Zg.enc Zg.z0),bx 20 (Zg.enc vb1)]):=
 rtK h (kk 8 (Za.so vb0 ee))
theorem Z1t {x0:Za} {x1:Zi} {r:Za×Zg} {vb0:Za} {vb2:Zg} (h:Zdm x0 x1 vb0 vb2=some r):CS (Za8 x0 x1 r) Tryz.f88 [1,1,1,1,1,1,1,1,0,1,0,1] [(2,.ptr (1,1) 0 0),(3,.ptr (1,10) 0 0),(4,.ptr (1,11) 0 0),(5,.ptr (1,20) 0 0),(6,.ptr (1,21) 0 0)] (Za.bk vb0 2++[bx 1 (Za.rl vb0 2),bx 10 (Zi.enc x1)]++Za.bk Za.z0 12++[bx 11 (Za.rl Za.z0 12),bx 20 (Zg.enc Zg.z0),bx 21 (Zg.enc vb2)]):=
 bnK h λr0 Zp h=>bnK h λr1 Zw h=>have p1 {q p} (k:Scr q p):=(kk 8 (Za.so vb0 (rr (Yog Zp) (kk 8 (Za.so r0 (rr (Yp3 Zw) k))))));itK h (λg1 h=>Zk ([((1,1),(1,1))]++Za.ff 2 2 3072++[((1,10),(1,11)),((1,11),(1,12)),((1,12),(1,13)),((1,13),(1,14)),((1,14),(1,15)),((1,15),(1,16)),((1,16),(1,17)),((1,17),(1,18)),((1,18),(1,19)),((1,19),(1,20)),((1,20),(1,21))]) 6 (p1 (gg g1 (Za.sc r1 (Za.sc Za.z0 ee)))) (Zs4 h)) λg1 h=>Zk ([((1,1),(1,1))]++Za.ff 2 2 3072++[((1,10),(1,11)),((1,11),(1,12)),((1,12),(1,13)),((1,13),(1,14)),((1,14),(1,15)),((1,15),(1,16)),((1,16),(1,17)),((1,17),(1,18)),((1,18),(1,19)),((1,19),(1,20)),((1,20),(1,21))]) 6 (p1 (gg g1 (Za.sc r1 (Za.sc Za.z0 ee)))) (Zs4 h)
theorem Z2f {x0:Za} {x1:Zi} {r:Za×Zg} {vb0:Za} {vb2:Zg} {v0:Bool} (h:J3 x0 x1 vb0 vb2 v0=some r):CS (Za8 x0 x1 r) Tryz.f88 [1,1,1,1,1,1,1,1,0,1,0,0,1] [(2,.ptr (1,1) 0 0),(3,.ptr (1,10) 0 0),(4,.ptr (1,11) 0 0),(5,.ptr (1,20) 0 0),(6,.ptr (1,21) 0 0),(182,bl v0)] (Za.bk vb0 2++[bx 1 (Za.rl vb0 2),bx 10 (Zi.enc x1)]++Za.bk Za.z0 12++[bx 11 (Za.rl Za.z0 12),bx 20 (Zg.enc Zg.z0),bx 21 (Zg.enc vb2)]):=
 itK h (λg1 h=>bnK h λa0 Zx h=>bnK h λy0 Wc h=>Zk (ffi 1 21) 6 (gg g1 (xp Zb.enc Zx Wc (tq (Za.nm {vb0 with m:=y0,holder:=(-1),held:=0}) (oe Zd.enc vb0.conf.masters (ob (Qi Zb.enc Wc) (oe Zc.enc vb0.buckets (oe Ze vb0.splits (Zj.so vb0.model (oe Zn.enc vb0.log (Za.sc Za.z0 ee)))))))))) (Z1t h)) λg1 h=>Zk (ffi 1 21) 2 (gg g1 (Za.sc vb0 (Za.sc Za.z0 ee))) (Z1t h)
theorem Zf3 {x0:Za} {x1:Zi} {r:Za×Zg} {vb0:Za} {vb2:Zg} (h:Q6 x0 x1 vb0 vb2=some r):CS (Za8 x0 x1 r) Tryz.f88 [1,1,1,1,1,1,1,1] [(2,.ptr (1,1) 0 0),(3,.ptr (1,10) 0 0),(4,.ptr (1,11) 0 0),(5,.ptr (1,20) 0 0),(6,.ptr (1,21) 0 0)] (Za.bk vb0 2++[bx 1 (Za.rl vb0 2),bx 10 (Zi.enc x1)]++Za.bk Za.z0 12++[bx 11 (Za.rl Za.z0 12),bx 20 (Zg.enc Zg.z0),bx 21 (Zg.enc vb2)]):=
 itK h (λg1 h=>itK h (λg2 h=>Zk (ffi 1 21) 7 (gg g1 (gg g2 (kk 6 (Za.sc vb0 (Za.sc Za.z0 ee))))) (Z2f h)) λg2 h=>Zk (ffi 1 21) 7 (gg g1 (gg g2 (kk 6 (Za.sc vb0 (Za.sc Za.z0 ee))))) (Z2f h)) λg1 h=>Zk (ffi 1 9++[((1,10),(1,11)),((1,11),(1,12)),((1,12),(1,13)),((1,13),(1,14)),((1,14),(1,15)),((1,15),(1,16)),((1,16),(1,17)),((1,17),(1,18)),((1,18),(1,19)),((1,19),(1,20)),((1,20),(1,21))]) 5 (gg g1 (Za.sc vb0 (Za.sc Za.z0 ee))) (Zs4 h)
theorem Zsf {x0:Za} {x1:Zi} {r:Za×Zg} {vb0:Za} {vb2:Zg} {v1:Bool} (h:J2 x0 x1 vb0 vb2 v1=some r):CS (Za8 x0 x1 r) Tryz.f88 [1,1,1,1,1,1,1,0,0,1,1,1] [(2,.ptr (1,1) 0 0),(3,.ptr (1,10) 0 0),(4,.ptr (1,11) 0 0),(5,.ptr (1,20) 0 0),(6,.ptr (1,21) 0 0),(126,bl v1)] (Za.bk vb0 2++[bx 1 (Za.rl vb0 2),bx 10 (Zi.enc x1)]++Za.bk Za.z0 12++[bx 11 (Za.rl Za.z0 12),bx 20 (Zg.enc Zg.z0),bx 21 (Zg.enc vb2)]):=
 itK h (λg1 h=>itK h (λg2 h=>bnK h λr2 Z6 h=>Zk ([((1,1),(1,1))]++Za.ff 2 8 2048++ffi 10 12) 16 (gg g1 (gg g2 (kk 8 (Za.so vb0 (rr (Z26 Z6) (Za.sc r2 (Za.sc Za.z0 ee))))))) (Zf3 h)) λg2 h=>Zk (ffi 1 21) 12 (gg g1 (gg g2 (Za.sc {vb0 with data_:={vb0.data_ with second:=true}} (Za.sc Za.z0 ee)))) (Zf3 h)) λg1 h=>itK h (λg2 h=>bnK h λr3 Y5 h=>Zk ([((1,1),(1,1))]++Za.ff 2 4 2048++ffi 10 12) 8 (gg g1 (gg g2 (kk 8 (Za.so vb0 (rr (Ymd Y5) (Za.sc r3 (Za.sc Za.z0 ee))))))) (Zf3 h)) λg2 h=>Zk (ffi 1 21) 6 (gg g1 (gg g2 (Za.sc vb0 (Za.sc Za.z0 ee)))) (Zf3 h)
theorem Z2d {x0:Za} {x1:Zi} {r:Za×Zg} {vb0:Za} {vb2:Zg} {v2:Bool} (h:Zk2 x0 x1 vb0 vb2 v2=some r):CS (Za8 x0 x1 r) Tryz.f88 [1,1,1,1,1,1,1,0,0,1] [(2,.ptr (1,1) 0 0),(3,.ptr (1,10) 0 0),(4,.ptr (1,11) 0 0),(5,.ptr (1,20) 0 0),(6,.ptr (1,21) 0 0),(109,bl v2)] (Za.bk vb0 2++[bx 1 (Za.rl vb0 2),bx 10 (Zi.enc x1)]++Za.bk Za.z0 12++[bx 11 (Za.rl Za.z0 12),bx 20 (Zg.enc Zg.z0),bx 21 (Zg.enc vb2)]):=
 itK h (λg1 h=>Zk (ffi 1 21) 5 (gg g1 (Za.sc {vb0 with data_:={vb0.data_ with left:=(Y6 vb0.data_.left 1)}} (Za.sc Za.z0 ee))) (Zf3 h)) λg1 h=>itK h (λg2 h=>itK h (λg3 h=>Zk (ffi 1 21) 3 (gg g1 (gg g2 (kk 4 (gg g3 (kk 4 (Za.sc vb0 (Za.sc Za.z0 ee))))))) (Zsf h)) λg3 h=>Zk (ffi 1 21) 3 (gg g1 (gg g2 (kk 4 (gg g3 (kk 4 (Za.sc vb0 (Za.sc Za.z0 ee))))))) (Zsf h)) λg2 h=>Zk (ffi 1 21) 3 (gg g1 (gg g2 (kk 9 (Za.sc vb0 (Za.sc Za.z0 ee))))) (Zsf h)
theorem Z2k {x0:Za} {x1:Zi} {r:Za×Zg} {vb0:Za} {vb2:Zg} (h:J4 x0 x1 vb0 vb2=some r):CS (Za8 x0 x1 r) Tryz.f88 [1,1,1,1,1,1,1] [(2,.ptr (1,1) 0 0),(3,.ptr (1,10) 0 0),(4,.ptr (1,11) 0 0),(5,.ptr (1,20) 0 0),(6,.ptr (1,21) 0 0)] (Za.bk vb0 2++[bx 1 (Za.rl vb0 2),bx 10 (Zi.enc x1)]++Za.bk Za.z0 12++[bx 11 (Za.rl Za.z0 12),bx 20 (Zg.enc Zg.z0),bx 21 (Zg.enc vb2)]):=
 itK h (λg1 h=>Zk (ffi 1 21) 4 (gg g1 (kk 4 (Za.sc vb0 (Za.sc Za.z0 ee)))) (Z2d h)) λg1 h=>Zk (ffi 1 21) 4 (gg g1 (kk 4 (Za.sc vb0 (Za.sc Za.z0 ee)))) (Z2d h)
theorem Yh6 {x0:Za} {x1:Zi} {r:Za×Zg}:∀{m:Nat} {vb0:Za} {vb2:Zg} {v3:Int},Zbt x0 x1 m vb0 vb2 v3=some r->CS (Za8 x0 x1 r) Tryz.f88 [1,1,1,1,1,0,1,0] [(2,.ptr (1,1) 0 0),(3,.ptr (1,10) 0 0),(4,.ptr (1,11) 0 0),(5,.ptr (1,20) 0 0),(6,.ptr (1,21) 0 0),(11,il v3)] (Za.bk vb0 2++[bx 1 (Za.rl vb0 2),bx 10 (Zi.enc x1)]++Za.bk Za.z0 12++[bx 11 (Za.rl Za.z0 12),bx 20 (Zg.enc Zg.z0),bx 21 (Zg.enc vb2)]):=by
 intro m
 induction m with
 | zero=>intro vb0 vb2 v3 h;cases h
 | succ m ih=>exactλ{vb0} {vb2} {v3} h=>itK h (λg1 h=>bnK h λa1 Yw h=>bnK h λy1 hy1 h=>bnK h λa2 Kt h=>bnK h λa3 ha3 h=>bnK h λr4 Qz h=>bnK h λy2 hy2 h=>Zk (ffi 1 21) 13 (lr Zb.enc vb0.m (gg g1 (xd Ze Yw (xp Ze Yw hy1 (xd Zc.enc Kt (xd Zd.enc ha3 (rr (Yjc Qz) (xp Zc.enc Kt hy2 (tq (Za.nm {vb0 with buckets:=y2,splits:=y1}) (oe Zd.enc vb0.conf.masters (oe Zb.enc vb0.m (ob (Qi Zc.enc hy2) (ob (Qi Ze hy1) (Zj.so vb0.model (oe Zn.enc vb0.log (Za.sc Za.z0 ee)))))))))))))))) (ih h)) λg1 h=>itK h (λg2 h=>Zk (ffi 1 21) 14 (lr Zb.enc vb0.m (gg g1 (gg g2 (Za.sc {vb0 with held:=(Zi8 vb0.conf.lockMost (Zq vb0.held 1))} (Za.sc Za.z0 ee))))) (Z2k h)) λg2 h=>Zk (ffi 1 21) 14 (lr Zb.enc vb0.m (gg g1 (gg g2 (Za.sc vb0 (Za.sc Za.z0 ee))))) (Z2k h)
theorem Yh0 {x0:Za} {x1:Zi} {r:Za×Zg}:∀{m:Nat} {vb0:Za} {vb2:Zg} {v4:List Zm} {v5:Int},Zgr x0 x1 m vb0 vb2 v4 v5=some r->CS (Za8 x0 x1 r) Tryz.f88 [1,1,1,1,0,1,0] [(2,.ptr (1,1) 0 0),(3,.ptr (1,10) 0 0),(4,.ptr (1,11) 0 0),(5,.ptr (1,20) 0 0),(6,.ptr (1,21) 0 0),(7,.sl (1,22) 0 (v4.map Zm.enc).length),(8,il v5)] (Za.bk vb0 2++[bx 1 (Za.rl vb0 2),bx 10 (Zi.enc x1)]++Za.bk Za.z0 12++[bx 11 (Za.rl Za.z0 12),bx 20 (Zg.enc Zg.z0),bx 21 (Zg.enc vb2),rx 22 106 (v4.map Zm.enc)]):=by
 intro m
 induction m with
 | zero=>intro vb0 vb2 v4 v5 h;cases h
 | succ m ih=>exactλ{vb0} {vb2} {v4} {v5} h=>itK h (λg1 h=>bnK h λa4 ha4 h=>bnK h λr5 hr5 h=>have p1 {q p} (k:Scr q p):=(lr Zm.enc v4 (gg g1 (xd Zm.enc ha4 (lr Zb.enc vb0.m (rr (Z4 hr5) k)))));itK h (λg2 h=>bnK h λa5 ha5 h=>bnK h λr6 hr6 h=>bnK h λy3 hy3 h=>Zk (ffi 1 22) 16 (p1 (gg g2 (xd Zm.enc ha4 (xd Zb.enc ha5 (xd Zm.enc ha4 (rr (Ytv hr6) (xd Zm.enc ha4 (xq Zb.enc ha5 y3 (kk 1 (oe Zf.enc r6.1.queue (ob (Zum Zb.enc hy3) (ln Zm.enc v4 (tq (Za.nm {vb0 with m:=y3}) (oe Zd.enc vb0.conf.masters (ob (Qi Zb.enc hy3) (oe Zc.enc vb0.buckets (oe Ze vb0.splits (Zj.so vb0.model (oe Zn.enc vb0.log (Za.sc Za.z0 ee)))))))))))))))))))) (ih h)) λg2 h=>Zk (ffi 1 22) 14 (p1 (gg g2 (ln Zm.enc v4 (Za.sc vb0 (Za.sc Za.z0 ee))))) (ih h)) λg1 h=>Zk (ffi 1 21) 13 (lr Zm.enc v4 (gg g1 (Za.sc vb0 (Za.sc Za.z0 ee)))) (Yh6 h)
theorem Yur {x0:Za} {x1:Zi} {r:Za×Zg} (h:Zvj x0 x1=some r):Zu Tryz.prog Mo (Za8 x0 x1 r):=
 Zt Tryz.func88 (bnK h λr7 hr7 h=>bnK h λr8 hr8 h=>bnK h λr9 hr9 h=>Zk ([((1,1),(1,0))]++Za.ff 2 2 1024++[((1,10),(1,1024)),((1,11),(1,2048)),((1,20),(1,3072)),((1,21),(3,2048)),((1,22),(4,3072))]) 12 (rr (Z3n hr7) (kk 8 (Za.so r7 (rr (Ytt hr8) (rr (Yup hr9) (ln Zm.enc r9 (Za.sc r7 ee))))))) (Yh0 h))
abbrev Zpb (x0:Za) (x1:Zi) (x2:Int) (r:Za×List Zg):Y:=(37,[.agg (Za.enc x0),.agg (Zi.enc x1),il x2],.tup [.agg (Za.ow r.1),.own 84 (r.2.map Zg.enc)],[.undef,.undef,.undef])
theorem Yj6 {x0:Za} {x1:Zi} {x2:Int} {r:Za×List Zg}:∀{m:Nat} {vb0:Za} {v0:List Zg} {v1:Int},Zoq x0 x1 x2 m vb0 v0 v1=some r->CS (Zpb x0 x1 x2 r) Tryz.f37 [1,1,1,1,0,1,0] [(2,il x2),(4,.ptr (1,1) 0 0),(6,.ptr (1,2) 0 0),(8,.sl (1,20) 0 (v0.map Zg.enc).length),(9,.ptr (1,11) 0 0),(10,il v1)] ([bx 1 (Zi.enc x1)]++Za.bk Za.z0 3++[bx 2 (Za.rl Za.z0 3)]++Za.bk vb0 12++[bx 11 (Za.rl vb0 12),rx 20 84 (v0.map Zg.enc)]):=by
 intro m
 induction m with
 | zero=>intro vb0 v0 v1 h;cases h
 | succ m ih=>exactλ{vb0} {v0} {v1} h=>itK h (λg1 h=>bnK h λr0 Zp h=>bnK h λz0 Wr h=>Zk (ffi 1 11++Za.ff 12 3 2048++[((1,20),(4,3072))]) 15 (gg g1 (kk 8 (Za.so vb0 (rr (Yur Zp) (ta Zg.enc [r0.2] z0 (kk 1 (oa 9 Zg.enc_len r0.2 (ox Zg.enc Wr (ln Zg.enc z0 (oe Zg.enc z0 (Za.sc Za.z0 (Za.sc r0.1 ee)))))))))))) (ih h)) λg1 h=>rtK h (gg g1 (kk 9 (Za.so vb0 (oe Zg.enc v0 ee))))
theorem Z37 {x0:Za} {x1:Zi} {x2:Int} {r:Za×List Zg} {vb0:Za} {v2:Bool} (h:Zo5 x0 x1 x2 vb0 v2=some r):CS (Zpb x0 x1 x2 r) Tryz.f37 [1,1,1,0,1] [(2,il x2),(4,.ptr (1,1) 0 0),(6,.ptr (1,2) 0 0),(8,.sl (1,20) 0 ([].map Zg.enc).length),(9,.ptr (1,11) 0 0),(26,bl v2)] ([bx 1 (Zi.enc x1)]++Za.bk Za.z0 3++[bx 2 (Za.rl Za.z0 3)]++Za.bk vb0 12++[bx 11 (Za.rl vb0 12),rx 20 84 ([].map Zg.enc)]):=
 itK h (λg1 h=>rtK h (gg g1 (kk 9 (Za.so vb0 (oe Zg.enc [] ee))))) λg1 h=>Zk (ffi 1 20) 6 (gg g1 (ln Zg.enc [] (Za.sc Za.z0 (Za.sc vb0 ee)))) (Yj6 h)
theorem Yzg {x0:Za} {x1:Zi} {x2:Int} {r:Za×List Zg} (h:Zy0 x0 x1 x2=some r):Zu Tryz.prog Mo (Zpb x0 x1 x2 r):=
 Zt Tryz.func37 (bnK h λr1 Zw h=>bnK h λr2 Z6 h=>itK h (λg1 h=>Zk ([((1,1),(1,1024)),((1,2),(1,2048)),((1,11),(3,2048))]++Za.ff 12 3 1024++[((1,20),(2,0))]) 9 (rr (Z3n Zw) (rr (Yku Z6) (gg g1 (kk 6 (tp (.num ([].map Zg.enc).length 0 0 []) (ob (show 0=([].map Zg.enc).length from rfl) (Za.sc r1 ee))))))) (Z37 h)) λg1 h=>bnK h λr3 Y5 h=>Zk ([((1,1),(1,1024)),((1,2),(1,2048)),((1,11),(3,2048))]++Za.ff 12 3 1024++[((1,20),(2,0))]) 9 (rr (Z3n Zw) (rr (Yku Z6) (gg g1 (kk 4 (rr (Z4 Y5) (kk 2 (tp (.num ([].map Zg.enc).length 0 0 []) (ob (show 0=([].map Zg.enc).length from rfl) (Za.sc r1 ee))))))))) (Z37 h))
abbrev Yyk (x0:Int) (x1:Int) (x2:Int) (r:Bool):Y:=(65,[il x0,il x1,il x2],bl r,[.undef,.undef,.undef])
theorem Yi {x0:Int} {x1:Int} {x2:Int} {r:Bool} (h:Yu x0 x1 x2=some r):Zu Tryz.prog Mo (Yyk x0 x1 x2 r):=
 Zt Tryz.func65 (itK h (λg1 h=>rtK h (gg g1 (kk 3 ee))) λg1 h=>rtK h (gg g1 (kk 3 ee)))
abbrev Yge (x0:Zl) (r:Int):Y:=(237,[.agg (Zl.enc x0)],il r,[.undef])
theorem Z4k {x0:Zl} {r:Int} {v0:Bool} (h:Zuw x0 v0=some r):CS (Yge x0 r) Tryz.f237 [1,0,1] [(1,.ptr (1,1) 0 0),(12,bl v0)] [bx 1 (Zl.enc x0)]:=
 itK h (λg1 h=>rtK h (gg g1 ee)) λg1 h=>rtK h (gg g1 ee)
theorem Z5v {x0:Zl} {r:Int} (h:Ztj x0=some r):Zu Tryz.prog Mo (Yge x0 r):=
 Zt Tryz.func237 (bnK h λr0 Zp h=>itK h (λg1 h=>Zk [((1,1),(1,0))] 5 (rr (Yi Zp) (gg g1 (kk 4 ee))) (Z4k h)) λg1 h=>bnK h λr1 Zw h=>Zk [((1,1),(1,0))] 5 (rr (Yi Zp) (gg g1 (kk 2 (rr (Yi Zw) (kk 2 ee))))) (Z4k h))
abbrev Yx1 (x0:Zl) (r:Int):Y:=(182,[.agg (Zl.enc x0)],il r,[.undef])
theorem Z5n {x0:Zl} {r:Int} (h:Zt8 x0=some r):Zu Tryz.prog Mo (Yx1 x0 r):=
 Zt Tryz.func182 (bnK h λr0 Zp h=>itK h (λg1 h=>rtK h (rr (Z5v Zp) (gg g1 (kk 5 ee)))) λg1 h=>bnK h λr1 Zw h=>have p1 {q p} (k:Scr q p):=(rr (Z5v Zp) (gg g1 (kk 2 (rr (Yi Zw) (kk 2 k)))));itK h (λg2 h=>rtK h (p1 (gg g2 ee))) λg2 h=>bnK h λr2 Z6 h=>rtK h (p1 (gg g2 (rr (Z5v Z6) ee))))
abbrev Ylg (x0:Zl) (r:Int):Y:=(239,[.agg (Zl.enc x0)],il r,[.undef])
theorem Yl8 {x0:Zl} {r:Int}:∀{m:Nat} {v0:Int} {v1:Int},Zqf x0 m v0 v1=some r->CS (Ylg x0 r) Tryz.f239 [1,1,0,1,0] [(3,il v0),(7,.tr (x0.masters.map Zd.enc)),(8,il (x0.masters.length:Int)),(9,il v1)] []:=by
 intro m
 induction m with
 | zero=>intro v0 v1 h;cases h
 | succ m ih=>exactλ{v0} {v1} h=>itK h (λg1 h=>bnK h λa0 Zx h=>itK h (λg2 h=>Zk [] 16 (gg g1 (xb Zd.enc Zx (gg g2 ee))) (ih h)) λg2 h=>Zk [] 16 (gg g1 (xb Zd.enc Zx (gg g2 ee))) (ih h)) λg1 h=>rtK h (gg g1 ee)
theorem Y1v {x0:Zl} {r:Int} (h:Z1o x0=some r):Zu Tryz.prog Mo (Ylg x0 r):=
 Zt Tryz.func239 (Zk [] 8 (lr Zd.enc x0.masters ee) (Yl8 h))
abbrev Yj0 (x0:Zl) (r:Int):Y:=(185,[.agg (Zl.enc x0)],il r,[.undef])
theorem Z4h {x0:Zl} {r:Int} (h:Zof x0=some r):Zu Tryz.prog Mo (Yj0 x0 r):=
 Zt Tryz.func185 (bnK h λr0 Zp h=>bnK h λr1 Zw h=>rtK h (rr (Z5n Zp) (rr (Y1v Zw) ee)))
abbrev Ynq (x0:Zd) (x1:Zl) (r:Bool):Y:=(184,[.agg (Zd.enc x0),.rp true (Zl.enc x1) 0],bl r,[.undef,.undef])
theorem Z76 {x0:Zd} {x1:Zl} {r:Bool} (h:Zsr x0 x1=some r):Zu Tryz.prog Mo (Ynq x0 x1 r):=
 Zt Tryz.func184 (bnK h λr0 Zp h=>have p1 {q p} (k:Scr q p):=(rr (Yi Zp) k);itK h (λg1 h=>rtK h (p1 (gg g1 ee))) λg1 h=>itK h (λg2 h=>bnK h λr1 Zw h=>bnK h λr2 Z6 h=>itK h (λg3 h=>rtK h (p1 (gg g1 (gg g2 (rr (Z4h Zw) (rr (Yi Z6) (gg g3 (kk 4 ee)))))))) λg3 h=>bnK h λr3 Y5 h=>rtK h (p1 (gg g1 (gg g2 (rr (Z4h Zw) (rr (Yi Z6) (gg g3 (kk 2 (rr (Yi Y5) (kk 2 ee)))))))))) λg2 h=>itK h (λg3 h=>rtK h (p1 (gg g1 (gg g2 (gg g3 (kk 3 ee)))))) λg3 h=>rtK h (p1 (gg g1 (gg g2 (gg g3 (kk 3 ee))))))
abbrev Za0 (x0:List Zd) (x1c0:Zl) (r:Int):Y:=(238,[.tr (x0.map Zd.enc),.fn 184 [.rp true (Zl.enc x1c0) 0]],il r,[.undef,.undef])
theorem Zfo {x0:List Zd} {x1c0:Zl} {r:Int}:∀{m:Nat} {v0:Int},Y2 x0 x1c0 m v0=some r->CS (Za0 x0 x1c0 r) Tryz.f238 [1,0,1,0] [(0,.tr (x0.map Zd.enc)),(1,.fn 184 [.rp true (Zl.enc x1c0) 0]),(7,il (x0.length:Int)),(8,il v0)] []:=by
 intro m
 induction m with
 | zero=>intro v0 h;cases h
 | succ m ih=>exactλ{v0} h=>itK h (λg1 h=>bnK h λa0 Zx h=>bnK h λr0 Zp h=>itK h (λg2 h=>rtK h (gg g1 (xb Zd.enc Zx (rr (Z76 Zp) (gg g2 ee))))) λg2 h=>Zk [] 16 (gg g1 (xb Zd.enc Zx (rr (Z76 Zp) (gg g2 ee)))) (ih h)) λg1 h=>rtK h (gg g1 ee)
theorem Zh2 {x0:List Zd} {x1c0:Zl} {r:Int} (h:Q3 x0 x1c0=some r):Zu Tryz.prog Mo (Za0 x0 x1c0 r):=
 Zt Tryz.func238 (Zk [] 6 (lr Zd.enc x0 ee) (Zfo h))
abbrev Zf7 (x0:List Zd) (x1c0:Zl) (r:Bool):Y:=(183,[.tr (x0.map Zd.enc),.fn 184 [.rp true (Zl.enc x1c0) 0]],bl r,[.undef,.undef])
theorem Zfy {x0:List Zd} {x1c0:Zl} {r:Bool} (h:X9 x0 x1c0=some r):Zu Tryz.prog Mo (Zf7 x0 x1c0 r):=
 Zt Tryz.func183 (bnK h λr0 Zp h=>rtK h (rr (Zh2 Zp) ee))
abbrev Yyn (x0:Zl) (r:Bool):Y:=(111,[.agg (Zl.enc x0)],bl r,[.undef])
theorem Zt5 {x0:Zl} {r:Bool} (h:Znz x0=some r):Zu Tryz.prog Mo (Yyn x0 r):=
 Zt Tryz.func111 (bnK h λr0 Zp h=>have p1 {q p} (k:Scr q p):=(lr Zd.enc x0.masters (rr (Yi Zp) k));itK h (λg1 h=>rtK h (p1 (gg g1 (kk 14 ee)))) λg1 h=>bnK h λr1 Zw h=>have p2 {q p} (k:Scr q p):=(p1 (gg g1 (kk 2 (rr (Yi Zw) (kk 2 k)))));itK h (λg2 h=>rtK h (p2 (gg g2 (kk 9 ee)))) λg2 h=>bnK h λr2 Z6 h=>have p3 {q p} (k:Scr q p):=(p2 (gg g2 (kk 2 (rr (Yi Z6) (kk 2 k)))));itK h (λg3 h=>rtK h (p3 (gg g3 (kk 4 ee)))) λg3 h=>bnK h λr3 Y5 h=>itK h (λg4 h=>rtK h (p3 (gg g3 (kk 1 (rr (Z5n Y5) (kk 2 (gg g4 ee))))))) λg4 h=>bnK h λr4 Qz h=>rtK h (p3 (gg g3 (kk 1 (rr (Z5n Y5) (kk 2 (gg g4 (rr (Zfy Qz) ee))))))))
abbrev Zj9 (x0:List Zd) (r:List Zd):Y:=(186,[.tr (x0.map Zd.enc)],.own 150 (r.map Zd.enc),[.undef])
theorem Zxs {x0:List Zd} {r:List Zd} (h:Zai x0=some r):Zu Tryz.prog Mo (Zj9 x0 r):=by
 refine Zt Tryz.func186 ?_;unfold Zai at h;cases x0 with
 | nil=>
  obtain rfl:[]=r:=(Z5g h);have hn:CS (Zj9 [] []) Tryz.f186 [1,0,0] [(0,.tr [])] []:=Z59 Mo fOk (k:=at_ [1,0,1] (Xd Tryz.f186) []) (x0:=.tmp 0) (d0:=3) (d1:=4) (t:=31) (e:=150) (y:=.const (.slice none 0 0)) (by kernel_rfl) (by kernel_rfl) rfl rfl λb=>by
   cases b with
   | true=>exact rtQ rfl [.k] tt
   | false=>exact rtQ rfl [.k,.app [] true [] 0,.k] (aa (Eq.refl ([]:List (List V))) (aa (Eq.refl true) (aa (Eq.refl true) (aa (Eq.refl 0) (aa (apz 32) (aa (Eq.refl ([]:List (List V))) (aa (Eq.refl 0) (aa (Eq.refl 0) tt))))))))
  exact cutQ [] 4 [] tt hn
 | cons a l=>
  exact rtQ rfl [.k,.app ((a::l).map Zd.enc) true (r.map Zd.enc) (r.map Zd.enc).length,.k] (aa (Vde (Zd.enc a) (l.map Zd.enc)) (aa (Eq.refl ((a::l).map Zd.enc)) (aa (ltr Zd.enc_lit (a::l)) (aa (alr 4 Zd.enc_len (a::l)) (aa (Eq.refl 0) (aa (apl Zd.enc h) (aa (apm0 Zd.enc h) (aa (Z93 Zd.enc r) (aa (Z93 Zd.enc r) tt)))))))))
abbrev Yua (x0:Zl) (r:Zl):Y:=(112,[.agg (Zl.enc x0)],.agg [.own 150 (r.masters.map Zd.enc),il r.quantum,il r.maxWait,il r.maxRetry,il r.maxSplit,il r.lockMost],[.undef])
theorem Ysv {x0:Zl} {r:Zl} (h:Zvd x0=some r):Zu Tryz.prog Mo (Yua x0 r):=
 Zt Tryz.func112 (bnK h λr0 Zp h=>rtK h (rr (Zxs Zp) (kk 1 (oe Zd.enc r0 ee))))
abbrev Yum (x0:Int) (r:Int):Y:=(116,[il x0],il r,[.undef])
theorem Zwd {x0:Int} {r:Int} (h:Zg2 x0=some r):Zu Tryz.prog Mo (Yum x0 r):=
 Zt Tryz.func116 (bnK h λr0 Zp h=>itK h (λg1 h=>rtK h (rr (Yi Zp) (gg g1 ee))) λg1 h=>bnK h λa0 Zx h=>rtK h (rr (Yi Zp) (gg g1 (xd Ze Zx ee))))
abbrev Yud (x0:Int) (r:Int):Y:=(241,[il x0],il r,[.undef])
theorem Zc1 {x0:Int} {r:Int} (h:Zab x0=some r):Zu Tryz.prog Mo (Yud x0 r):=
 Zt Tryz.func241 (bnK h λr0 Zp h=>itK h (λg1 h=>rtK h (rr (Yi Zp) (gg g1 ee))) λg1 h=>bnK h λn0 hn0 h=>rtK h (rr (Yi Zp) (gg g1 (tp (.obl) (ob (nn0 hn0) ee)))))
abbrev Yuo (x0:Int) (x1:Int) (r:Bool):Y:=(223,[il x0,il x1],bl r,[.undef,.undef])
theorem Zgx {x0:Int} {x1:Int} {r:Bool} (h:Zg9 x0 x1=some r):Zu Tryz.prog Mo (Yuo x0 x1 r):=
 Zt Tryz.func223 (bnK h λr0 Zp h=>itK h (λg1 h=>itK h (λg2 h=>bnK h λr1 Zw h=>bnK h λn0 hn0 h=>rtK h (rr (Yi Zp) (gg g1 (kk 2 (gg g2 (kk 2 (rr (Zc1 Zw) (kk 1 (tp (.obl) (kk 2 (ob (nz0 hn0) ee))))))))))) λg2 h=>rtK h (rr (Yi Zp) (gg g1 (kk 2 (gg g2 (kk 5 ee)))))) λg1 h=>rtK h (rr (Yi Zp) (gg g1 (kk 8 ee))))
abbrev Z8u (x0:Int) (x1:Int) (x2:Int) (r:Int):Y:=(240,[il x0,il x1,il x2],il r,[.undef,.undef,.undef])
theorem Zq3 {x0:Int} {x1:Int} {x2:Int} {r:Int} {v0:Bool} (h:Ze5 x0 x1 x2 v0=some r):CS (Z8u x0 x1 x2 r) Tryz.f240 [1,0,1] [(0,il x0),(1,il x1),(2,il x2),(21,bl v0)] []:=
 itK h (λg1 h=>rtK h (gg g1 ee)) λg1 h=>bnK h λr0 Zp h=>bnK h λr1 Zw h=>have p1 {q p} (k:Scr q p):=(gg g1 (rr (Zc1 Zp) (rr (Zc1 Zw) k)));itK h (λg2 h=>bnK h λn0 hn0 h=>itK h (λg3 h=>rtK h (p1 (gg g2 (kk 2 (tp (.obl) (kk 2 (ob (nz0 hn0) (gg g3 ee)))))))) λg3 h=>rtK h (p1 (gg g2 (kk 2 (tp (.obl) (kk 2 (ob (nz0 hn0) (gg g3 ee)))))))) λg2 h=>rtK h (p1 (gg g2 (kk 5 ee)))
theorem Z9u {x0:Int} {x1:Int} {x2:Int} {r:Int} (h:Zsi x0 x1 x2=some r):Zu Tryz.prog Mo (Z8u x0 x1 x2 r):=
 Zt Tryz.func240 (bnK h λr2 Z6 h=>itK h (λg1 h=>Zk [] 5 (rr (Zgx Z6) (gg g1 (kk 6 ee))) (Zq3 h)) λg1 h=>itK h (λg2 h=>Zk [] 5 (rr (Zgx Z6) (gg g1 (kk 2 (gg g2 (kk 3 ee))))) (Zq3 h)) λg2 h=>bnK h λr3 Y5 h=>Zk [] 5 (rr (Zgx Z6) (gg g1 (kk 2 (gg g2 (kk 1 (rr (Zwd Y5) (kk 2 ee))))))) (Zq3 h))
abbrev Z4m (x0:Int) (x1:Int) (x2:Int) (r:List Int):Y:=(188,[il x0,il x1,il x2],.own 3 (r.map Ze),[.undef,.undef,.undef])
theorem Z9a {x0:Int} {x1:Int} {x2:Int} {r:List Int}:∀{m:Nat} {v0:Int} {v1:List Int} {v2:Int} {v3:Int},Zf4 x0 x1 x2 m v0 v1 v2 v3=some r->CS (Z4m x0 x1 x2 r) Tryz.f188 [1,1,0,1,0] [(0,il v0),(1,il x1),(2,il x2),(7,.sl (1,1) 0 (v1.map Ze).length),(11,il v2),(12,il v3)] [rx 1 3 (v1.map Ze)]:=by
 intro m
 induction m with
 | zero=>intro v0 v1 v2 v3 h;cases h
 | succ m ih=>exactλ{v0} {v1} {v2} {v3} h=>itK h (λg1 h=>bnK h λr0 Zp h=>itK h (λg2 h=>rtK h (gg g1 (rr (Z9u Zp) (gg g2 ee)))) λg2 h=>bnK h λz0 Wr h=>Zk [((1,1),(5,3072))] 20 (gg g1 (rr (Z9u Zp) (gg g2 (ta Ze [v0] z0 (kk 1 (oa 1 Zcj v0 (ox Ze Wr (ln Ze z0 (oe Ze z0 ee))))))))) (ih h)) λg1 h=>rtK h (gg g1 (kk 1 (oe Ze v1 ee)))
theorem Z36 {x0:Int} {x1:Int} {x2:Int} {r:List Int} (h:Zhz x0 x1 x2=some r):Zu Tryz.prog Mo (Z4m x0 x1 x2 r):=
 Zt Tryz.func188 (bnK h λr1 Zw h=>Zk [((1,1),(2,0))] 8 (rr (Zwd Zw) (tp (.num ([].map Ze).length 0 0 []) (ob (show 0=([].map Ze).length from rfl) ee))) (Z9a h))
abbrev Yc4 (x0:Int) (x1:Int) (x2:Int) (r:Bool):Y:=(117,[il x0,il x1,il x2],bl r,[.undef,.undef,.undef])
theorem Yh9 {x0:Int} {x1:Int} {x2:Int} {r:Bool}:∀{m:Nat} {v0:List Int} {v1:Int} {v2:Int},Zks x0 x1 x2 m v0 v1 v2=some r->CS (Yc4 x0 x1 x2 r) Tryz.f117 [1,1,0,1,0] [(7,.sl (1,1) 0 (v0.map Ze).length),(14,.sl (1,1) 0 (v0.map Ze).length),(15,il v1),(16,il v2)] [rx 1 3 (v0.map Ze)]:=by
 intro m
 induction m with
 | zero=>intro v0 v1 v2 h;cases h
 | succ m ih=>exactλ{v0} {v1} {v2} h=>itK h (λg1 h=>bnK h λa0 Zx h=>bnK h λa1 Yw h=>itK h (λg2 h=>rtK h (gg g1 (xd Ze Zx (kk 1 (xd Ze Yw (kk 1 (gg g2 ee))))))) λg2 h=>Zk [((1,1),(1,1))] 16 (gg g1 (xd Ze Zx (kk 1 (xd Ze Yw (kk 1 (gg g2 (ln Ze v0 (ln Ze v0 ee)))))))) (ih h)) λg1 h=>rtK h (gg g1 (lr Ze v0 ee))
theorem Z3w {x0:Int} {x1:Int} {x2:Int} {r:Bool} (h:Zvi x0 x1 x2=some r):Zu Tryz.prog Mo (Yc4 x0 x1 x2 r):=
 Zt Tryz.func117 (bnK h λr0 Zp h=>Zk [((1,1),(2,3072))] 8 (rr (Z36 Zp) (lr Ze r0 (ln Ze r0 (ln Ze r0 ee)))) (Yh9 h))
abbrev Ysa (x0:Int) (r:Int):Y:=(190,[il x0],il r,[.undef])
theorem Yb6 {x0:Int} {r:Int} (h:Zp3 x0=some r):Zu Tryz.prog Mo (Ysa x0 r):=
 Zt Tryz.func190 (bnK h λr0 Zp h=>itK h (λg1 h=>rtK h (rr (Zc1 Zp) (gg g1 ee))) λg1 h=>bnK h λr1 Zw h=>bnK h λn0 hn0 h=>rtK h (rr (Zc1 Zp) (gg g1 (rr (Zc1 Zw) (tp (.obl) (ob (nn0 hn0) ee))))))
abbrev Yz9 (x0:Int) (x1:Int) (r:Bool):Y:=(120,[il x0,il x1],bl r,[.undef,.undef])
theorem Zne {x0:Int} {x1:Int} {r:Bool} (h:Zd9 x0 x1=some r):Zu Tryz.prog Mo (Yz9 x0 x1 r):=
 Zt Tryz.func120 (bnK h λr0 Zp h=>bnK h λr1 Zw h=>rtK h (rr (Yb6 Zp) (rr (Yi Zw) ee)))
abbrev Ysm (x0:Int) (x1:Zf) (r:Bool):Y:=(119,[il x0,.rp true (Zf.enc x1) 0],bl r,[.undef,.undef])
theorem Yb7 {x0:Int} {x1:Zf} {r:Bool} (h:Zv5 x0 x1=some r):Zu Tryz.prog Mo (Ysm x0 x1 r):=
 Zt Tryz.func119 (bnK h λr0 Zp h=>rtK h (rr (Zne Zp) ee))
abbrev Zcs (x0:List Int) (x1c0:Zf) (r:Int):Y:=(189,[.tr (x0.map Ze),.fn 119 [.rp true (Zf.enc x1c0) 0]],il r,[.undef,.undef])
theorem Zik {x0:List Int} {x1c0:Zf} {r:Int}:∀{m:Nat} {v0:Int},Q9 x0 x1c0 m v0=some r->CS (Zcs x0 x1c0 r) Tryz.f189 [1,0,1,0] [(0,.tr (x0.map Ze)),(1,.fn 119 [.rp true (Zf.enc x1c0) 0]),(7,il (x0.length:Int)),(8,il v0)] []:=by
 intro m
 induction m with
 | zero=>intro v0 h;cases h
 | succ m ih=>exactλ{v0} h=>itK h (λg1 h=>bnK h λa0 Zx h=>bnK h λr0 Zp h=>itK h (λg2 h=>rtK h (gg g1 (xb Ze Zx (rr (Yb7 Zp) (gg g2 ee))))) λg2 h=>Zk [] 16 (gg g1 (xb Ze Zx (rr (Yb7 Zp) (gg g2 ee)))) (ih h)) λg1 h=>rtK h (gg g1 ee)
theorem Zl7 {x0:List Int} {x1c0:Zf} {r:Int} (h:K6 x0 x1c0=some r):Zu Tryz.prog Mo (Zcs x0 x1c0 r):=
 Zt Tryz.func189 (Zk [] 6 (lr Ze x0 ee) (Zik h))
abbrev Ziv (x0:List Int) (x1c0:Zf) (r:Bool):Y:=(118,[.tr (x0.map Ze),.fn 119 [.rp true (Zf.enc x1c0) 0]],bl r,[.undef,.undef])
theorem Zjv {x0:List Int} {x1c0:Zf} {r:Bool} (h:Wu x0 x1c0=some r):Zu Tryz.prog Mo (Ziv x0 x1c0 r):=
 Zt Tryz.func118 (bnK h λr0 Zp h=>rtK h (rr (Zl7 Zp) ee))
abbrev Ykx (x0:Zf) (r:Bool):Y:=(52,[.agg (Zf.enc x0)],bl r,[.undef])
theorem Z7a {x0:Zf} {r:Bool} {v0:Int} (h:Zqk x0 v0=some r):CS (Ykx x0 r) Tryz.f52 [1,1,1] [(1,.ptr (1,1) 0 0),(3,il v0)] [bx 1 (Zf.enc x0)]:=
 bnK h λr0 Zp h=>itK h (λg1 h=>itK h (λg2 h=>bnK h λr1 Zw h=>rtK h (rr (Z3w Zp) (gg g1 (kk 2 (lr Ze x0.data_ (kk 3 (gg g2 (kk 3 (rr (Zjv Zw) (kk 2 ee)))))))))) λg2 h=>rtK h (rr (Z3w Zp) (gg g1 (kk 2 (lr Ze x0.data_ (kk 3 (gg g2 (kk 5 ee)))))))) λg1 h=>rtK h (rr (Z3w Zp) (gg g1 (kk 11 ee)))
theorem Z86 {x0:Zf} {r:Bool} (h:Zww x0=some r):Zu Tryz.prog Mo (Ykx x0 r):=
 Zt Tryz.func52 (itK h (λg1 h=>bnK h λr2 Z6 h=>Zk [((1,1),(1,0))] 9 (gg g1 (rr (Zwd Z6) ee)) (Z7a h)) λg1 h=>Zk [((1,1),(1,0))] 9 (gg g1 ee) (Z7a h))
abbrev Zpy (x0:List Int) (r:List Int):Y:=(159,[.tr (x0.map Ze)],.own 3 (r.map Ze),[.undef])
theorem Wx {x0:List Int} {r:List Int} (h:Xf x0=some r):Zu Tryz.prog Mo (Zpy x0 r):=by
 refine Zt Tryz.func159 ?_;unfold Xf at h;cases x0 with
 | nil=>
  obtain rfl:[]=r:=(Z5g h);have hn:CS (Zpy [] []) Tryz.f159 [1,0,0] [(0,.tr [])] []:=Z59 Mo fOk (k:=at_ [1,0,1] (Xd Tryz.f159) []) (x0:=.tmp 0) (d0:=3) (d1:=4) (t:=45) (e:=3) (y:=.const (.slice none 0 0)) (by kernel_rfl) (by kernel_rfl) rfl rfl λb=>by
   cases b with
   | true=>exact rtQ rfl [.k] tt
   | false=>exact rtQ rfl [.k,.app [] true [] 0,.k] (aa (Eq.refl ([]:List (List V))) (aa (Eq.refl true) (aa (Eq.refl true) (aa (Eq.refl 0) (aa (apz 8) (aa (Eq.refl ([]:List (List V))) (aa (Eq.refl 0) (aa (Eq.refl 0) tt))))))))
  exact cutQ [] 4 [] tt hn
 | cons a l=>
  exact rtQ rfl [.k,.app ((a::l).map Ze) true (r.map Ze) (r.map Ze).length,.k] (aa (Vde (Ze a) (l.map Ze)) (aa (Eq.refl ((a::l).map Ze)) (aa (ltr Zqx (a::l)) (aa (alr 1 Zcj (a::l)) (aa (Eq.refl 0) (aa (apl Ze h) (aa (apm0 Ze h) (aa (Z93 Ze r) (aa (Z93 Ze r) tt)))))))))
abbrev Yx5 (x0:Zf) (r:Zf):Y:=(214,[.agg (Zf.enc x0)],.agg [bl r.write,il r.addr,il r.size,il r.burst,bl r.lock,.own 3 (r.data_.map Ze)],[.undef])
theorem Z5w {x0:Zf} {r:Zf} (h:Zjg x0=some r):Zu Tryz.prog Mo (Yx5 x0 r):=
 Zt Tryz.func214 (bnK h λr0 Zp h=>rtK h (rr (Wx Zp) (kk 1 (oe Ze r0 ee))))
abbrev Yh5 (x0:Zb) (r:Zb):Y:=(157,[.agg (Zb.enc x0)],.agg [.own 104 (r.queue.map Zf.enc),il r.beat,il r.done,il r.tries,bl r.parted,bl r.broken],[.undef])
theorem Yjh {x0:Zb} {r:Zb}:∀{m:Nat} {v0:List Zf} {v1:Int},Znx x0 m v0 v1=some r->CS (Yh5 x0 r) Tryz.f157 [1,1,0,1,0] [(1,.ptr (1,1) 0 0),(2,.ptr (1,2) 0 0),(3,.sl (1,4) 0 (v0.map Zf.enc).length),(8,.tr (x0.queue.map Zf.enc)),(9,il (x0.queue.length:Int)),(10,il v1)] [bx 1 (Zb.enc x0),rx 3 104 ([].map Zf.enc),bx 2 [.sl (1,3) 0 ([].map Zf.enc).length,il 0,il 0,il 0,bl false,bl false],rx 4 104 (v0.map Zf.enc)]:=by
 intro m
 induction m with
 | zero=>intro v0 v1 h;cases h
 | succ m ih=>exactλ{v0} {v1} h=>itK h (λg1 h=>bnK h λa0 Zx h=>bnK h λr0 Zp h=>bnK h λz0 Wr h=>Zk (ffi 1 3++[((1,4),(4,4096))]) 13 (gg g1 (xb Zf.enc Zx (rr (Z5w Zp) (kk 1 (ta Zf.enc [r0] z0 (kk 1 (oe Ze r0.data_ (oa 6 Zf.enc_len r0 (ox Zf.enc Wr (ln Zf.enc z0 (oe Zf.enc z0 (ln Zf.enc [] ee)))))))))))) (ih h)) λg1 h=>rtK h (gg g1 (kk 1 (oe Zf.enc v0 ee)))
theorem Zf8 {x0:Zb} {r:Zb} (h:Zfz x0=some r):Zu Tryz.prog Mo (Yh5 x0 r):=
 Zt Tryz.func157 (Zk [((1,1),(1,0)),((1,2),(1,1024)),((1,4),(2,0))] 8 (lr Zf.enc x0.queue (tp (.num ([].map Zf.enc).length 0 0 []) (ob (show 0=([].map Zf.enc).length from rfl) ee))) (Yjh h))
abbrev Zhx (x0:List Zc) (r:List Zc):Y:=(158,[.tr (x0.map Zc.enc)],.own 158 (r.map Zc.enc),[.undef])
theorem Zus {x0:List Zc} {r:List Zc} (h:Js x0=some r):Zu Tryz.prog Mo (Zhx x0 r):=by
 refine Zt Tryz.func158 ?_;unfold Js at h;cases x0 with
 | nil=>
  obtain rfl:[]=r:=(Z5g h);have hn:CS (Zhx [] []) Tryz.f158 [1,0,0] [(0,.tr [])] []:=Z59 Mo fOk (k:=at_ [1,0,1] (Xd Tryz.f158) []) (x0:=.tmp 0) (d0:=3) (d1:=4) (t:=52) (e:=158) (y:=.const (.slice none 0 0)) (by kernel_rfl) (by kernel_rfl) rfl rfl λb=>by
   cases b with
   | true=>exact rtQ rfl [.k] tt
   | false=>exact rtQ rfl [.k,.app [] true [] 0,.k] (aa (Eq.refl ([]:List (List V))) (aa (Eq.refl true) (aa (Eq.refl true) (aa (Eq.refl 0) (aa (apz 16) (aa (Eq.refl ([]:List (List V))) (aa (Eq.refl 0) (aa (Eq.refl 0) tt))))))))
  exact cutQ [] 4 [] tt hn
 | cons a l=>
  exact rtQ rfl [.k,.app ((a::l).map Zc.enc) true (r.map Zc.enc) (r.map Zc.enc).length,.k] (aa (Vde (Zc.enc a) (l.map Zc.enc)) (aa (Eq.refl ((a::l).map Zc.enc)) (aa (ltr Zc.enc_lit (a::l)) (aa (alr 2 Zc.enc_len (a::l)) (aa (Eq.refl 0) (aa (apl Zc.enc h) (aa (apm0 Zc.enc h) (aa (Z93 Zc.enc r) (aa (Z93 Zc.enc r) tt)))))))))
abbrev Ywt (x0:Zo) (r:Zo):Y:=(215,[.agg (Zo.enc x0)],.agg (Zo.ow r),[.undef])
theorem Ygw {x0:Zo} {r:Zo} (h:Zsu x0=some r):Zu Tryz.prog Mo (Ywt x0 r):=
 Zt Tryz.func215 (bnK h λr0 Zp h=>bnK h λr1 Zw h=>rtK h (rr (Wx Zp) (rr (Wx Zw) (kk 2 (oe Ze r0 (oe Ze r1 ee))))))
abbrev Ypq (x0:Zj) (r:Zj):Y:=(160,[.agg (Zj.enc x0)],.agg (Zj.ow r),[.undef])
theorem Z01 {x0:Zj} {r:Zj} (h:Zh5 x0=some r):Zu Tryz.prog Mo (Ypq x0 r):=
 Zt Tryz.func160 (bnK h λr0 Zp h=>bnK h λr1 Zw h=>rtK h (rr (Wx Zp) (rr (Ygw Zw) (kk 3 (oe Ze r0 (Zo.so r1 ee))))))
abbrev Zmo (x0:List Zn) (r:List Zn):Y:=(161,[.tr (x0.map Zn.enc)],.own 113 (r.map Zn.enc),[.undef])
theorem Zz8 {x0:List Zn} {r:List Zn} (h:Zbb x0=some r):Zu Tryz.prog Mo (Zmo x0 r):=by
 refine Zt Tryz.func161 ?_;unfold Zbb at h;cases x0 with
 | nil=>
  obtain rfl:[]=r:=(Z5g h);have hn:CS (Zmo [] []) Tryz.f161 [1,0,0] [(0,.tr [])] []:=Z59 Mo fOk (k:=at_ [1,0,1] (Xd Tryz.f161) []) (x0:=.tmp 0) (d0:=3) (d1:=4) (t:=28) (e:=113) (y:=.const (.slice none 0 0)) (by kernel_rfl) (by kernel_rfl) rfl rfl λb=>by
   cases b with
   | true=>exact rtQ rfl [.k] tt
   | false=>exact rtQ rfl [.k,.app [] true [] 0,.k] (aa (Eq.refl ([]:List (List V))) (aa (Eq.refl true) (aa (Eq.refl true) (aa (Eq.refl 0) (aa (apz 56) (aa (Eq.refl ([]:List (List V))) (aa (Eq.refl 0) (aa (Eq.refl 0) tt))))))))
  exact cutQ [] 4 [] tt hn
 | cons a l=>
  exact rtQ rfl [.k,.app ((a::l).map Zn.enc) true (r.map Zn.enc) (r.map Zn.enc).length,.k] (aa (Vde (Zn.enc a) (l.map Zn.enc)) (aa (Eq.refl ((a::l).map Zn.enc)) (aa (ltr Zn.enc_lit (a::l)) (aa (alr 7 Zn.enc_len (a::l)) (aa (Eq.refl 0) (aa (apl Zn.enc h) (aa (apm0 Zn.enc h) (aa (Z93 Zn.enc r) (aa (Z93 Zn.enc r) tt)))))))))
abbrev Yhc (x0:Za) (r:Za):Y:=(95,[.agg (Za.enc x0)],.agg (Za.ow r),[.undef])
theorem Yke {x0:Za} {r:Za}:∀{m:Nat} {vb0:Za} {v0:List Zb} {v1:Int},Zhv x0 m vb0 v0 v1=some r->CS (Yhc x0 r) Tryz.f95 [1,1,1,0,1,0] [(1,.ptr (1,1) 0 0),(2,.ptr (1,3) 0 0),(3,.sl (1,12) 0 (v0.map Zb.enc).length),(12,.tr (x0.m.map Zb.enc)),(13,il (x0.m.length:Int)),(14,il v1)] ([rx 2 150 (vb0.conf.masters.map Zd.enc),bx 1 [.sl (1,2) 0 (vb0.conf.masters.map Zd.enc).length,il vb0.conf.quantum,il vb0.conf.maxWait,il vb0.conf.maxRetry,il vb0.conf.maxSplit,il vb0.conf.lockMost,il vb0.now,.tr (vb0.m.map Zb.enc),il vb0.arb.at_,il vb0.arb.credit,.tr (vb0.buckets.map Zc.enc),.tr (vb0.splits.map Ze),il vb0.holder,il vb0.held,il vb0.last,bl vb0.addr.live,il vb0.addr.who,il vb0.addr.beat,bl vb0.addr.first,il vb0.addr.by_,il vb0.addr.left,il vb0.addr.resp,bl vb0.addr.second,bl vb0.data_.live,il vb0.data_.who,il vb0.data_.beat,bl vb0.data_.first,il vb0.data_.by_,il vb0.data_.left,il vb0.data_.resp,bl vb0.data_.second,.tr (vb0.model.mem.map Ze),.tr (vb0.model.dev.regs.map Ze),il vb0.model.dev.timer,.tr (vb0.model.dev.fifo.map Ze),il vb0.picks,.tr (vb0.log.map Zn.enc)]]++Za.bk Za.z0 4++[bx 3 (Za.rl Za.z0 4),rx 12 156 (v0.map Zb.enc)]):=by
 intro m
 induction m with
 | zero=>intro vb0 v0 v1 h;cases h
 | succ m ih=>exactλ{vb0} {v0} {v1} h=>itK h (λg1 h=>bnK h λa0 Zx h=>bnK h λr0 Zp h=>bnK h λz0 Wr h=>Zk (ffi 1 11++[((1,12),(4,4096))]) 13 (gg g1 (xb Zb.enc Zx (rr (Zf8 Zp) (kk 1 (ta Zb.enc [r0] z0 (kk 1 (oe Zf.enc r0.queue (oa 6 Zb.enc_len r0 (ox Zb.enc Wr (ln Zb.enc z0 (oe Zb.enc z0 (ln Zd.enc vb0.conf.masters (Za.sc Za.z0 ee))))))))))))) (ih h)) λg1 h=>bnK h λr1 Zw h=>bnK h λr2 Z6 h=>bnK h λr3 Y5 h=>bnK h λr4 Qz h=>rtK h (gg g1 (rr (Zus Zw) (rr (Wx Z6) (rr (Z01 Y5) (rr (Zz8 Qz) (kk 8 (oe Zd.enc vb0.conf.masters (oe Zb.enc v0 (oe Zc.enc r1 (oe Ze r2 (Zj.so r3 (oe Zn.enc r4 ee))))))))))))
theorem Z6u {x0:Za} {r:Za} (h:Ztl x0=some r):Zu Tryz.prog Mo (Yhc x0 r):=
 Zt Tryz.func95 (bnK h λr5 hr5 h=>Zk [((1,1),(1,0)),((1,2),(2,2048)),((1,3),(1,1024)),((1,12),(3,0))] 10 (rr (Ysv hr5) (lr Zb.enc x0.m (tp (.num ([].map Zb.enc).length 0 0 []) (ob (show 0=([].map Zb.enc).length from rfl) (ln Zd.enc r5.masters ee))))) (Yke h))
abbrev Z9g (x0:Zf) (r:Bool):Y:=(248,[.agg (Zf.enc x0)],bl r,[.undef])
theorem Zw0 {x0:Zf} {r:Bool} (h:Zgm x0=some r):Zu Tryz.prog Mo (Z9g x0 r):=
 Zt Tryz.func248 (bnK h λr0 Zp h=>rtK h (rr (Z86 Zp) ee))
abbrev J6 (x0:List Zf) (r:Int):Y:=(115,[.tr (x0.map Zf.enc),.fn 248 []],il r,[.undef,.undef])
theorem Zev {x0:List Zf} {r:Int}:∀{m:Nat} {v0:Int},W4 x0 m v0=some r->CS (J6 x0 r) Tryz.f115 [1,0,1,0] [(0,.tr (x0.map Zf.enc)),(1,.fn 248 []),(7,il (x0.length:Int)),(8,il v0)] []:=by
 intro m
 induction m with
 | zero=>intro v0 h;cases h
 | succ m ih=>exactλ{v0} h=>itK h (λg1 h=>bnK h λa0 Zx h=>bnK h λr0 Zp h=>itK h (λg2 h=>rtK h (gg g1 (xb Zf.enc Zx (rr (Zw0 Zp) (gg g2 ee))))) λg2 h=>Zk [] 16 (gg g1 (xb Zf.enc Zx (rr (Zw0 Zp) (gg g2 ee)))) (ih h)) λg1 h=>rtK h (gg g1 ee)
theorem Zgw {x0:List Zf} {r:Int} (h:Qt x0=some r):Zu Tryz.prog Mo (J6 x0 r):=
 Zt Tryz.func115 (Zk [] 6 (lr Zf.enc x0 ee) (Zev h))
abbrev Zfk (x0:List Zf) (r:Bool):Y:=(50,[.tr (x0.map Zf.enc),.fn 248 []],bl r,[.undef,.undef])
theorem Zfj {x0:List Zf} {r:Bool} (h:X2 x0=some r):Zu Tryz.prog Mo (Zfk x0 r):=
 Zt Tryz.func50 (bnK h λr0 Zp h=>rtK h (rr (Zgw Zp) ee))
abbrev Ymc (x0:Zb) (r:Int):Y:=(224,[.rp true (Zb.enc x0) 0],il r,[.undef])
theorem Zds {x0:Zb} {r:Int} (h:Zb0 x0=some r):Zu Tryz.prog Mo (Ymc x0 r):=
 Zt Tryz.func224 (itK h (λg1 h=>rtK h (lr Zf.enc x0.queue (gg g1 ee))) λg1 h=>bnK h λa0 Zx h=>bnK h λr0 Zp h=>rtK h (lr Zf.enc x0.queue (gg g1 (xb Zf.enc Zx (rr (Zwd Zp) ee)))))
abbrev Z0t (x0:Zb) (r:Bool):Y:=(216,[.agg (Zb.enc x0)],bl r,[.undef])
theorem Zi6 {x0:Zb} {r:Bool} {v0:Bool} (h:Wt x0 v0=some r):CS (Z0t x0 r) Tryz.f216 [1,0,1] [(1,.ptr (1,1) 0 0),(16,bl v0)] [bx 1 (Zb.enc x0)]:=
 itK h (λg1 h=>rtK h (gg g1 ee)) λg1 h=>have p1 {q p} (k:Scr q p):=(gg g1 (lr Zf.enc x0.queue k));itK h (λg2 h=>itK h (λg3 h=>itK h (λg4 h=>have p2 {q p} (k:Scr q p):=(p1 (gg g2 (gg g3 (kk 3 (gg g4 (kk 3 k))))));itK h (λg5 h=>itK h (λg6 h=>rtK h (p2 (gg g5 (kk 3 (gg g6 (kk 3 ee)))))) λg6 h=>rtK h (p2 (gg g5 (kk 3 (gg g6 (kk 3 ee)))))) λg5 h=>rtK h (p2 (gg g5 (kk 7 ee)))) λg4 h=>rtK h (p1 (gg g2 (gg g3 (kk 3 (gg g4 (kk 11 ee))))))) λg3 h=>rtK h (p1 (gg g2 (gg g3 (kk 15 ee))))) λg2 h=>bnK h λr0 Zp h=>bnK h λr1 Zw h=>itK h (λg3 h=>bnK h λr2 Z6 h=>bnK h λr3 Y5 h=>rtK h (p1 (gg g2 (rr (Zds Zp) (rr (Yi Zw) (gg g3 (kk 7 (rr (Zds Z6) (kk 2 (rr (Yi Y5) (kk 1 ee))))))))))) λg3 h=>rtK h (p1 (gg g2 (rr (Zds Zp) (rr (Yi Zw) (gg g3 (kk 10 ee))))))
theorem Qq {x0:Zb} {r:Bool} (h:Kk x0=some r):Zu Tryz.prog Mo (Z0t x0 r):=
 Zt Tryz.func216 (itK h (λg1 h=>Zk [((1,1),(1,0))] 5 (lr Zf.enc x0.queue (gg g1 (kk 7 ee))) (Zi6 h)) λg1 h=>itK h (λg2 h=>Zk [((1,1),(1,0))] 5 (lr Zf.enc x0.queue (gg g1 (kk 3 (gg g2 (kk 3 ee))))) (Zi6 h)) λg2 h=>bnK h λr4 Qz h=>Zk [((1,1),(1,0))] 5 (lr Zf.enc x0.queue (gg g1 (kk 3 (gg g2 (kk 2 (rr (Zfj Qz) (kk 1 ee))))))) (Zi6 h))
abbrev Ypo (x0:Zc) (x1:Zd) (r:Bool):Y:=(217,[.agg (Zc.enc x0),.agg (Zd.enc x1)],bl r,[.undef,.undef])
theorem Z89 {x0:Zc} {x1:Zd} {r:Bool} (h:Znn x0 x1=some r):Zu Tryz.prog Mo (Ypo x0 x1 r):=
 Zt Tryz.func217 (itK h (λg1 h=>rtK h (gg g1 ee)) λg1 h=>bnK h λr0 Zp h=>itK h (λg2 h=>itK h (λg3 h=>rtK h (gg g1 (rr (Yi Zp) (gg g2 (kk 3 (gg g3 (kk 5 ee))))))) λg3 h=>rtK h (gg g1 (rr (Yi Zp) (gg g2 (kk 3 (gg g3 (kk 5 ee))))))) λg2 h=>rtK h (gg g1 (rr (Yi Zp) (gg g2 (kk 9 ee)))))
abbrev Zmb (x0:Za) (r:Bool):Y:=(162,[.rp true (Za.enc x0) 0],bl r,[.undef])
theorem Z3p {x0:Za} {r:Bool}:∀{m:Nat} {v0:Int},Zg1 x0 m v0=some r->CS (Zmb x0 r) Tryz.f162 [1,1,1,0,1,0] [(0,.rp true (Za.enc x0) 0),(40,.tr (x0.m.map Zb.enc)),(41,il (x0.m.length:Int)),(42,il v0)] []:=by
 intro m
 induction m with
 | zero=>intro v0 h;cases h
 | succ m ih=>exactλ{v0} h=>itK h (λg1 h=>bnK h λa0 Zx h=>bnK h λr0 Zp h=>have p1 {q p} (k:Scr q p):=(gg g1 (xb Zb.enc Zx (rr (Qq Zp) k)));itK h (λg2 h=>rtK h (p1 (gg g2 (kk 42 ee)))) λg2 h=>itK h (λg3 h=>rtK h (p1 (gg g2 (kk 8 (gg g3 (kk 33 ee)))))) λg3 h=>bnK h λa1 Yw h=>bnK h λa2 Kt h=>bnK h λr1 Zw h=>have p2 {q p} (k:Scr q p):=(p1 (gg g2 (kk 8 (gg g3 (kk 5 (xb Zc.enc Yw (kk 8 (xb Zd.enc Kt (kk 2 (rr (Z89 Zw) (kk 2 k)))))))))));itK h (λg4 h=>rtK h (p2 (gg g4 (kk 15 ee)))) λg4 h=>bnK h λa3 ha3 h=>bnK h λr2 Z6 h=>have p3 {q p} (k:Scr q p):=(p2 (gg g4 (kk 5 (xb Ze ha3 (kk 7 (rr (Yi Z6) (kk 2 k)))))));itK h (λg5 h=>rtK h (p3 (gg g5 ee))) λg5 h=>Zk [] 16 (p3 (gg g5 ee)) (ih h)) λg1 h=>rtK h (gg g1 ee)
theorem Zgy {x0:Za} {r:Bool} {v1:Bool} (h:Qs x0 v1=some r):CS (Zmb x0 r) Tryz.f162 [1,1,0,1] [(0,.rp true (Za.enc x0) 0),(36,bl v1)] []:=
 itK h (λg1 h=>rtK h (gg g1 ee)) λg1 h=>Zk [] 6 (gg g1 (lr Zb.enc x0.m ee)) (Z3p h)
theorem Z75 {x0:Za} {r:Bool} (h:Zgd x0=some r):Zu Tryz.prog Mo (Zmb x0 r):=
 Zt Tryz.func162 (have p1 {q p} (k:Scr q p):=(lr Zd.enc x0.conf.masters (lr Zb.enc x0.m k));itK h (λg1 h=>Zk [] 7 (p1 (gg g1 (kk 15 ee))) (Zgy h)) λg1 h=>itK h (λg2 h=>Zk [] 7 (p1 (gg g1 (kk 4 (lr Zc.enc x0.buckets (kk 3 (gg g2 (kk 7 ee))))))) (Zgy h)) λg2 h=>Zk [] 7 (p1 (gg g1 (kk 4 (lr Zc.enc x0.buckets (kk 3 (gg g2 (kk 4 (lr Ze x0.splits (kk 3 ee))))))))) (Zgy h))
abbrev Yn8 (x0:Zl) (x1:Int) (r:Bool):Y:=(124,[.agg (Zl.enc x0),il x1],bl r,[.undef,.undef])
theorem Ze0 {x0:Zl} {x1:Int} {r:Bool} (h:Jf x0 x1=some r):Zu Tryz.prog Mo (Yn8 x0 x1 r):=
 Zt Tryz.func124 (bnK h λr0 Zp h=>rtK h (lr Zd.enc x0.masters (rr (Yi Zp) ee)))
abbrev Yg4 (x0:Zl) (x1:Int) (r:Int):Y:=(218,[.agg (Zl.enc x0),il x1],il r,[.undef,.undef])
theorem Z4a {x0:Zl} {x1:Int} {r:Int} {v0:Bool} (h:Zuy x0 x1 v0=some r):CS (Yg4 x0 x1 r) Tryz.f218 [1,0,1] [(1,il x1),(2,.ptr (1,1) 0 0),(13,bl v0)] [bx 1 (Zl.enc x0)]:=
 itK h (λg1 h=>rtK h (gg g1 ee)) λg1 h=>bnK h λa0 Zx h=>rtK h (gg g1 (xb Zd.enc Zx ee))
theorem Z57 {x0:Zl} {x1:Int} {r:Int} (h:Zok x0 x1=some r):Zu Tryz.prog Mo (Yg4 x0 x1 r):=
 Zt Tryz.func218 (bnK h λr0 Zp h=>itK h (λg1 h=>Zk [((1,1),(1,0))] 5 (rr (Zt5 Zp) (gg g1 (kk 4 ee))) (Z4a h)) λg1 h=>bnK h λr1 Zw h=>Zk [((1,1),(1,0))] 5 (rr (Zt5 Zp) (gg g1 (kk 2 (rr (Ze0 Zw) (kk 2 ee))))) (Z4a h))
abbrev Y08 (x0:Z2) (x1:Zl) (r:Bool):Y:=(163,[.agg (Z2.enc x0),.agg (Zl.enc x1)],bl r,[.undef,.undef])
theorem Zwx {x0:Z2} {x1:Zl} {r:Bool} (h:Znr x0 x1=some r):Zu Tryz.prog Mo (Y08 x0 x1 r):=
 Zt Tryz.func163 (bnK h λr0 Zp h=>itK h (λg1 h=>bnK h λr1 Zw h=>have p1 {q p} (k:Scr q p):=(rr (Zt5 Zp) (gg g1 (kk 3 (rr (Ze0 Zw) (kk 1 k)))));itK h (λg2 h=>bnK h λr2 Z6 h=>bnK h λr3 Y5 h=>rtK h (p1 (gg g2 (kk 5 (rr (Z57 Z6) (kk 1 (rr (Yi Y5) (kk 1 ee)))))))) λg2 h=>rtK h (p1 (gg g2 (kk 7 ee)))) λg1 h=>rtK h (rr (Zt5 Zp) (gg g1 (kk 12 ee))))
abbrev Yyp (x0:Int) (r:Bool):Y:=(249,[il x0],bl r,[.undef])
theorem Yfg {x0:Int} {r:Bool} (h:Zya x0=some r):Zu Tryz.prog Mo (Yyp x0 r):=
 Zt Tryz.func249 (bnK h λr0 Zp h=>rtK h (rr (Yi Zp) ee))
abbrev Zda (x0:List Int) (r:Int):Y:=(189,[.tr (x0.map Ze),.fn 249 []],il r,[.undef,.undef])
theorem Zix {x0:List Int} {r:Int}:∀{m:Nat} {v0:Int},Kl x0 m v0=some r->CS (Zda x0 r) Tryz.f189 [1,0,1,0] [(0,.tr (x0.map Ze)),(1,.fn 249 []),(7,il (x0.length:Int)),(8,il v0)] []:=by
 intro m
 induction m with
 | zero=>intro v0 h;cases h
 | succ m ih=>exactλ{v0} h=>itK h (λg1 h=>bnK h λa0 Zx h=>bnK h λr0 Zp h=>itK h (λg2 h=>rtK h (gg g1 (xb Ze Zx (rr (Yfg Zp) (gg g2 ee))))) λg2 h=>Zk [] 16 (gg g1 (xb Ze Zx (rr (Yfg Zp) (gg g2 ee)))) (ih h)) λg1 h=>rtK h (gg g1 ee)
theorem Zmk {x0:List Int} {r:Int} (h:Jc x0=some r):Zu Tryz.prog Mo (Zda x0 r):=
 Zt Tryz.func189 (Zk [] 6 (lr Ze x0 ee) (Zix h))
abbrev Zj7 (x0:List Int) (r:Bool):Y:=(118,[.tr (x0.map Ze),.fn 249 []],bl r,[.undef,.undef])
theorem Zj0 {x0:List Int} {r:Bool} (h:W0 x0=some r):Zu Tryz.prog Mo (Zj7 x0 r):=
 Zt Tryz.func118 (bnK h λr0 Zp h=>rtK h (rr (Zmk Zp) ee))
abbrev Y32 (x0:List Int) (x1:Int) (x2:Int) (r:Bool):Y:=(219,[.tr (x0.map Ze),il x1,il x2],bl r,[.undef,.undef,.undef])
theorem Zu1 {x0:List Int} {x1:Int} {x2:Int} {r:Bool} (h:Zuu x0 x1 x2=some r):Zu Tryz.prog Mo (Y32 x0 x1 x2 r):=
 Zt Tryz.func219 (itK h (λg1 h=>bnK h λr0 Zp h=>have p1 {q p} (k:Scr q p):=(lr Ze x0 (gg g1 (kk 1 (rr (Zj0 Zp) (kk 2 k)))));itK h (λg2 h=>bnK h λr1 Zw h=>itK h (λg3 h=>bnK h λr2 Z6 h=>rtK h (p1 (gg g2 (kk 2 (rr (Zgx Zw) (kk 1 (gg g3 (kk 2 (lr Ze x0 (kk 2 (rr (Zc1 Z6) (kk 3 ee)))))))))))) λg3 h=>rtK h (p1 (gg g2 (kk 2 (rr (Zgx Zw) (kk 1 (gg g3 (kk 7 ee)))))))) λg2 h=>rtK h (p1 (gg g2 (kk 11 ee)))) λg1 h=>rtK h (lr Ze x0 (gg g1 (kk 15 ee))))
abbrev Yue (x0:Int) (r:Bool):Y:=(250,[il x0],bl r,[.undef])
theorem Yb1 {x0:Int} {r:Bool} (h:Zve x0=some r):Zu Tryz.prog Mo (Yue x0 r):=
 Zt Tryz.func250 (bnK h λr0 Zp h=>rtK h (rr (Zne Zp) ee))
abbrev Zct (x0:List Int) (r:Int):Y:=(189,[.tr (x0.map Ze),.fn 250 []],il r,[.undef,.undef])
theorem Zil {x0:List Int} {r:Int}:∀{m:Nat} {v0:Int},Q8 x0 m v0=some r->CS (Zct x0 r) Tryz.f189 [1,0,1,0] [(0,.tr (x0.map Ze)),(1,.fn 250 []),(7,il (x0.length:Int)),(8,il v0)] []:=by
 intro m
 induction m with
 | zero=>intro v0 h;cases h
 | succ m ih=>exactλ{v0} h=>itK h (λg1 h=>bnK h λa0 Zx h=>bnK h λr0 Zp h=>itK h (λg2 h=>rtK h (gg g1 (xb Ze Zx (rr (Yb1 Zp) (gg g2 ee))))) λg2 h=>Zk [] 16 (gg g1 (xb Ze Zx (rr (Yb1 Zp) (gg g2 ee)))) (ih h)) λg1 h=>rtK h (gg g1 ee)
theorem Zl8 {x0:List Int} {r:Int} (h:K5 x0=some r):Zu Tryz.prog Mo (Zct x0 r):=
 Zt Tryz.func189 (Zk [] 6 (lr Ze x0 ee) (Zil h))
abbrev Zjq (x0:List Int) (r:Bool):Y:=(118,[.tr (x0.map Ze),.fn 250 []],bl r,[.undef,.undef])
theorem Zbh {x0:List Int} {r:Bool} (h:X1 x0=some r):Zu Tryz.prog Mo (Zjq x0 r):=
 Zt Tryz.func118 (bnK h λr0 Zp h=>rtK h (rr (Zl8 Zp) ee))
abbrev Y1t (x0:Zo) (r:Bool):Y:=(220,[.agg (Zo.enc x0)],bl r,[.undef])
theorem Ylr {x0:Zo} {r:Bool} (h:Zw7 x0=some r):Zu Tryz.prog Mo (Y1t x0 r):=
 Zt Tryz.func220 (itK h (λg1 h=>have p1 {q p} (k:Scr q p):=(lr Ze x0.regs (gg g1 (kk 2 (lr Ze x0.fifo (kk 2 k)))));itK h (λg2 h=>bnK h λr0 Zp h=>have p2 {q p} (k:Scr q p):=(p1 (gg g2 (kk 3 (rr (Zbh Zp) (kk 2 k)))));itK h (λg3 h=>bnK h λr1 Zw h=>have p3 {q p} (k:Scr q p):=(p2 (gg g3 (kk 3 (rr (Zbh Zw) (kk 2 k)))));itK h (λg4 h=>bnK h λr2 Z6 h=>rtK h (p3 (gg g4 (kk 2 (rr (Zne Z6) (kk 1 ee)))))) λg4 h=>rtK h (p3 (gg g4 (kk 3 ee)))) λg3 h=>rtK h (p2 (gg g3 (kk 9 ee)))) λg2 h=>rtK h (p1 (gg g2 (kk 15 ee)))) λg1 h=>rtK h (lr Ze x0.regs (gg g1 (kk 20 ee))))
abbrev Yt3 (x0:Zj) (r:Bool):Y:=(164,[.agg (Zj.enc x0)],bl r,[.undef])
theorem Z20 {x0:Zj} {r:Bool} (h:Zgz x0=some r):Zu Tryz.prog Mo (Yt3 x0 r):=
 Zt Tryz.func164 (itK h (λg1 h=>bnK h λr0 Zp h=>itK h (λg2 h=>bnK h λr1 Zw h=>rtK h (lr Ze x0.mem (gg g1 (kk 2 (rr (Zu1 Zp) (kk 1 (gg g2 (kk 2 (rr (Ylr Zw) (kk 1 ee)))))))))) λg2 h=>rtK h (lr Ze x0.mem (gg g1 (kk 2 (rr (Zu1 Zp) (kk 1 (gg g2 (kk 3 ee)))))))) λg1 h=>rtK h (lr Ze x0.mem (gg g1 (kk 7 ee))))
abbrev Yjv (x0:Zh) (r:Bool):Y:=(252,[.agg (Zh.enc x0)],bl r,[.undef])
theorem Zuv {x0:Zh} {r:Bool} (h:Zoo x0=some r):Zu Tryz.prog Mo (Yjv x0 r):=
 Zt Tryz.func252 (rtK h ee)
abbrev Za1 (x0:List Zh) (r:Int):Y:=(264,[.tr (x0.map Zh.enc),.fn 252 []],il r,[.undef,.undef])
theorem Zfq {x0:List Zh} {r:Int}:∀{m:Nat} {v0:Int},Qf x0 m v0=some r->CS (Za1 x0 r) Tryz.f264 [1,0,1,0] [(0,.tr (x0.map Zh.enc)),(1,.fn 252 []),(7,il (x0.length:Int)),(8,il v0)] []:=by
 intro m
 induction m with
 | zero=>intro v0 h;cases h
 | succ m ih=>exactλ{v0} h=>itK h (λg1 h=>bnK h λa0 Zx h=>bnK h λr0 Zp h=>itK h (λg2 h=>rtK h (gg g1 (xb Zh.enc Zx (rr (Zuv Zp) (gg g2 ee))))) λg2 h=>Zk [] 16 (gg g1 (xb Zh.enc Zx (rr (Zuv Zp) (gg g2 ee)))) (ih h)) λg1 h=>rtK h (gg g1 ee)
theorem Zh7 {x0:List Zh} {r:Int} (h:Q0 x0=some r):Zu Tryz.prog Mo (Za1 x0 r):=
 Zt Tryz.func264 (Zk [] 6 (lr Zh.enc x0 ee) (Zfq h))
abbrev Zaj (x0:List Zh) (r:List Zh):Y:=(251,[.own 54 (x0.map Zh.enc),.fn 252 []],.own 54 (r.map Zh.enc),[.undef,.undef])
theorem Zfm {x0:List Zh} {r:List Zh}:∀{m:Nat} {v0:List Zh} {v1:Int} {v2:Int},W8 x0 m v0 v1 v2=some r->CS (Zaj x0 r) Tryz.f251 [1,1,1,0,1,0] [(0,.sl (1,1) 0 (v0.map Zh.enc).length),(1,.fn 252 []),(5,il v1),(6,il v2)] [rx 1 54 (v0.map Zh.enc)]:=by
 intro m
 induction m with
 | zero=>intro v0 v1 v2 h;cases h
 | succ m ih=>exactλ{v0} {v1} {v2} h=>itK h (λg1 h=>bnK h λa0 Zx h=>bnK h λr0 Zp h=>have p1 {q p} (k:Scr q p):=(lr Zh.enc v0 (gg g1 (xd Zh.enc Zx (rr (Zuv Zp) k))));itK h (λg2 h=>bnK h λa1 Yw h=>bnK h λy0 Wc h=>Zk [((1,1),(1,1))] 18 (p1 (gg g2 (xp Zh.enc Yw Wc (tp (.num (y0.map Zh.enc).length 0 0 []) (ob (Qi Zh.enc Wc) ee))))) (ih h)) λg2 h=>Zk [((1,1),(1,1))] 16 (p1 (gg g2 (ln Zh.enc v0 ee))) (ih h)) λg1 h=>bnK h λs0 hs0 h=>bnK h λy1 hy1 h=>bnK h λs1 hs1 h=>rtK h (lr Zh.enc v0 (gg g1 (tp (.num (v1:Int).toNat ((v0.length:Int):Int).toNat (((v0.length:Int):Int).toNat - (v1:Int).toNat) []) (kk 1 (tp (.app (y1.map Zh.enc) true [] 0) (tp (.num (0:Int).toNat (v1:Int).toNat ((v1:Int).toNat - (0:Int).toNat) []) (kk 1 (tp (.mk 0 (s1.map Zh.enc)) (oe Zh.enc v0 (ob (sln hs0).1 (ob (Yj2 Zh.enc v0) (ob (sll Zh.enc hs0) (ob (alr 8 Zh.enc_len v0) (ob (Eq.refl (((v0.length:Int):Int).toNat - (v1:Int).toNat)) (ob (clrl Zh.enc hy1) (ob (clrr Zh.enc hy1) (ob (clrs Zh.enc hy1) (ob (Eq.refl 0) (ob (sln hs1).2 (ob (sll Zh.enc hs1) (ob (alr 8 Zh.enc_len y1) (ob (Eq.refl ((v1:Int).toNat - (0:Int).toNat)) (ob (sla Zh.enc hs1) (ob (slr Zh.enc hs1) ee))))))))))))))))))))))))
theorem Zhe {x0:List Zh} {r:List Zh} (h:Wj x0=some r):Zu Tryz.prog Mo (Zaj x0 r):=
 Zt Tryz.func251 (bnK h λr1 Zw h=>have p1 {q p} (k:Scr q p):=(kk 1 (oe Zh.enc x0 (rr (Zh7 Zw) k)));itK h (λg1 h=>rtK h (p1 (gg g1 (kk 1 (oe Zh.enc x0 ee))))) λg1 h=>Zk [((1,1),(0,0))] 13 (p1 (gg g1 (ln Zh.enc x0 ee))) (Zfm h))
abbrev Ynn (x0:Za) (r:List Zh):Y:=(221,[.rp true (Za.enc x0) 0],.own 54 (r.map Zh.enc),[.undef])
theorem Yp7 {x0:Za} {r:List Zh} (h:Zrw x0=some r):Zu Tryz.prog Mo (Ynn x0 r):=
 Zt Tryz.func221 (bnK h λr0 Zp h=>rtK h (kk 1 (ob (show 2=([x0.addr,x0.data_].map Zh.enc).length from rfl) (rr (Zhe Zp) (kk 1 (oe Zh.enc r0 ee))))))
abbrev Km (x0:Za) (r:Bool):Y:=(165,[.rp true (Za.enc x0) 0],bl r,[.undef])
theorem Zi7 {x0:Za} {r:Bool} {k_L1:(List Int)->(List Zh)->Int->Int->Option Bool} (i_L1:∀{v0:List Int} {v1:List Zh} {v2:Int} {v3:Int},k_L1 v0 v1 v2 v3=some r->CS (Km x0 r) Tryz.f165 [1,1,0,1,0] [(0,.rp true (Za.enc x0) 0),(3,.sl (1,1) 0 (v0.map Ze).length),(18,.sl (1,2) 0 (v1.map Zh.enc).length),(19,il v2),(20,il v3)] [rx 1 3 (v0.map Ze),rx 2 54 (v1.map Zh.enc)]) {vb0:Zh} {v0:List Int} {v1:List Zh} {v2:Int} {v3:Int} {v4:Bool} (h:Ko x0 k_L1 vb0 v0 v1 v2 v3 v4=some r):CS (Km x0 r) Tryz.f165 [1,1,0,1,0,0,1,1,0,0,1,0,1] [(0,.rp true (Za.enc x0) 0),(3,.sl (1,2) 0 (v0.map Ze).length),(5,.ptr (1,1) 0 0),(18,.sl (1,3) 0 (v1.map Zh.enc).length),(19,il v2),(20,il v3),(48,bl v4)] [bx 1 (Zh.enc vb0),rx 2 3 (v0.map Ze),rx 3 54 (v1.map Zh.enc)]:=
 itK h (λg1 h=>rtK h (gg g1 ee)) λg1 h=>bnK h λa0 Zx h=>bnK h λy0 Wc h=>Zk [((1,1),(1,2)),((1,2),(1,3))] 5 (gg g1 (xd Ze Zx (xp Ze Zx Wc (tp (.num (y0.map Ze).length 0 0 []) (ob (Qi Ze Wc) (ln Zh.enc v1 ee)))))) (i_L1 h)
theorem Zi0 {x0:Za} {r:Bool} {v5:Bool} (h:Qn x0 v5=some r):CS (Km x0 r) Tryz.f165 [1,1,1,1,1,1,1,1,0,0,1,1,1,1,1] [(0,.rp true (Za.enc x0) 0),(9,.ptr (1,1) 0 0),(179,bl v5)] [bx 1 (Zh.enc x0.data_)]:=
 itK h (λg1 h=>rtK h (gg g1 ee)) λg1 h=>itK h (λg2 h=>rtK h (gg g1 (gg g2 (kk 7 ee)))) λg2 h=>itK h (λg3 h=>itK h (λg4 h=>rtK h (gg g1 (gg g2 (kk 3 (gg g3 (kk 5 (gg g4 (kk 8 ee)))))))) λg4 h=>rtK h (gg g1 (gg g2 (kk 3 (gg g3 (kk 5 (gg g4 (kk 8 ee)))))))) λg3 h=>rtK h (gg g1 (gg g2 (kk 3 (gg g3 (kk 14 ee)))))
theorem Zsh {x0:Za} {r:Bool} {vb1:Zb} {v6:Bool} (h:Zbr x0 vb1 v6=some r):CS (Km x0 r) Tryz.f165 [1,1,1,1,1,1,1,1,0,0,1,1,1] [(0,.rp true (Za.enc x0) 0),(9,.ptr (1,1) 0 0),(10,.ptr (1,2) 0 0),(165,bl v6)] [bx 1 (Zh.enc x0.data_),bx 2 (Zb.enc vb1)]:=
 itK h (λg1 h=>rtK h (gg g1 ee)) λg1 h=>itK h (λg2 h=>itK h (λg3 h=>Zk [((1,1),(1,1))] 3 (gg g1 (gg g2 (kk 2 (gg g3 (kk 9 ee))))) (Zi0 h)) λg3 h=>Zk [((1,1),(1,1))] 3 (gg g1 (gg g2 (kk 2 (gg g3 (kk 9 ee))))) (Zi0 h)) λg2 h=>Zk [((1,1),(1,1))] 3 (gg g1 (gg g2 (kk 4 ee))) (Zi0 h)
theorem Zjs {x0:Za} {r:Bool} {vb1:Zb} {v7:Bool} (h:Jv x0 vb1 v7=some r):CS (Km x0 r) Tryz.f165 [1,1,1,1,1,1,1,1,0,0,1] [(0,.rp true (Za.enc x0) 0),(9,.ptr (1,1) 0 0),(10,.ptr (1,2) 0 0),(141,bl v7)] [bx 1 (Zh.enc x0.data_),bx 2 (Zb.enc vb1)]:=
 itK h (λg1 h=>rtK h (gg g1 ee)) λg1 h=>itK h (λg2 h=>Zk [((1,1),(1,1)),((1,2),(1,2))] 3 (gg g1 (gg g2 (kk 8 ee))) (Zsh h)) λg2 h=>Zk [((1,1),(1,1)),((1,2),(1,2))] 3 (gg g1 (gg g2 (kk 8 ee))) (Zsh h)
theorem Qm {x0:Za} {r:Bool} {v8:Bool} (h:Xh x0 v8=some r):CS (Km x0 r) Tryz.f165 [1,1,1,1,0,1,1] [(0,.rp true (Za.enc x0) 0),(122,bl v8)] []:=
 itK h (λg1 h=>rtK h (gg g1 ee)) λg1 h=>itK h (λg2 h=>rtK h (gg g1 (gg g2 ee))) λg2 h=>bnK h λa1 Yw h=>have p1 {q p} (k:Scr q p):=(gg g1 (gg g2 (xb Zb.enc Yw k)));itK h (λg3 h=>Zk [((1,1),(2,4096)),((1,2),(4,8192))] 15 (p1 (gg g3 (kk 15 ee))) (Zjs h)) λg3 h=>bnK h λr0 Zp h=>itK h (λg4 h=>Zk [((1,1),(2,4096)),((1,2),(4,8192))] 15 (p1 (gg g3 (kk 8 (rr (Yi Zp) (kk 2 (gg g4 (kk 4 ee))))))) (Zjs h)) λg4 h=>bnK h λr1 Zw h=>Zk [((1,1),(2,4096)),((1,2),(4,8192))] 15 (p1 (gg g3 (kk 8 (rr (Yi Zp) (kk 2 (gg g4 (kk 2 (rr (Yi Zw) (kk 2 ee))))))))) (Zjs h)
end Go.Proofs.YtagdmghmblplbaaGreat.Ev
