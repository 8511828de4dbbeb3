/- A part of the proof of FnExactBusStep: see the text YtagdmghmblplbaaGreatLawFnExactBusStep for what is proved and its conditions. Conditions here: those in each line. -/
import Derived.Test.YtagdmghmblplbaaGreatA5
set_option linter.unusedSimpArgs false
set_option linter.unusedVariables false
set_option linter.unusedSectionVars false
namespace Go.Proofs.YtagdmghmblplbaaGreat.Ev
open Go Go.Proofs
variable [Anchor]
theorem Zyu {x0:Za} {x1:Zi} {r:Za} {vb0:Zg} (h:Zel x0 x1 vb0=some r):CS (Za9 x0 x1 r) Tryz.f152 [1,1,1,1,1,1,1,1,1,1,1,1,1] [(2,.ptr (1,1) 0 0),(4,.ptr (1,10) 0 0),(5,.ptr (1,19) 0 0)] (Za.bk {x0 with addr:=Zg.z0} 2++[bx 1 (Za.rl {x0 with addr:=Zg.z0} 2)]++Za.bk Za.z0 11++[bx 10 (Za.rl Za.z0 11),bx 19 (Zg.enc vb0)]):=
 rtK h (kk 8 (Za.so x0 ee))
theorem Zek {x0:Za} {x1:Zi} {r:Za} {vb0:Zg} {v0:Bool} (h:Kk x0 x1 vb0 v0=some r):CS (Za9 x0 x1 r) Tryz.f152 [1,1,1,1,1,1,1,1,1,1,1,1,0,1] [(2,.ptr (1,1) 0 0),(4,.ptr (1,10) 0 0),(5,.ptr (1,19) 0 0),(128,bl v0)] (Za.bk {x0 with addr:=Zg.z0} 2++[bx 1 (Za.rl {x0 with addr:=Zg.z0} 2)]++Za.bk Za.z0 11++[bx 10 (Za.rl Za.z0 11),bx 19 (Zg.enc vb0)]):=
 itK h (λg1 h=>Zj (ffi 1 19) 2 (gg g1 (Za.sc {x0 with addr:=Zg.z0} (Za.sc Za.z0 ee))) (Zyu h)) λg1 h=>Zj (ffi 1 19) 2 (gg g1 (Za.sc {x0 with addr:=Zg.z0} (Za.sc Za.z0 ee))) (Zyu h)
theorem Zz5 {x0:Za} {x1:Zi} {r:Za} {vb0:Zg} {vb1:Zb} {v1:Int} {v2:Int} (h:Zci x0 x1 vb0 vb1 v1 v2=some r):CS (Za9 x0 x1 r) Tryz.f152 [1,1,1,1,1,1,1,1,1,1,1,1] [(2,.ptr (1,1) 0 0),(4,.ptr (1,10) 0 0),(5,.ptr (1,19) 0 0),(6,.ptr (1,20) 0 0),(9,il v1),(10,il v2)] (Za.bk {x0 with addr:=Zg.z0} 2++[bx 1 (Za.rl {x0 with addr:=Zg.z0} 2)]++Za.bk Za.z0 11++[bx 10 (Za.rl Za.z0 11),bx 19 (Zg.enc vb0),bx 20 (Zb.enc vb1)]):=
 itK h (λg1 h=>itK h (λg2 h=>itK h (λg3 h=>itK h (λg4 h=>Zj (ffi 1 19) 3 (gg g1 (kk 2 (gg g2 (kk 2 (gg g3 (kk 3 (gg g4 (kk 5 (Za.sc {x0 with addr:=Zg.z0} (Za.sc Za.z0 ee)))))))))) (Zek h)) λg4 h=>Zj (ffi 1 19) 3 (gg g1 (kk 2 (gg g2 (kk 2 (gg g3 (kk 3 (gg g4 (kk 5 (Za.sc {x0 with addr:=Zg.z0} (Za.sc Za.z0 ee)))))))))) (Zek h)) λg3 h=>Zj (ffi 1 19) 3 (gg g1 (kk 2 (gg g2 (kk 2 (gg g3 (kk 9 (Za.sc {x0 with addr:=Zg.z0} (Za.sc Za.z0 ee)))))))) (Zek h)) λg2 h=>Zj (ffi 1 19) 3 (gg g1 (kk 2 (gg g2 (kk 12 (Za.sc {x0 with addr:=Zg.z0} (Za.sc Za.z0 ee)))))) (Zek h)) λg1 h=>Zj (ffi 1 19) 3 (gg g1 (kk 15 (Za.sc {x0 with addr:=Zg.z0} (Za.sc Za.z0 ee)))) (Zek h)
theorem Zet {x0:Za} {x1:Zi} {r:Za} {vb0:Zg} {vb1:Zb} {v1:Int} {v2:Int} {v3:Bool} (h:Kn x0 x1 vb0 vb1 v1 v2 v3=some r):CS (Za9 x0 x1 r) Tryz.f152 [1,1,1,1,1,1,1,1,1,1,1,0,1] [(2,.ptr (1,1) 0 0),(4,.ptr (1,10) 0 0),(5,.ptr (1,19) 0 0),(6,.ptr (1,20) 0 0),(9,il v1),(10,il v2),(104,bl v3)] (Za.bk {x0 with addr:=Zg.z0} 2++[bx 1 (Za.rl {x0 with addr:=Zg.z0} 2)]++Za.bk Za.z0 11++[bx 10 (Za.rl Za.z0 11),bx 19 (Zg.enc vb0),bx 20 (Zb.enc vb1)]):=
 itK h (λg1 h=>Zj (ffi 1 20) 2 (gg g1 (Za.sc {x0 with addr:=Zg.z0} (Za.sc Za.z0 ee))) (Zz5 h)) λg1 h=>Zj (ffi 1 20) 2 (gg g1 (Za.sc {x0 with addr:=Zg.z0} (Za.sc Za.z0 ee))) (Zz5 h)
theorem Zzu {x0:Za} {x1:Zi} {r:Za} {vb0:Zg} {vb1:Zb} {v1:Int} {v2:Int} (h:Zcc x0 x1 vb0 vb1 v1 v2=some r):CS (Za9 x0 x1 r) Tryz.f152 [1,1,1,1,1,1,1,1,1,1,1] [(2,.ptr (1,1) 0 0),(4,.ptr (1,10) 0 0),(5,.ptr (1,19) 0 0),(6,.ptr (1,20) 0 0),(9,il v1),(10,il v2)] (Za.bk {x0 with addr:=Zg.z0} 2++[bx 1 (Za.rl {x0 with addr:=Zg.z0} 2)]++Za.bk Za.z0 11++[bx 10 (Za.rl Za.z0 11),bx 19 (Zg.enc vb0),bx 20 (Zb.enc vb1)]):=
 itK h (λg1 h=>itK h (λg2 h=>itK h (λg3 h=>Zj (ffi 1 20) 3 (gg g1 (kk 2 (gg g2 (kk 2 (gg g3 (kk 11 (Za.sc {x0 with addr:=Zg.z0} (Za.sc Za.z0 ee)))))))) (Zet h)) λg3 h=>itK h (λg4 h=>Zj (ffi 1 20) 3 (gg g1 (kk 2 (gg g2 (kk 2 (gg g3 (kk 4 (gg g4 (kk 6 (Za.sc {x0 with addr:=Zg.z0} (Za.sc Za.z0 ee)))))))))) (Zet h)) λg4 h=>Zj (ffi 1 20) 3 (gg g1 (kk 2 (gg g2 (kk 2 (gg g3 (kk 4 (gg g4 (kk 6 (Za.sc {x0 with addr:=Zg.z0} (Za.sc Za.z0 ee)))))))))) (Zet h)) λg2 h=>Zj (ffi 1 20) 3 (gg g1 (kk 2 (gg g2 (kk 11 (Za.sc {x0 with addr:=Zg.z0} (Za.sc Za.z0 ee)))))) (Zet h)) λg1 h=>Zj (ffi 1 20) 3 (gg g1 (kk 14 (Za.sc {x0 with addr:=Zg.z0} (Za.sc Za.z0 ee)))) (Zet h)
theorem Zy5 {x0:Za} {x1:Zi} {r:Za} {vb0:Zg} {vb1:Zb} {v1:Int} {v2:Int} {v4:Bool} (h:Zb8 x0 x1 vb0 vb1 v1 v2 v4=some r):CS (Za9 x0 x1 r) Tryz.f152 [1,1,1,1,1,1,1,1,1,1,0,1] [(2,.ptr (1,1) 0 0),(4,.ptr (1,10) 0 0),(5,.ptr (1,19) 0 0),(6,.ptr (1,20) 0 0),(9,il v1),(10,il v2),(77,bl v4)] (Za.bk {x0 with addr:=Zg.z0} 2++[bx 1 (Za.rl {x0 with addr:=Zg.z0} 2)]++Za.bk Za.z0 11++[bx 10 (Za.rl Za.z0 11),bx 19 (Zg.enc vb0),bx 20 (Zb.enc vb1)]):=
 itK h (λg1 h=>Zj (ffi 1 20) 2 (gg g1 (Za.sc {x0 with addr:=Zg.z0} (Za.sc Za.z0 ee))) (Zzu h)) λg1 h=>Zj (ffi 1 20) 2 (gg g1 (Za.sc {x0 with addr:=Zg.z0} (Za.sc Za.z0 ee))) (Zzu h)
theorem Zzg {x0:Za} {x1:Zi} {r:Za} {vb0:Zg} {vb1:Zb} {v1:Int} {v2:Int} (h:Zck x0 x1 vb0 vb1 v1 v2=some r):CS (Za9 x0 x1 r) Tryz.f152 [1,1,1,1,1,1,1,1,1,1] [(2,.ptr (1,1) 0 0),(4,.ptr (1,10) 0 0),(5,.ptr (1,19) 0 0),(6,.ptr (1,20) 0 0),(9,il v1),(10,il v2)] (Za.bk {x0 with addr:=Zg.z0} 2++[bx 1 (Za.rl {x0 with addr:=Zg.z0} 2)]++Za.bk Za.z0 11++[bx 10 (Za.rl Za.z0 11),bx 19 (Zg.enc vb0),bx 20 (Zb.enc vb1)]):=
 itK h (λg1 h=>Zj (ffi 1 20) 3 (gg g1 (kk 3 (Za.sc {x0 with addr:=Zg.z0} (Za.sc Za.z0 ee)))) (Zy5 h)) λg1 h=>Zj (ffi 1 20) 3 (gg g1 (kk 3 (Za.sc {x0 with addr:=Zg.z0} (Za.sc Za.z0 ee)))) (Zy5 h)
theorem Zzi {x0:Za} {x1:Zi} {r:Za} {vb2:Zb} {vb3:Zf} {v5:Int} {v1:Int} {v2:Int} {v6:Bool} (h:Zcj x0 x1 vb2 vb3 v5 v1 v2 v6=some r):CS (Za9 x0 x1 r) Tryz.f152 [1,1,1,1,1,1,1,1,1,0,0,1] [(2,.ptr (1,1) 0 0),(3,.ptr (1,10) 0 0),(4,.ptr (1,11) 0 0),(5,.ptr (1,20) 0 0),(6,.ptr (1,21) 0 0),(7,.ptr (1,22) 0 0),(8,il v5),(9,il v1),(10,il v2),(63,bl v6)] (Za.bk {x0 with addr:=Zg.z0} 2++[bx 1 (Za.rl {x0 with addr:=Zg.z0} 2),bx 10 (Zi.enc x1)]++Za.bk Za.z0 12++[bx 11 (Za.rl Za.z0 12),bx 20 (Zg.enc x0.addr),bx 21 (Zb.enc vb2),bx 22 (Zf.enc vb3)]):=
 itK h (λg1 h=>Zj (ffi 1 9++[((1,10),(1,11)),((1,11),(1,12)),((1,12),(1,13)),((1,13),(1,14)),((1,14),(1,15)),((1,15),(1,16)),((1,16),(1,17)),((1,17),(1,18)),((1,18),(1,19)),((1,19),(1,20)),((1,20),(1,21))]) 3 (gg g1 (Za.sc {x0 with addr:=Zg.z0} (Za.sc Za.z0 ee))) (Zzg h)) λg1 h=>bnK h λr0 Zo h=>bnK h λr1 Zw h=>bnK h λr2 Z6 h=>Zj (ffi 1 9++[((1,10),(1,11)),((1,11),(1,12)),((1,12),(1,13)),((1,13),(1,14)),((1,14),(1,15)),((1,15),(1,16)),((1,16),(1,17)),((1,17),(1,18)),((1,18),(1,19)),((1,19),(1,20)),((1,20),(1,21))]) 5 (gg g1 (kk 1 (oe Zd.enc x0.conf.masters (rr (Ywy Zo) (rr (Z7u Zw) (kk 3 (Zh.so x0.model (rr (Ybv Z6) (Za.sc {x0 with addr:=Zg.z0} (Za.sc Za.z0 ee)))))))))) (Zzg h)
theorem Yoy {x0:Za} {x1:Zi} {r:Za} (h:Zr4 x0 x1=some r):Zu Tryz.prog Mo (Za9 x0 x1 r):=
 Zs Tryz.func152 (itK h (λg1 h=>rtK h (gg g1 (kk 8 (Za.so x0 ee)))) λg1 h=>bnK h λa0 Zz h=>bnK h λa1 Yv h=>bnK h λr3 Y7 h=>bnK h λr4 Q5 h=>bnK h λr5 hr5 h=>have p1 {q p} (k:Scr q p):=(gg g1 (xd Zb.enc Zz (xb Zf.enc Yv (rr (Zo4 Y7) (rr (Z3d Q5) (rr (Yw2 hr5) k))))));itK h (λg2 h=>Zj ([((1,1),(1,0))]++Za.ff 2 0 0++[((1,10),(1,1024)),((1,11),(1,2048)),((1,20),(2,2048)),((1,21),(5,6144)),((1,22),(6,4096))]) 25 (p1 (gg g2 (kk 2 (Za.sc {x0 with addr:=Zg.z0} ee)))) (Zzi h)) λg2 h=>Zj ([((1,1),(1,0))]++Za.ff 2 0 0++[((1,10),(1,1024)),((1,11),(1,2048)),((1,20),(2,2048)),((1,21),(5,6144)),((1,22),(6,4096))]) 25 (p1 (gg g2 (kk 2 (Za.sc {x0 with addr:=Zg.z0} ee)))) (Zzi h))
abbrev Yo4 (x0:Zb) (r:Bool):Y:=(207,[.agg (Zb.enc x0)],bl r,[.undef])
theorem Zzc {x0:Zb} {r:Bool} (h:Zmd x0=some r):Zu Tryz.prog Mo (Yo4 x0 r):=
 Zs Tryz.func207 (bnK h λr0 Zo h=>itK h (λg1 h=>bnK h λr1 Zw h=>rtK h (rr (J7 Zo) (gg g1 (kk 3 (rr (Ze5 Zw) (kk 2 ee)))))) λg1 h=>rtK h (rr (J7 Zo) (gg g1 (kk 5 ee))))
abbrev Z34 (x0:Zc) (x1:Zd) (r:Zc×Bool):Y:=(208,[.agg (Zc.enc x0),.agg (Zd.enc x1)],.tup [.agg (Zc.enc r.1),bl r.2],[.undef,.undef])
theorem Zm3 {x0:Zc} {x1:Zd} {r:Zc×Bool} {v0:Bool} (h:Zc4 x0 x1 v0=some r):CS (Z34 x0 x1 r) Tryz.f208 [1,0,1] [(2,.ptr (1,1) 0 0),(4,.ptr (1,2) 0 0),(19,bl v0)] [bx 1 (Zc.enc x0),bx 2 (Zc.enc Zc.z0)]:=
 itK h (λg1 h=>rtK h (gg g1 ee)) λg1 h=>rtK h (gg g1 ee)
theorem Yjf {x0:Zc} {x1:Zd} {r:Zc×Bool} (h:Zoe x0 x1=some r):Zu Tryz.prog Mo (Z34 x0 x1 r):=
 Zs Tryz.func208 (itK h (λg1 h=>Zj [((1,1),(1,0)),((1,2),(1,2048))] 5 (gg g1 (kk 8 ee)) (Zm3 h)) λg1 h=>bnK h λr0 Zo h=>itK h (λg2 h=>Zj [((1,1),(1,0)),((1,2),(1,2048))] 5 (gg g1 (kk 2 (rr (Zne Zo) (kk 2 (gg g2 (kk 3 ee)))))) (Zm3 h)) λg2 h=>Zj [((1,1),(1,0)),((1,2),(1,2048))] 5 (gg g1 (kk 2 (rr (Zne Zo) (kk 2 (gg g2 (kk 3 ee)))))) (Zm3 h))
abbrev Z7l (x0:Zb) (r:Zb×Bool):Y:=(210,[.agg (Zb.enc x0)],.tup [.agg [.own 104 (r.1.queue.map Zf.enc),il r.1.beat,il r.1.done,il r.1.tries,bl r.1.parted,bl r.1.broken],bl r.2],[.undef])
theorem Zyw {x0:Zb} {r:Zb×Bool} {vb0:Zb} {v0:Bool} (h:Zjd x0 vb0 v0=some r):CS (Z7l x0 r) Tryz.f210 [1,1,0,1] [(2,.ptr (1,1) 0 0),(4,.ptr (1,3) 0 0),(17,bl v0)] [rx 2 104 ([].map Zf.enc),bx 1 [.sl (1,2) 0 ([].map Zf.enc).length,il 0,il 0,il 0,bl false,bl false],rx 4 104 (vb0.queue.map Zf.enc),bx 3 [.sl (1,4) 0 (vb0.queue.map Zf.enc).length,il vb0.beat,il vb0.done,il vb0.tries,bl vb0.parted,bl vb0.broken]]:=
 itK h (λg1 h=>rtK h (gg g1 (kk 1 (oe Zf.enc vb0.queue ee)))) λg1 h=>rtK h (gg g1 (kk 1 (oe Zf.enc vb0.queue ee)))
theorem Yne {x0:Zb} {r:Zb×Bool} (h:Zsg x0=some r):Zu Tryz.prog Mo (Z7l x0 r):=
 Zs Tryz.func210 (bnK h λr0 Zo h=>bnK h λr1 Zw h=>itK h (λg1 h=>Zj [((1,1),(1,1024)),((1,3),(2,2048)),((1,4),(2,1024))] 7 (rr (Zd9 Zo) (rr (Zzc Zw) (gg g1 (kk 6 (ln Zf.enc r0.queue ee))))) (Zyw h)) λg1 h=>Zj [((1,1),(1,1024)),((1,3),(2,2048)),((1,4),(2,1024))] 7 (rr (Zd9 Zo) (rr (Zzc Zw) (gg g1 (kk 6 (ln Zf.enc r0.queue ee))))) (Zyw h))
abbrev Zuy (x0:Z2) (x1:Zk) (x2:List Bool) (r:Z2×Int):Y:=(209,[.agg (Z2.enc x0),.agg (Zk.enc x1),.tr (x2.map Z8)],.tup [.agg (Z2.enc r.1),il r.2],[.undef,.undef,.undef])
theorem Yg1 {x0:Z2} {x1:Zk} {x2:List Bool} {r:Z2×Int}:∀{m:Nat} {v0:Int},Zky x0 x1 x2 m v0=some r->CS (Zuy x0 x1 x2 r) Tryz.f209 [1,1,1,0,1,0] [(2,.tr (x2.map Z8)),(3,.ptr (1,1) 0 0),(4,.ptr (1,2) 0 0),(6,.ptr (1,3) 0 0),(8,il v0)] [bx 1 (Z2.enc x0),bx 2 (Zk.enc x1),bx 3 (Z2.enc Z2.z0)]:=by
 intro m
 induction m with
 | zero=>intro v0 h;cases h
 | succ m ih=>exactλ{v0} h=>itK h (λg1 h=>bnK h λn0 hn0 h=>bnK h λa0 Zz h=>have p1 {q p} (k:Scr q p):=(lr Z8 x2 (gg g1 (lr Z8 x2 (tp (.obl) (ob (nz0 hn0) (xb Z8 Zz k))))));itK h (λg2 h=>bnK h λr0 Zo h=>rtK h (p1 (gg g2 (rr (Z47 Zo) ee)))) λg2 h=>Zj (ffi 1 3) 16 (p1 (gg g2 ee)) (ih h)) λg1 h=>rtK h (lr Z8 x2 (gg g1 ee))
theorem Z1n {x0:Z2} {x1:Zk} {x2:List Bool} {r:Z2×Int} {v1:Bool} (h:Zlc x0 x1 x2 v1=some r):CS (Zuy x0 x1 x2 r) Tryz.f209 [1,1,0,1] [(2,.tr (x2.map Z8)),(3,.ptr (1,1) 0 0),(4,.ptr (1,2) 0 0),(6,.ptr (1,3) 0 0),(32,bl v1)] [bx 1 (Z2.enc x0),bx 2 (Zk.enc x1),bx 3 (Z2.enc Z2.z0)]:=
 itK h (λg1 h=>rtK h (gg g1 ee)) λg1 h=>Zj (ffi 1 3) 6 (gg g1 ee) (Yg1 h)
theorem Z0s {x0:Z2} {x1:Zk} {x2:List Bool} {r:Z2×Int} {v2:Bool} (h:Zly x0 x1 x2 v2=some r):CS (Zuy x0 x1 x2 r) Tryz.f209 [1,0,1] [(2,.tr (x2.map Z8)),(3,.ptr (1,1) 0 0),(4,.ptr (1,2) 0 0),(6,.ptr (1,3) 0 0),(21,bl v2)] [bx 1 (Z2.enc x0),bx 2 (Zk.enc x1),bx 3 (Z2.enc Z2.z0)]:=
 itK h (λg1 h=>rtK h (gg g1 ee)) λg1 h=>itK h (λg2 h=>bnK h λa1 Yv h=>Zj (ffi 1 3) 5 (gg g1 (gg g2 (kk 3 (xb Z8 Yv (kk 2 ee))))) (Z1n h)) λg2 h=>Zj (ffi 1 3) 5 (gg g1 (gg g2 (kk 5 ee))) (Z1n h)
theorem Ysm {x0:Z2} {x1:Zk} {x2:List Bool} {r:Z2×Int} (h:Zvg x0 x1 x2=some r):Zu Tryz.prog Mo (Zuy x0 x1 x2 r):=
 Zs Tryz.func209 (bnK h λr1 Zw h=>itK h (λg1 h=>Zj [((1,1),(1,0)),((1,2),(1,1024)),((1,3),(1,2048))] 5 (rr (Zwo Zw) (gg g1 (kk 6 ee))) (Z0s h)) λg1 h=>Zj [((1,1),(1,0)),((1,2),(1,1024)),((1,3),(1,2048))] 5 (rr (Zwo Zw) (gg g1 (kk 1 (lr Z8 x2 (kk 3 (lr Zd.enc x1.masters (kk 2 ee))))))) (Z0s h))
abbrev Qm (x0:Za) (r:Za):Y:=(151,[.agg (Za.ow x0)],.agg (Za.ow r),[.undef])
theorem Z0i {x0:Za} {r:Za} {k_L2:Za->Zg->(List Bool)->Int->Option Za} (i_L2:∀{vb0:Za} {vb1:Zg} {v0:List Bool} {v1:Int},k_L2 vb0 vb1 v0 v1=some r->CS (Qm x0 r) Tryz.f151 [1,1,1,1,1,0,1,0] [(1,.ptr (1,1) 0 0),(2,.ptr (1,10) 0 0),(3,.sl (1,20) 0 (v0.map Z8).length),(5,.ptr (1,19) 0 0),(6,il v1)] (Za.bk vb0 2++[bx 1 (Za.rl vb0 2)]++Za.bk Za.z0 11++[bx 10 (Za.rl Za.z0 11),bx 19 (Zg.enc vb1),rx 20 4 (v0.map Z8)])) {vb0:Za} {vb1:Zg} {v0:List Bool} {v1:Int} {v2:Bool} (h:Zjs x0 k_L2 vb0 vb1 v0 v1 v2=some r):CS (Qm x0 r) Tryz.f151 [1,1,1,1,1,0,1,0,0,1,0,0,1] [(1,.ptr (1,1) 0 0),(2,.ptr (1,10) 0 0),(3,.sl (1,20) 0 (v0.map Z8).length),(5,.ptr (1,19) 0 0),(6,il v1),(84,bl v2)] (Za.bk vb0 2++[bx 1 (Za.rl vb0 2)]++Za.bk Za.z0 11++[bx 10 (Za.rl Za.z0 11),bx 19 (Zg.enc vb1),rx 20 4 (v0.map Z8)]):=
 itK h (λg1 h=>bnK h λa0 Zz h=>bnK h λa1 Yv h=>bnK h λr0 Zo h=>bnK h λy0 Wa h=>Zj (ffi 1 20) 6 (gg g1 (xd Zc.enc Zz (xd Zd.enc Yv (rr (Yjf Zo) (xp Zc.enc Zz Wa (ln Z8 v0 (tq (Za.nm {vb0 with buckets:=y0}) (oe Zd.enc vb0.conf.masters (oe Zb.enc vb0.m (ob (Qi Zc.enc Wa) (oe Ze vb0.splits (Zh.so vb0.model (oe Zm.enc vb0.log (Za.sc Za.z0 ee)))))))))))))) (i_L2 h)) λg1 h=>Zj (ffi 1 20) 4 (gg g1 (ln Z8 v0 (Za.sc vb0 (Za.sc Za.z0 ee)))) (i_L2 h)
theorem Zxa {x0:Za} {r:Za} {vb0:Za} {vb1:Zg} {vb2:Zb} (h:Zhb x0 vb0 vb1 vb2=some r):CS (Qm x0 r) Tryz.f151 [1,1,1,1,1,1,1,1,1,1,1,1,1] [(1,.ptr (1,1) 0 0),(2,.ptr (1,10) 0 0),(5,.ptr (1,19) 0 0),(7,.ptr (1,20) 0 0)] (Za.bk vb0 2++[bx 1 (Za.rl vb0 2)]++Za.bk Za.z0 11++[bx 10 (Za.rl Za.z0 11),bx 19 (Zg.enc vb1),bx 20 (Zb.enc vb2)]):=
 bnK h λr1 Zw h=>bnK h λa2 Ks h=>bnK h λy1 hy1 h=>rtK h (rr (Yne Zw) (xq Zb.enc Ks y1 (kk 9 (oe Zf.enc r1.1.queue (ob (Zt8 Zb.enc hy1) (oe Zd.enc vb0.conf.masters (ob (Qi Zb.enc hy1) (oe Zc.enc vb0.buckets (oe Ze vb0.splits (Zh.so vb0.model (oe Zm.enc vb0.log ee)))))))))))
theorem Zov {x0:Za} {r:Za} {vb0:Za} {vb1:Zg} {vb2:Zb} {v3:Bool} (h:Zdp x0 vb0 vb1 vb2 v3=some r):CS (Qm x0 r) Tryz.f151 [1,1,1,1,1,1,1,1,1,1,1,1,0,1] [(1,.ptr (1,1) 0 0),(2,.ptr (1,10) 0 0),(5,.ptr (1,19) 0 0),(7,.ptr (1,20) 0 0),(165,bl v3)] (Za.bk vb0 2++[bx 1 (Za.rl vb0 2)]++Za.bk Za.z0 11++[bx 10 (Za.rl Za.z0 11),bx 19 (Zg.enc vb1),bx 20 (Zb.enc vb2)]):=
 itK h (λg1 h=>Zj (ffi 1 20) 4 (gg g1 (Za.sc {vb0 with holder:=vb1.who,held:=0} (Za.sc Za.z0 ee))) (Zxa h)) λg1 h=>Zj (ffi 1 20) 2 (gg g1 (Za.sc vb0 (Za.sc Za.z0 ee))) (Zxa h)
theorem Zz4 {x0:Za} {r:Za} {vb0:Za} {vb1:Zg} {vb2:Zb} (h:Zey x0 vb0 vb1 vb2=some r):CS (Qm x0 r) Tryz.f151 [1,1,1,1,1,1,1,1,1,1,1,1] [(1,.ptr (1,1) 0 0),(2,.ptr (1,10) 0 0),(5,.ptr (1,19) 0 0),(7,.ptr (1,20) 0 0)] (Za.bk vb0 2++[bx 1 (Za.rl vb0 2)]++Za.bk Za.z0 11++[bx 10 (Za.rl Za.z0 11),bx 19 (Zg.enc vb1),bx 20 (Zb.enc vb2)]):=
 bnK h λa3 ha3 h=>itK h (λg1 h=>itK h (λg2 h=>Zj (ffi 1 20) 3 (xb Zf.enc ha3 (gg g1 (kk 3 (gg g2 (kk 3 (Za.sc vb0 (Za.sc Za.z0 ee))))))) (Zov h)) λg2 h=>Zj (ffi 1 20) 3 (xb Zf.enc ha3 (gg g1 (kk 3 (gg g2 (kk 3 (Za.sc vb0 (Za.sc Za.z0 ee))))))) (Zov h)) λg1 h=>Zj (ffi 1 20) 3 (xb Zf.enc ha3 (gg g1 (kk 7 (Za.sc vb0 (Za.sc Za.z0 ee))))) (Zov h)
theorem Zz2 {x0:Za} {r:Za} {vb0:Za} {vb1:Zg} (h:Ja x0 vb0 vb1=some r):CS (Qm x0 r) Tryz.f151 [1,1,1,1,1,1,1] [(1,.ptr (1,1) 0 0),(2,.ptr (1,10) 0 0),(5,.ptr (1,19) 0 0)] (Za.bk vb0 2++[bx 1 (Za.rl vb0 2)]++Za.bk Za.z0 11++[bx 10 (Za.rl Za.z0 11),bx 19 (Zg.enc vb1)]):=
 itK h (λg1 h=>rtK h (gg g1 (kk 8 (Za.so vb0 ee)))) λg1 h=>bnK h λa4 ha4 h=>itK h (λg2 h=>Zj (ffi 1 19++[((1,20),(3,6144))]) 13 (gg g1 (xd Zb.enc ha4 (gg g2 (kk 5 (Za.sc vb0 (Za.sc Za.z0 ee)))))) (Zz4 h)) λg2 h=>Zj (ffi 1 19++[((1,20),(3,6144))]) 13 (gg g1 (xd Zb.enc ha4 (gg g2 (kk 5 (Za.sc vb0 (Za.sc Za.z0 ee)))))) (Zz4 h)
theorem Zzf {x0:Za} {r:Za} {vb0:Za} {vb1:Zg} {v0:List Bool} {v4:Bool} (h:Ze8 x0 vb0 vb1 v0 v4=some r):CS (Qm x0 r) Tryz.f151 [1,1,1,1,1,1,0,1] [(1,.ptr (1,1) 0 0),(2,.ptr (1,10) 0 0),(3,.sl (1,20) 0 (v0.map Z8).length),(5,.ptr (1,19) 0 0),(113,bl v4)] (Za.bk vb0 2++[bx 1 (Za.rl vb0 2)]++Za.bk Za.z0 11++[bx 10 (Za.rl Za.z0 11),bx 19 (Zg.enc vb1),rx 20 4 (v0.map Z8)]):=
 itK h (λg1 h=>bnK h λr2 Z6 h=>Zj (ffi 1 19) 4 (gg g1 (kk 2 (oe Zd.enc vb0.conf.masters (oe Z8 v0 (rr (Ysm Z6) (Za.sc {vb0 with arb:=r2.1} (Za.sc Za.z0 ee))))))) (Zz2 h)) λg1 h=>Zj (ffi 1 19) 2 (gg g1 (Za.sc vb0 (Za.sc Za.z0 ee))) (Zz2 h)
theorem Zzo {x0:Za} {r:Za} {k_L2:Za->Zg->(List Bool)->Int->Option Za} (i_L2:∀{vb0:Za} {vb1:Zg} {v0:List Bool} {v1:Int},k_L2 vb0 vb1 v0 v1=some r->CS (Qm x0 r) Tryz.f151 [1,1,1,1,1,0,1,0] [(1,.ptr (1,1) 0 0),(2,.ptr (1,10) 0 0),(3,.sl (1,20) 0 (v0.map Z8).length),(5,.ptr (1,19) 0 0),(6,il v1)] (Za.bk vb0 2++[bx 1 (Za.rl vb0 2)]++Za.bk Za.z0 11++[bx 10 (Za.rl Za.z0 11),bx 19 (Zg.enc vb1),rx 20 4 (v0.map Z8)])) {vb0:Za} {vb1:Zg} {v0:List Bool} {v1:Int} {v5:Bool} (h:Zcg x0 k_L2 vb0 vb1 v0 v1 v5=some r):CS (Qm x0 r) Tryz.f151 [1,1,1,1,1,0,1,0,0,0,1] [(1,.ptr (1,1) 0 0),(2,.ptr (1,10) 0 0),(3,.sl (1,20) 0 (v0.map Z8).length),(5,.ptr (1,19) 0 0),(6,il v1),(69,bl v5)] (Za.bk vb0 2++[bx 1 (Za.rl vb0 2)]++Za.bk Za.z0 11++[bx 10 (Za.rl Za.z0 11),bx 19 (Zg.enc vb1),rx 20 4 (v0.map Z8)]):=
 itK h (λg1 h=>bnK h λa5 ha5 h=>itK h (λg2 h=>bnK h λa6 ha6 h=>Zj (ffi 1 20) 6 (gg g1 (xd Z8 ha5 (gg g2 (kk 3 (tp (.row (v1:Int).toNat (Zc.enc a6)) (kk 2 (tp (.cell (Zc.enc a6)) (kk 2 (tp (.num (v0.map Z8).length 0 0 []) (ob (ixn ha6) (ob (ixl Zc.enc ha6) (ob (ixr Zc.enc ha6) (ob (ixr Zc.enc ha6) (oe Z8 v0 (Za.sc vb0 (Za.sc Za.z0 ee)))))))))))))))) (Z0i i_L2 h)) λg2 h=>Zj (ffi 1 20) 6 (gg g1 (xd Z8 ha5 (gg g2 (kk 7 (ln Z8 v0 (Za.sc vb0 (Za.sc Za.z0 ee))))))) (Z0i i_L2 h)) λg1 h=>itK h (λg2 h=>Zj (ffi 1 20) 8 (gg g1 (gg g2 (kk 3 (ln Z8 v0 (Za.sc vb0 (Za.sc Za.z0 ee)))))) (Zzf h)) λg2 h=>Zj (ffi 1 20) 8 (gg g1 (gg g2 (kk 3 (ln Z8 v0 (Za.sc vb0 (Za.sc Za.z0 ee)))))) (Zzf h)
theorem Ydw {x0:Za} {r:Za}:∀{m:Nat} {vb0:Za} {vb1:Zg} {v0:List Bool} {v1:Int},Zal x0 m vb0 vb1 v0 v1=some r->CS (Qm x0 r) Tryz.f151 [1,1,1,1,1,0,1,0] [(1,.ptr (1,1) 0 0),(2,.ptr (1,10) 0 0),(3,.sl (1,20) 0 (v0.map Z8).length),(5,.ptr (1,19) 0 0),(6,il v1)] (Za.bk vb0 2++[bx 1 (Za.rl vb0 2)]++Za.bk Za.z0 11++[bx 10 (Za.rl Za.z0 11),bx 19 (Zg.enc vb1),rx 20 4 (v0.map Z8)]):=by
 intro m
 induction m with
 | zero=>intro vb0 vb1 v0 v1 h;cases h
 | succ m ih=>exactλ{vb0} {vb1} {v0} {v1} h=>itK h (λg1 h=>Zj (ffi 1 20) 4 (lr Zb.enc vb0.m (gg g1 (kk 3 (ln Z8 v0 (Za.sc vb0 (Za.sc Za.z0 ee)))))) (Zzo ih h)) λg1 h=>Zj (ffi 1 20) 4 (lr Zb.enc vb0.m (gg g1 (kk 3 (ln Z8 v0 (Za.sc vb0 (Za.sc Za.z0 ee)))))) (Zzo ih h)
theorem Zz8 {x0:Za} {r:Za} {vb1:Zg} {v0:List Bool} (h:Zi7 x0 vb1 v0=some r):CS (Qm x0 r) Tryz.f151 [1,1,1,1,1] [(1,.ptr (1,1) 0 0),(2,.ptr (1,10) 0 0),(3,.sl (1,20) 0 (v0.map Z8).length),(5,.ptr (1,19) 0 0)] (Za.bk x0 2++[bx 1 (Za.rl x0 2)]++Za.bk Za.z0 11++[bx 10 (Za.rl Za.z0 11),bx 19 (Zg.enc vb1),rx 20 4 (v0.map Z8)]):=
 Zj (ffi 1 20) 4 (ln Z8 v0 (Za.sc x0 (Za.sc Za.z0 ee))) (Ydw h)
theorem Zzy {x0:Za} {r:Za} {v0:List Bool} {v6:Bool} (h:Zjh x0 v0 v6=some r):CS (Qm x0 r) Tryz.f151 [1,1,1,1,0,1] [(1,.ptr (1,1) 0 0),(2,.ptr (1,10) 0 0),(3,.sl (1,20) 0 (v0.map Z8).length),(5,.ptr (1,19) 0 0),(56,bl v6)] (Za.bk x0 2++[bx 1 (Za.rl x0 2)]++Za.bk Za.z0 11++[bx 10 (Za.rl Za.z0 11),bx 19 (Zg.enc (Zg.mk false (-1) 0 false 0 0 0 false)),rx 20 4 (v0.map Z8)]):=
 itK h (λg1 h=>Zj (ffi 1 20) 2 (gg g1 (ln Z8 v0 (Za.sc x0 (Za.sc Za.z0 ee)))) (Zz8 h)) λg1 h=>Zj (ffi 1 20) 2 (gg g1 (ln Z8 v0 (Za.sc x0 (Za.sc Za.z0 ee)))) (Zz8 h)
theorem Yd5 {x0:Za} {r:Za}:∀{m:Nat} {v0:List Bool} {v7:Int},Zi3 x0 m v0 v7=some r->CS (Qm x0 r) Tryz.f151 [1,1,0,1,0] [(1,.ptr (1,1) 0 0),(2,.ptr (1,10) 0 0),(3,.sl (1,19) 0 (v0.map Z8).length),(4,il v7)] (Za.bk x0 2++[bx 1 (Za.rl x0 2)]++Za.bk Za.z0 11++[bx 10 (Za.rl Za.z0 11),rx 19 4 (v0.map Z8)]):=by
 intro m
 induction m with
 | zero=>intro v0 v7 h;cases h
 | succ m ih=>exactλ{v0} {v7} h=>have p1 {q p} (k:Scr q p):=(lr Zb.enc x0.m k);itK h (λg1 h=>bnK h λa7 ha7 h=>bnK h λr3 Y7 h=>have p2 {q p} (k:Scr q p):=(p1 (gg g1 (xd Zb.enc ha7 (rr (Zzc Y7) k))));itK h (λg2 h=>bnK h λa8 ha8 h=>have p3 {q p} (k:Scr q p):=(p2 (gg g2 (kk 3 (tp (.row (v7:Int).toNat (Ze a8)) (kk 1 (tp (.cell (Ze a8)) (kk 2 k)))))));itK h (λg3 h=>itK h (λg4 h=>bnK h λz0 W0 h=>Zj (ffi 1 18++[((1,19),(3,27648))]) 11 (p3 (tp (.t true) (kk 3 (tp (.t true) (kk 6 (ta Z8 [true] z0 (kk 1 (tp (.num (z0.map Z8).length 0 0 []) (ob (ixn ha8) (ob (ixl Ze ha8) (ob (ixr Ze ha8) (ob (ixr Ze ha8) (ob g3 (ob g4 (oa 1 Zmp true (ox Z8 W0 (oe Z8 z0 (oe Z8 z0 (Za.sc x0 (Za.sc Za.z0 ee)))))))))))))))))))) (ih h)) λg4 h=>bnK h λz0 W0 h=>Zj (ffi 1 18++[((1,19),(3,27648))]) 11 (p3 (tp (.t true) (kk 3 (tp (.t false) (kk 6 (ta Z8 [decide (x0.holder=v7)] z0 (kk 1 (tp (.num (z0.map Z8).length 0 0 []) (ob (ixn ha8) (ob (ixl Ze ha8) (ob (ixr Ze ha8) (ob (ixr Ze ha8) (ob g3 (ob g4 (oa 1 Zmp (decide (x0.holder=v7)) (ox Z8 W0 (oe Z8 z0 (oe Z8 z0 (Za.sc x0 (Za.sc Za.z0 ee)))))))))))))))))))) (ih h)) λg3 h=>bnK h λz0 W0 h=>Zj (ffi 1 18++[((1,19),(3,27648))]) 11 (p3 (tp (.t false) (kk 5 (ta Z8 [false] z0 (kk 1 (tp (.num (z0.map Z8).length 0 0 []) (ob (ixn ha8) (ob (ixl Ze ha8) (ob (ixr Ze ha8) (ob (ixr Ze ha8) (ob g3 (oa 1 Zmp false (ox Z8 W0 (oe Z8 z0 (oe Z8 z0 (Za.sc x0 (Za.sc Za.z0 ee))))))))))))))))) (ih h)) λg2 h=>bnK h λz0 W0 h=>Zj (ffi 1 18++[((1,19),(3,27648))]) 11 (p2 (gg g2 (kk 12 (ta Z8 [false] z0 (kk 1 (oa 1 Zmp false (ox Z8 W0 (ln Z8 z0 (oe Z8 z0 (Za.sc x0 (Za.sc Za.z0 ee))))))))))) (ih h)) λg1 h=>itK h (λg2 h=>bnK h λa9 ha9 h=>Zj (ffi 1 18++[((1,19),(3,1024)),((1,20),(1,19))]) 14 (p1 (gg g1 (gg g2 (kk 3 (tp (.row (x0.holder:Int).toNat (Z8 a9)) (kk 1 (tp (.cell (Z8 a9)) (kk 1 (tp (.num (v0.map Z8).length 0 0 []) (ob (ixn ha9) (ob (ixl Z8 ha9) (ob (ixr Z8 ha9) (ob (ixr Z8 ha9) (oe Z8 v0 (Za.sc x0 (Za.sc Za.z0 ee)))))))))))))))) (Zzy h)) λg2 h=>Zj (ffi 1 18++[((1,19),(3,1024)),((1,20),(1,19))]) 14 (p1 (gg g1 (gg g2 (kk 5 (ln Z8 v0 (Za.sc x0 (Za.sc Za.z0 ee))))))) (Zzy h)
theorem Yor {x0:Za} {r:Za} (h:Zsh x0=some r):Zu Tryz.prog Mo (Qm x0 r):=
 Zs Tryz.func151 (Zj ([((1,1),(1,0))]++Za.ff 2 0 0++[((1,10),(1,1024)),((1,19),(2,0))]) 8 (tp (.num ([].map Z8).length 0 0 []) (ob (show 0=([].map Z8).length from rfl) (Za.sc x0 ee))) (Yd5 h))
abbrev Za6 (x0:Za) (x1:Zi) (r:Za×Zp):Y:=(88,[.agg (Za.enc x0),.agg (Zi.enc x1)],.tup [.agg (Za.ow r.1),.agg (Zp.enc r.2)],[.undef,.undef])
theorem Zsj {x0:Za} {x1:Zi} {r:Za×Zp} {vb0:Za} {vb1:Zp} (h:Zdb x0 x1 vb0 vb1=some r):CS (Za6 x0 x1 r) Tryz.f88 [1,1,1,1,1,1,1,1,1] [(2,.ptr (1,1) 0 0),(4,.ptr (1,10) 0 0),(5,.ptr (1,19) 0 0),(6,.ptr (1,20) 0 0)] (Za.bk vb0 2++[bx 1 (Za.rl vb0 2)]++Za.bk Za.z0 11++[bx 10 (Za.rl Za.z0 11),bx 19 (Zp.enc Zp.z0),bx 20 (Zp.enc vb1)]):=
 rtK h (kk 8 (Za.so vb0 ee))
theorem Z1o {x0:Za} {x1:Zi} {r:Za×Zp} {vb0:Za} {vb2:Zp} (h:Zdg x0 x1 vb0 vb2=some r):CS (Za6 x0 x1 r) Tryz.f88 [1,1,1,1,1,1,1,1,0,1,0,1] [(2,.ptr (1,1) 0 0),(3,.ptr (1,10) 0 0),(4,.ptr (1,11) 0 0),(5,.ptr (1,20) 0 0),(6,.ptr (1,21) 0 0)] (Za.bk vb0 2++[bx 1 (Za.rl vb0 2),bx 10 (Zi.enc x1)]++Za.bk Za.z0 12++[bx 11 (Za.rl Za.z0 12),bx 20 (Zp.enc Zp.z0),bx 21 (Zp.enc vb2)]):=
 bnK h λr0 Zo h=>bnK h λr1 Zw h=>have p1 {q p} (k:Scr q p):=(kk 8 (Za.so vb0 (rr (Yoy Zo) (kk 8 (Za.so r0 (rr (Yor Zw) k))))));itK h (λg1 h=>Zj ([((1,1),(1,1))]++Za.ff 2 2 3072++[((1,10),(1,11)),((1,11),(1,12)),((1,12),(1,13)),((1,13),(1,14)),((1,14),(1,15)),((1,15),(1,16)),((1,16),(1,17)),((1,17),(1,18)),((1,18),(1,19)),((1,19),(1,20)),((1,20),(1,21))]) 6 (p1 (gg g1 (Za.sc r1 (Za.sc Za.z0 ee)))) (Zsj h)) λg1 h=>Zj ([((1,1),(1,1))]++Za.ff 2 2 3072++[((1,10),(1,11)),((1,11),(1,12)),((1,12),(1,13)),((1,13),(1,14)),((1,14),(1,15)),((1,15),(1,16)),((1,16),(1,17)),((1,17),(1,18)),((1,18),(1,19)),((1,19),(1,20)),((1,20),(1,21))]) 6 (p1 (gg g1 (Za.sc r1 (Za.sc Za.z0 ee)))) (Zsj h)
theorem Z2a {x0:Za} {x1:Zi} {r:Za×Zp} {vb0:Za} {vb2:Zp} {v0:Bool} (h:J2 x0 x1 vb0 vb2 v0=some r):CS (Za6 x0 x1 r) Tryz.f88 [1,1,1,1,1,1,1,1,0,1,0,0,1] [(2,.ptr (1,1) 0 0),(3,.ptr (1,10) 0 0),(4,.ptr (1,11) 0 0),(5,.ptr (1,20) 0 0),(6,.ptr (1,21) 0 0),(182,bl v0)] (Za.bk vb0 2++[bx 1 (Za.rl vb0 2),bx 10 (Zi.enc x1)]++Za.bk Za.z0 12++[bx 11 (Za.rl Za.z0 12),bx 20 (Zp.enc Zp.z0),bx 21 (Zp.enc vb2)]):=
 itK h (λg1 h=>bnK h λa0 Zz h=>bnK h λy0 Wa h=>Zj (ffi 1 21) 6 (gg g1 (xp Zb.enc Zz Wa (tq (Za.nm {vb0 with m:=y0,holder:=(-1),held:=0}) (oe Zd.enc vb0.conf.masters (ob (Qi Zb.enc Wa) (oe Zc.enc vb0.buckets (oe Ze vb0.splits (Zh.so vb0.model (oe Zm.enc vb0.log (Za.sc Za.z0 ee)))))))))) (Z1o h)) λg1 h=>Zj (ffi 1 21) 2 (gg g1 (Za.sc vb0 (Za.sc Za.z0 ee))) (Z1o h)
theorem Zgj {x0:Za} {x1:Zi} {r:Za×Zp} {vb0:Za} {vb2:Zp} (h:Q2 x0 x1 vb0 vb2=some r):CS (Za6 x0 x1 r) Tryz.f88 [1,1,1,1,1,1,1,1] [(2,.ptr (1,1) 0 0),(3,.ptr (1,10) 0 0),(4,.ptr (1,11) 0 0),(5,.ptr (1,20) 0 0),(6,.ptr (1,21) 0 0)] (Za.bk vb0 2++[bx 1 (Za.rl vb0 2),bx 10 (Zi.enc x1)]++Za.bk Za.z0 12++[bx 11 (Za.rl Za.z0 12),bx 20 (Zp.enc Zp.z0),bx 21 (Zp.enc vb2)]):=
 itK h (λg1 h=>itK h (λg2 h=>Zj (ffi 1 21) 7 (gg g1 (gg g2 (kk 6 (Za.sc vb0 (Za.sc Za.z0 ee))))) (Z2a h)) λg2 h=>Zj (ffi 1 21) 7 (gg g1 (gg g2 (kk 6 (Za.sc vb0 (Za.sc Za.z0 ee))))) (Z2a h)) λg1 h=>Zj (ffi 1 9++[((1,10),(1,11)),((1,11),(1,12)),((1,12),(1,13)),((1,13),(1,14)),((1,14),(1,15)),((1,15),(1,16)),((1,16),(1,17)),((1,17),(1,18)),((1,18),(1,19)),((1,19),(1,20)),((1,20),(1,21))]) 5 (gg g1 (Za.sc vb0 (Za.sc Za.z0 ee))) (Zsj h)
theorem Zsu {x0:Za} {x1:Zi} {r:Za×Zp} {vb0:Za} {vb2:Zp} {v1:Bool} (h:J1 x0 x1 vb0 vb2 v1=some r):CS (Za6 x0 x1 r) Tryz.f88 [1,1,1,1,1,1,1,0,0,1,1,1] [(2,.ptr (1,1) 0 0),(3,.ptr (1,10) 0 0),(4,.ptr (1,11) 0 0),(5,.ptr (1,20) 0 0),(6,.ptr (1,21) 0 0),(126,bl v1)] (Za.bk vb0 2++[bx 1 (Za.rl vb0 2),bx 10 (Zi.enc x1)]++Za.bk Za.z0 12++[bx 11 (Za.rl Za.z0 12),bx 20 (Zp.enc Zp.z0),bx 21 (Zp.enc vb2)]):=
 itK h (λg1 h=>itK h (λg2 h=>bnK h λr2 Z6 h=>Zj ([((1,1),(1,1))]++Za.ff 2 8 2048++ffi 10 12) 16 (gg g1 (gg g2 (kk 8 (Za.so vb0 (rr (Z2r Z6) (Za.sc r2 (Za.sc Za.z0 ee))))))) (Zgj h)) λg2 h=>Zj (ffi 1 21) 12 (gg g1 (gg g2 (Za.sc {vb0 with data_:={vb0.data_ with second:=true}} (Za.sc Za.z0 ee)))) (Zgj h)) λg1 h=>itK h (λg2 h=>bnK h λr3 Y7 h=>Zj ([((1,1),(1,1))]++Za.ff 2 4 2048++ffi 10 12) 8 (gg g1 (gg g2 (kk 8 (Za.so vb0 (rr (Yl6 Y7) (Za.sc r3 (Za.sc Za.z0 ee))))))) (Zgj h)) λg2 h=>Zj (ffi 1 21) 6 (gg g1 (gg g2 (Za.sc vb0 (Za.sc Za.z0 ee)))) (Zgj h)
theorem Z0t {x0:Za} {x1:Zi} {r:Za×Zp} {vb0:Za} {vb2:Zp} {v2:Bool} (h:Zkt x0 x1 vb0 vb2 v2=some r):CS (Za6 x0 x1 r) Tryz.f88 [1,1,1,1,1,1,1,0,0,1] [(2,.ptr (1,1) 0 0),(3,.ptr (1,10) 0 0),(4,.ptr (1,11) 0 0),(5,.ptr (1,20) 0 0),(6,.ptr (1,21) 0 0),(109,bl v2)] (Za.bk vb0 2++[bx 1 (Za.rl vb0 2),bx 10 (Zi.enc x1)]++Za.bk Za.z0 12++[bx 11 (Za.rl Za.z0 12),bx 20 (Zp.enc Zp.z0),bx 21 (Zp.enc vb2)]):=
 itK h (λg1 h=>Zj (ffi 1 21) 5 (gg g1 (Za.sc {vb0 with data_:={vb0.data_ with left:=(Y8 vb0.data_.left 1)}} (Za.sc Za.z0 ee))) (Zgj h)) λg1 h=>itK h (λg2 h=>itK h (λg3 h=>Zj (ffi 1 21) 3 (gg g1 (gg g2 (kk 4 (gg g3 (kk 4 (Za.sc vb0 (Za.sc Za.z0 ee))))))) (Zsu h)) λg3 h=>Zj (ffi 1 21) 3 (gg g1 (gg g2 (kk 4 (gg g3 (kk 4 (Za.sc vb0 (Za.sc Za.z0 ee))))))) (Zsu h)) λg2 h=>Zj (ffi 1 21) 3 (gg g1 (gg g2 (kk 9 (Za.sc vb0 (Za.sc Za.z0 ee))))) (Zsu h)
theorem Z1c {x0:Za} {x1:Zi} {r:Za×Zp} {vb0:Za} {vb2:Zp} (h:J3 x0 x1 vb0 vb2=some r):CS (Za6 x0 x1 r) Tryz.f88 [1,1,1,1,1,1,1] [(2,.ptr (1,1) 0 0),(3,.ptr (1,10) 0 0),(4,.ptr (1,11) 0 0),(5,.ptr (1,20) 0 0),(6,.ptr (1,21) 0 0)] (Za.bk vb0 2++[bx 1 (Za.rl vb0 2),bx 10 (Zi.enc x1)]++Za.bk Za.z0 12++[bx 11 (Za.rl Za.z0 12),bx 20 (Zp.enc Zp.z0),bx 21 (Zp.enc vb2)]):=
 itK h (λg1 h=>Zj (ffi 1 21) 4 (gg g1 (kk 4 (Za.sc vb0 (Za.sc Za.z0 ee)))) (Z0t h)) λg1 h=>Zj (ffi 1 21) 4 (gg g1 (kk 4 (Za.sc vb0 (Za.sc Za.z0 ee)))) (Z0t h)
theorem Ygv {x0:Za} {x1:Zi} {r:Za×Zp}:∀{m:Nat} {vb0:Za} {vb2:Zp} {v3:Int},Zba x0 x1 m vb0 vb2 v3=some r->CS (Za6 x0 x1 r) Tryz.f88 [1,1,1,1,1,0,1,0] [(2,.ptr (1,1) 0 0),(3,.ptr (1,10) 0 0),(4,.ptr (1,11) 0 0),(5,.ptr (1,20) 0 0),(6,.ptr (1,21) 0 0),(11,il v3)] (Za.bk vb0 2++[bx 1 (Za.rl vb0 2),bx 10 (Zi.enc x1)]++Za.bk Za.z0 12++[bx 11 (Za.rl Za.z0 12),bx 20 (Zp.enc Zp.z0),bx 21 (Zp.enc vb2)]):=by
 intro m
 induction m with
 | zero=>intro vb0 vb2 v3 h;cases h
 | succ m ih=>exactλ{vb0} {vb2} {v3} h=>itK h (λg1 h=>bnK h λa1 Yv h=>bnK h λy1 hy1 h=>bnK h λa2 Ks h=>bnK h λa3 ha3 h=>bnK h λr4 Q5 h=>bnK h λy2 hy2 h=>Zj (ffi 1 21) 13 (lr Zb.enc vb0.m (gg g1 (xd Ze Yv (xp Ze Yv hy1 (xd Zc.enc Ks (xd Zd.enc ha3 (rr (Yi6 Q5) (xp Zc.enc Ks hy2 (tq (Za.nm {vb0 with buckets:=y2,splits:=y1}) (oe Zd.enc vb0.conf.masters (oe Zb.enc vb0.m (ob (Qi Zc.enc hy2) (ob (Qi Ze hy1) (Zh.so vb0.model (oe Zm.enc vb0.log (Za.sc Za.z0 ee)))))))))))))))) (ih h)) λg1 h=>itK h (λg2 h=>Zj (ffi 1 21) 14 (lr Zb.enc vb0.m (gg g1 (gg g2 (Za.sc {vb0 with held:=(Zjq vb0.conf.lockMost (Zt vb0.held 1))} (Za.sc Za.z0 ee))))) (Z1c h)) λg2 h=>Zj (ffi 1 21) 14 (lr Zb.enc vb0.m (gg g1 (gg g2 (Za.sc vb0 (Za.sc Za.z0 ee))))) (Z1c h)
theorem Yg6 {x0:Za} {x1:Zi} {r:Za×Zp}:∀{m:Nat} {vb0:Za} {vb2:Zp} {v4:List Zl} {v5:Int},Zfw x0 x1 m vb0 vb2 v4 v5=some r->CS (Za6 x0 x1 r) Tryz.f88 [1,1,1,1,0,1,0] [(2,.ptr (1,1) 0 0),(3,.ptr (1,10) 0 0),(4,.ptr (1,11) 0 0),(5,.ptr (1,20) 0 0),(6,.ptr (1,21) 0 0),(7,.sl (1,22) 0 (v4.map Zl.enc).length),(8,il v5)] (Za.bk vb0 2++[bx 1 (Za.rl vb0 2),bx 10 (Zi.enc x1)]++Za.bk Za.z0 12++[bx 11 (Za.rl Za.z0 12),bx 20 (Zp.enc Zp.z0),bx 21 (Zp.enc vb2),rx 22 106 (v4.map Zl.enc)]):=by
 intro m
 induction m with
 | zero=>intro vb0 vb2 v4 v5 h;cases h
 | succ m ih=>exactλ{vb0} {vb2} {v4} {v5} h=>itK h (λg1 h=>bnK h λa4 ha4 h=>bnK h λr5 hr5 h=>have p1 {q p} (k:Scr q p):=(lr Zl.enc v4 (gg g1 (xd Zl.enc ha4 (lr Zb.enc vb0.m (rr (Z4 hr5) k)))));itK h (λg2 h=>bnK h λa5 ha5 h=>bnK h λr6 hr6 h=>bnK h λy3 hy3 h=>Zj (ffi 1 22) 16 (p1 (gg g2 (xd Zl.enc ha4 (xd Zb.enc ha5 (xd Zl.enc ha4 (rr (Ysg hr6) (xd Zl.enc ha4 (xq Zb.enc ha5 y3 (kk 1 (oe Zf.enc r6.1.queue (ob (Zt8 Zb.enc hy3) (ln Zl.enc v4 (tq (Za.nm {vb0 with m:=y3}) (oe Zd.enc vb0.conf.masters (ob (Qi Zb.enc hy3) (oe Zc.enc vb0.buckets (oe Ze vb0.splits (Zh.so vb0.model (oe Zm.enc vb0.log (Za.sc Za.z0 ee)))))))))))))))))))) (ih h)) λg2 h=>Zj (ffi 1 22) 14 (p1 (gg g2 (ln Zl.enc v4 (Za.sc vb0 (Za.sc Za.z0 ee))))) (ih h)) λg1 h=>Zj (ffi 1 21) 13 (lr Zl.enc v4 (gg g1 (Za.sc vb0 (Za.sc Za.z0 ee)))) (Ygv h)
theorem Yt4 {x0:Za} {x1:Zi} {r:Za×Zp} (h:Zus x0 x1=some r):Zu Tryz.prog Mo (Za6 x0 x1 r):=
 Zs Tryz.func88 (bnK h λr7 hr7 h=>bnK h λr8 hr8 h=>bnK h λr9 hr9 h=>Zj ([((1,1),(1,0))]++Za.ff 2 2 1024++[((1,10),(1,1024)),((1,11),(1,2048)),((1,20),(1,3072)),((1,21),(3,2048)),((1,22),(4,3072))]) 12 (rr (Ybl hr7) (kk 8 (Za.so r7 (rr (Ysd hr8) (rr (Ys6 hr9) (ln Zl.enc r9 (Za.sc r7 ee))))))) (Yg6 h))
abbrev Zpk (x0:Za) (x1:Zi) (r:Za×Zp):Y:=(31,[.agg (Za.enc x0),.agg (Zi.enc x1)],.tup [.agg (Za.ow r.1),.agg (Zp.enc r.2)],[.undef,.undef])
theorem Z16 {x0:Za} {x1:Zi} {r:Za×Zp} {v0:Bool} (h:Zkx x0 x1 v0=some r):CS (Zpk x0 x1 r) Tryz.f31 [1,0,1] [(2,.ptr (1,1) 0 0),(3,.ptr (1,2) 0 0),(4,.ptr (1,3) 0 0),(5,.ptr (1,12) 0 0),(15,bl v0)] ([bx 1 (Za.enc x0),bx 2 (Zi.enc x1)]++Za.bk Za.z0 4++[bx 3 (Za.rl Za.z0 4),bx 12 (Zp.enc Zp.z0)]):=
 itK h (λg1 h=>bnK h λr0 Zo h=>rtK h (gg g1 (rr (Ybl Zo) (kk 8 (Za.so r0 ee))))) λg1 h=>bnK h λr1 Zw h=>rtK h (gg g1 (rr (Yt4 Zw) (kk 8 (Za.so r1.1 ee))))
theorem Yre {x0:Za} {x1:Zi} {r:Za×Zp} (h:Zu7 x0 x1=some r):Zu Tryz.prog Mo (Zpk x0 x1 r):=
 Zs Tryz.func31 (bnK h λr2 Z6 h=>itK h (λg1 h=>Zj [((1,1),(1,0)),((1,2),(1,1024)),((1,3),(1,2048)),((1,12),(1,3072))] 5 (rr (Yj8 Z6) (gg g1 (kk 3 ee))) (Z16 h)) λg1 h=>Zj [((1,1),(1,0)),((1,2),(1,1024)),((1,3),(1,2048)),((1,12),(1,3072))] 5 (rr (Yj8 Z6) (gg g1 (kk 3 ee))) (Z16 h))
abbrev Yyb (x0:Int) (x1:Int) (x2:Int) (r:Bool):Y:=(65,[il x0,il x1,il x2],bl r,[.undef,.undef,.undef])
theorem Yi {x0:Int} {x1:Int} {x2:Int} {r:Bool} (h:Yu x0 x1 x2=some r):Zu Tryz.prog Mo (Yyb x0 x1 x2 r):=
 Zs Tryz.func65 (itK h (λg1 h=>rtK h (gg g1 (kk 3 ee))) λg1 h=>rtK h (gg g1 (kk 3 ee)))
abbrev Ygs (x0:Zk) (r:Int):Y:=(237,[.agg (Zk.enc x0)],il r,[.undef])
theorem Z3s {x0:Zk} {r:Int} {v0:Bool} (h:Zua x0 v0=some r):CS (Ygs x0 r) Tryz.f237 [1,0,1] [(1,.ptr (1,1) 0 0),(12,bl v0)] [bx 1 (Zk.enc x0)]:=
 itK h (λg1 h=>rtK h (gg g1 ee)) λg1 h=>rtK h (gg g1 ee)
theorem Z5o {x0:Zk} {r:Int} (h:Zta x0=some r):Zu Tryz.prog Mo (Ygs x0 r):=
 Zs Tryz.func237 (bnK h λr0 Zo h=>itK h (λg1 h=>Zj [((1,1),(1,0))] 5 (rr (Yi Zo) (gg g1 (kk 4 ee))) (Z3s h)) λg1 h=>bnK h λr1 Zw h=>Zj [((1,1),(1,0))] 5 (rr (Yi Zo) (gg g1 (kk 2 (rr (Yi Zw) (kk 2 ee))))) (Z3s h))
abbrev Yvy (x0:Zk) (r:Int):Y:=(182,[.agg (Zk.enc x0)],il r,[.undef])
theorem Z5x {x0:Zk} {r:Int} (h:Zsq x0=some r):Zu Tryz.prog Mo (Yvy x0 r):=
 Zs Tryz.func182 (bnK h λr0 Zo h=>itK h (λg1 h=>rtK h (rr (Z5o Zo) (gg g1 (kk 5 ee)))) λg1 h=>bnK h λr1 Zw h=>have p1 {q p} (k:Scr q p):=(rr (Z5o Zo) (gg g1 (kk 2 (rr (Yi Zw) (kk 2 k)))));itK h (λg2 h=>rtK h (p1 (gg g2 ee))) λg2 h=>bnK h λr2 Z6 h=>rtK h (p1 (gg g2 (rr (Z5o Z6) ee))))
abbrev Yj7 (x0:Zk) (r:Int):Y:=(239,[.agg (Zk.enc x0)],il r,[.undef])
theorem Ylv {x0:Zk} {r:Int}:∀{m:Nat} {v0:Int} {v1:Int},Zpr x0 m v0 v1=some r->CS (Yj7 x0 r) Tryz.f239 [1,1,0,1,0] [(3,il v0),(7,.tr (x0.masters.map Zd.enc)),(8,il (x0.masters.length:Int)),(9,il v1)] []:=by
 intro m
 induction m with
 | zero=>intro v0 v1 h;cases h
 | succ m ih=>exactλ{v0} {v1} h=>itK h (λg1 h=>bnK h λa0 Zz h=>itK h (λg2 h=>Zj [] 16 (gg g1 (xb Zd.enc Zz (gg g2 ee))) (ih h)) λg2 h=>Zj [] 16 (gg g1 (xb Zd.enc Zz (gg g2 ee))) (ih h)) λg1 h=>rtK h (gg g1 ee)
theorem Yzd {x0:Zk} {r:Int} (h:Z0z x0=some r):Zu Tryz.prog Mo (Yj7 x0 r):=
 Zs Tryz.func239 (Zj [] 8 (lr Zd.enc x0.masters ee) (Ylv h))
abbrev Yi2 (x0:Zk) (r:Int):Y:=(185,[.agg (Zk.enc x0)],il r,[.undef])
theorem Z3v {x0:Zk} {r:Int} (h:Znv x0=some r):Zu Tryz.prog Mo (Yi2 x0 r):=
 Zs Tryz.func185 (bnK h λr0 Zo h=>bnK h λr1 Zw h=>rtK h (rr (Z5x Zo) (rr (Yzd Zw) ee)))
abbrev Ynr (x0:Zd) (x1:Zk) (r:Bool):Y:=(184,[.agg (Zd.enc x0),.rp true (Zk.enc x1) 0],bl r,[.undef,.undef])
theorem Z9m {x0:Zd} {x1:Zk} {r:Bool} (h:Zr9 x0 x1=some r):Zu Tryz.prog Mo (Ynr x0 x1 r):=
 Zs Tryz.func184 (bnK h λr0 Zo h=>have p1 {q p} (k:Scr q p):=(rr (Yi Zo) k);itK h (λg1 h=>rtK h (p1 (gg g1 ee))) λg1 h=>itK h (λg2 h=>bnK h λr1 Zw h=>bnK h λr2 Z6 h=>itK h (λg3 h=>rtK h (p1 (gg g1 (gg g2 (rr (Z3v Zw) (rr (Yi Z6) (gg g3 (kk 4 ee)))))))) λg3 h=>bnK h λr3 Y7 h=>rtK h (p1 (gg g1 (gg g2 (rr (Z3v Zw) (rr (Yi Z6) (gg g3 (kk 2 (rr (Yi Y7) (kk 2 ee)))))))))) λg2 h=>itK h (λg3 h=>rtK h (p1 (gg g1 (gg g2 (gg g3 (kk 3 ee)))))) λg3 h=>rtK h (p1 (gg g1 (gg g2 (gg g3 (kk 3 ee))))))
abbrev Zas (x0:List Zd) (x1c0:Zk) (r:Int):Y:=(238,[.tr (x0.map Zd.enc),.fn 184 [.rp true (Zk.enc x1c0) 0]],il r,[.undef,.undef])
theorem Zfk {x0:List Zd} {x1c0:Zk} {r:Int}:∀{m:Nat} {v0:Int},Y1 x0 x1c0 m v0=some r->CS (Zas x0 x1c0 r) Tryz.f238 [1,0,1,0] [(0,.tr (x0.map Zd.enc)),(1,.fn 184 [.rp true (Zk.enc x1c0) 0]),(7,il (x0.length:Int)),(8,il v0)] []:=by
 intro m
 induction m with
 | zero=>intro v0 h;cases h
 | succ m ih=>exactλ{v0} h=>itK h (λg1 h=>bnK h λa0 Zz h=>bnK h λr0 Zo h=>itK h (λg2 h=>rtK h (gg g1 (xb Zd.enc Zz (rr (Z9m Zo) (gg g2 ee))))) λg2 h=>Zj [] 16 (gg g1 (xb Zd.enc Zz (rr (Z9m Zo) (gg g2 ee)))) (ih h)) λg1 h=>rtK h (gg g1 ee)
theorem Zht {x0:List Zd} {x1c0:Zk} {r:Int} (h:Qz x0 x1c0=some r):Zu Tryz.prog Mo (Zas x0 x1c0 r):=
 Zs Tryz.func238 (Zj [] 6 (lr Zd.enc x0 ee) (Zfk h))
abbrev Zf0 (x0:List Zd) (x1c0:Zk) (r:Bool):Y:=(183,[.tr (x0.map Zd.enc),.fn 184 [.rp true (Zk.enc x1c0) 0]],bl r,[.undef,.undef])
theorem Zf2 {x0:List Zd} {x1c0:Zk} {r:Bool} (h:X7 x0 x1c0=some r):Zu Tryz.prog Mo (Zf0 x0 x1c0 r):=
 Zs Tryz.func183 (bnK h λr0 Zo h=>rtK h (rr (Zht Zo) ee))
abbrev Yxv (x0:Zk) (r:Bool):Y:=(111,[.agg (Zk.enc x0)],bl r,[.undef])
theorem Ztl {x0:Zk} {r:Bool} (h:Znr x0=some r):Zu Tryz.prog Mo (Yxv x0 r):=
 Zs Tryz.func111 (bnK h λr0 Zo h=>have p1 {q p} (k:Scr q p):=(lr Zd.enc x0.masters (rr (Yi Zo) k));itK h (λg1 h=>rtK h (p1 (gg g1 (kk 14 ee)))) λg1 h=>bnK h λr1 Zw h=>have p2 {q p} (k:Scr q p):=(p1 (gg g1 (kk 2 (rr (Yi Zw) (kk 2 k)))));itK h (λg2 h=>rtK h (p2 (gg g2 (kk 9 ee)))) λg2 h=>bnK h λr2 Z6 h=>have p3 {q p} (k:Scr q p):=(p2 (gg g2 (kk 2 (rr (Yi Z6) (kk 2 k)))));itK h (λg3 h=>rtK h (p3 (gg g3 (kk 4 ee)))) λg3 h=>bnK h λr3 Y7 h=>itK h (λg4 h=>rtK h (p3 (gg g3 (kk 1 (rr (Z5x Y7) (kk 2 (gg g4 ee))))))) λg4 h=>bnK h λr4 Q5 h=>rtK h (p3 (gg g3 (kk 1 (rr (Z5x Y7) (kk 2 (gg g4 (rr (Zf2 Q5) ee))))))))
abbrev Zj1 (x0:List Zd) (r:List Zd):Y:=(186,[.tr (x0.map Zd.enc)],.own 150 (r.map Zd.enc),[.undef])
theorem Zw1 {x0:List Zd} {r:List Zd} (h:Zae x0=some r):Zu Tryz.prog Mo (Zj1 x0 r):=by
 refine Zs Tryz.func186 ?_;unfold Zae at h;cases x0 with
 | nil=>
  obtain rfl:[]=r:=(Z4o h);have hn:CS (Zj1 [] []) Tryz.f186 [1,0,0] [(0,.tr [])] []:=Z58 Mo fOk (k:=at_ [1,0,1] (Xl Tryz.f186) []) (x0:=.tmp 0) (d0:=3) (d1:=4) (t:=31) (e:=150) (y:=.const (.slice none 0 0)) (by kernel_rfl) (by kernel_rfl) rfl rfl λb=>by
   cases b with
   | true=>exact rtQ rfl [.k] tt
   | false=>exact rtQ rfl [.k,.app [] true [] 0,.k] (aa (Eq.refl ([]:List (List V))) (aa (Eq.refl true) (aa (Eq.refl true) (aa (Eq.refl 0) (aa (apz 32) (aa (Eq.refl ([]:List (List V))) (aa (Eq.refl 0) (aa (Eq.refl 0) tt))))))))
  exact cutQ [] 4 [] tt hn
 | cons a l=>
  exact rtQ rfl [.k,.app ((a::l).map Zd.enc) true (r.map Zd.enc) (r.map Zd.enc).length,.k] (aa (Vde (Zd.enc a) (l.map Zd.enc)) (aa (Eq.refl ((a::l).map Zd.enc)) (aa (ltr Zd.enc_lit (a::l)) (aa (alr 4 Zd.enc_len (a::l)) (aa (Eq.refl 0) (aa (apl Zd.enc h) (aa (apm0 Zd.enc h) (aa (Z8f Zd.enc r) (aa (Z8f Zd.enc r) tt)))))))))
abbrev Yrw (x0:Zk) (r:Zk):Y:=(112,[.agg (Zk.enc x0)],.agg [.own 150 (r.masters.map Zd.enc),il r.quantum,il r.maxWait,il r.maxRetry,il r.maxSplit,il r.lockMost],[.undef])
theorem Ys3 {x0:Zk} {r:Zk} (h:Zux x0=some r):Zu Tryz.prog Mo (Yrw x0 r):=
 Zs Tryz.func112 (bnK h λr0 Zo h=>rtK h (rr (Zw1 Zo) (kk 1 (oe Zd.enc r0 ee))))
abbrev Yud (x0:Int) (r:Int):Y:=(116,[il x0],il r,[.undef])
theorem Zuo {x0:Int} {r:Int} (h:Zg5 x0=some r):Zu Tryz.prog Mo (Yud x0 r):=
 Zs Tryz.func116 (bnK h λr0 Zo h=>itK h (λg1 h=>rtK h (rr (Yi Zo) (gg g1 ee))) λg1 h=>bnK h λa0 Zz h=>rtK h (rr (Yi Zo) (gg g1 (xd Ze Zz ee))))
abbrev Ysk (x0:Int) (r:Int):Y:=(241,[il x0],il r,[.undef])
theorem Zcv {x0:Int} {r:Int} (h:J8 x0=some r):Zu Tryz.prog Mo (Ysk x0 r):=
 Zs Tryz.func241 (bnK h λr0 Zo h=>itK h (λg1 h=>rtK h (rr (Yi Zo) (gg g1 ee))) λg1 h=>bnK h λn0 hn0 h=>rtK h (rr (Yi Zo) (gg g1 (tp (.obl) (ob (nn0 hn0) ee)))))
abbrev Ys8 (x0:Int) (x1:Int) (r:Bool):Y:=(223,[il x0,il x1],bl r,[.undef,.undef])
theorem Zgv {x0:Int} {x1:Int} {r:Bool} (h:Zgz x0 x1=some r):Zu Tryz.prog Mo (Ys8 x0 x1 r):=
 Zs Tryz.func223 (bnK h λr0 Zo h=>itK h (λg1 h=>itK h (λg2 h=>bnK h λr1 Zw h=>bnK h λn0 hn0 h=>rtK h (rr (Yi Zo) (gg g1 (kk 2 (gg g2 (kk 2 (rr (Zcv Zw) (kk 1 (tp (.obl) (kk 2 (ob (nz0 hn0) ee))))))))))) λg2 h=>rtK h (rr (Yi Zo) (gg g1 (kk 2 (gg g2 (kk 5 ee)))))) λg1 h=>rtK h (rr (Yi Zo) (gg g1 (kk 8 ee))))
abbrev Z79 (x0:Int) (x1:Int) (x2:Int) (r:Int):Y:=(240,[il x0,il x1,il x2],il r,[.undef,.undef,.undef])
theorem Zqi {x0:Int} {x1:Int} {x2:Int} {r:Int} {v0:Bool} (h:Zes x0 x1 x2 v0=some r):CS (Z79 x0 x1 x2 r) Tryz.f240 [1,0,1] [(0,il x0),(1,il x1),(2,il x2),(21,bl v0)] []:=
 itK h (λg1 h=>rtK h (gg g1 ee)) λg1 h=>bnK h λr0 Zo h=>bnK h λr1 Zw h=>have p1 {q p} (k:Scr q p):=(gg g1 (rr (Zcv Zo) (rr (Zcv Zw) k)));itK h (λg2 h=>bnK h λn0 hn0 h=>itK h (λg3 h=>rtK h (p1 (gg g2 (kk 2 (tp (.obl) (kk 2 (ob (nz0 hn0) (gg g3 ee)))))))) λg3 h=>rtK h (p1 (gg g2 (kk 2 (tp (.obl) (kk 2 (ob (nz0 hn0) (gg g3 ee)))))))) λg2 h=>rtK h (p1 (gg g2 (kk 5 ee)))
theorem Z9k {x0:Int} {x1:Int} {x2:Int} {r:Int} (h:Zti x0 x1 x2=some r):Zu Tryz.prog Mo (Z79 x0 x1 x2 r):=
 Zs Tryz.func240 (bnK h λr2 Z6 h=>itK h (λg1 h=>Zj [] 5 (rr (Zgv Z6) (gg g1 (kk 6 ee))) (Zqi h)) λg1 h=>itK h (λg2 h=>Zj [] 5 (rr (Zgv Z6) (gg g1 (kk 2 (gg g2 (kk 3 ee))))) (Zqi h)) λg2 h=>bnK h λr3 Y7 h=>Zj [] 5 (rr (Zgv Z6) (gg g1 (kk 2 (gg g2 (kk 1 (rr (Zuo Y7) (kk 2 ee))))))) (Zqi h))
abbrev Z3t (x0:Int) (x1:Int) (x2:Int) (r:List Int):Y:=(188,[il x0,il x1,il x2],.own 3 (r.map Ze),[.undef,.undef,.undef])
theorem Z8l {x0:Int} {x1:Int} {x2:Int} {r:List Int}:∀{m:Nat} {v0:Int} {v1:List Int} {v2:Int} {v3:Int},Zgm x0 x1 x2 m v0 v1 v2 v3=some r->CS (Z3t x0 x1 x2 r) Tryz.f188 [1,1,0,1,0] [(0,il v0),(1,il x1),(2,il x2),(7,.sl (1,1) 0 (v1.map Ze).length),(11,il v2),(12,il v3)] [rx 1 3 (v1.map Ze)]:=by
 intro m
 induction m with
 | zero=>intro v0 v1 v2 v3 h;cases h
 | succ m ih=>exactλ{v0} {v1} {v2} {v3} h=>itK h (λg1 h=>bnK h λr0 Zo h=>itK h (λg2 h=>rtK h (gg g1 (rr (Z9k Zo) (gg g2 ee)))) λg2 h=>bnK h λz0 W0 h=>Zj [((1,1),(5,3072))] 20 (gg g1 (rr (Z9k Zo) (gg g2 (ta Ze [v0] z0 (kk 1 (oa 1 Zcb v0 (ox Ze W0 (ln Ze z0 (oe Ze z0 ee))))))))) (ih h)) λg1 h=>rtK h (gg g1 (kk 1 (oe Ze v1 ee)))
theorem Z30 {x0:Int} {x1:Int} {x2:Int} {r:List Int} (h:Zh3 x0 x1 x2=some r):Zu Tryz.prog Mo (Z3t x0 x1 x2 r):=
 Zs Tryz.func188 (bnK h λr1 Zw h=>Zj [((1,1),(2,0))] 8 (rr (Zuo Zw) (tp (.num ([].map Ze).length 0 0 []) (ob (show 0=([].map Ze).length from rfl) ee))) (Z8l h))
abbrev Ybu (x0:Int) (x1:Int) (x2:Int) (r:Bool):Y:=(117,[il x0,il x1,il x2],bl r,[.undef,.undef,.undef])
theorem Yg7 {x0:Int} {x1:Int} {x2:Int} {r:Bool}:∀{m:Nat} {v0:List Int} {v1:Int} {v2:Int},Zlr x0 x1 x2 m v0 v1 v2=some r->CS (Ybu x0 x1 x2 r) Tryz.f117 [1,1,0,1,0] [(7,.sl (1,1) 0 (v0.map Ze).length),(14,.sl (1,1) 0 (v0.map Ze).length),(15,il v1),(16,il v2)] [rx 1 3 (v0.map Ze)]:=by
 intro m
 induction m with
 | zero=>intro v0 v1 v2 h;cases h
 | succ m ih=>exactλ{v0} {v1} {v2} h=>itK h (λg1 h=>bnK h λa0 Zz h=>bnK h λa1 Yv h=>itK h (λg2 h=>rtK h (gg g1 (xd Ze Zz (kk 1 (xd Ze Yv (kk 1 (gg g2 ee))))))) λg2 h=>Zj [((1,1),(1,1))] 16 (gg g1 (xd Ze Zz (kk 1 (xd Ze Yv (kk 1 (gg g2 (ln Ze v0 (ln Ze v0 ee)))))))) (ih h)) λg1 h=>rtK h (gg g1 (lr Ze v0 ee))
theorem Z29 {x0:Int} {x1:Int} {x2:Int} {r:Bool} (h:Zu0 x0 x1 x2=some r):Zu Tryz.prog Mo (Ybu x0 x1 x2 r):=
 Zs Tryz.func117 (bnK h λr0 Zo h=>Zj [((1,1),(2,3072))] 8 (rr (Z30 Zo) (lr Ze r0 (ln Ze r0 (ln Ze r0 ee)))) (Yg7 h))
abbrev Yru (x0:Int) (r:Int):Y:=(190,[il x0],il r,[.undef])
theorem Ya8 {x0:Int} {r:Int} (h:Zo1 x0=some r):Zu Tryz.prog Mo (Yru x0 r):=
 Zs Tryz.func190 (bnK h λr0 Zo h=>itK h (λg1 h=>rtK h (rr (Zcv Zo) (gg g1 ee))) λg1 h=>bnK h λr1 Zw h=>bnK h λn0 hn0 h=>rtK h (rr (Zcv Zo) (gg g1 (rr (Zcv Zw) (tp (.obl) (ob (nn0 hn0) ee))))))
abbrev Y1r (x0:Int) (x1:Int) (r:Bool):Y:=(120,[il x0,il x1],bl r,[.undef,.undef])
theorem Zmz {x0:Int} {x1:Int} {r:Bool} (h:Zd8 x0 x1=some r):Zu Tryz.prog Mo (Y1r x0 x1 r):=
 Zs Tryz.func120 (bnK h λr0 Zo h=>bnK h λr1 Zw h=>rtK h (rr (Ya8 Zo) (rr (Yi Zw) ee)))
abbrev Ytp (x0:Int) (x1:Zf) (r:Bool):Y:=(119,[il x0,.rp true (Zf.enc x1) 0],bl r,[.undef,.undef])
theorem Ybd {x0:Int} {x1:Zf} {r:Bool} (h:Zun x0 x1=some r):Zu Tryz.prog Mo (Ytp x0 x1 r):=
 Zs Tryz.func119 (bnK h λr0 Zo h=>rtK h (rr (Zmz Zo) ee))
abbrev Zcn (x0:List Int) (x1c0:Zf) (r:Int):Y:=(189,[.tr (x0.map Ze),.fn 119 [.rp true (Zf.enc x1c0) 0]],il r,[.undef,.undef])
theorem Zii {x0:List Int} {x1c0:Zf} {r:Int}:∀{m:Nat} {v0:Int},Q7 x0 x1c0 m v0=some r->CS (Zcn x0 x1c0 r) Tryz.f189 [1,0,1,0] [(0,.tr (x0.map Ze)),(1,.fn 119 [.rp true (Zf.enc x1c0) 0]),(7,il (x0.length:Int)),(8,il v0)] []:=by
 intro m
 induction m with
 | zero=>intro v0 h;cases h
 | succ m ih=>exactλ{v0} h=>itK h (λg1 h=>bnK h λa0 Zz h=>bnK h λr0 Zo h=>itK h (λg2 h=>rtK h (gg g1 (xb Ze Zz (rr (Ybd Zo) (gg g2 ee))))) λg2 h=>Zj [] 16 (gg g1 (xb Ze Zz (rr (Ybd Zo) (gg g2 ee)))) (ih h)) λg1 h=>rtK h (gg g1 ee)
theorem Zl2 {x0:List Int} {x1c0:Zf} {r:Int} (h:K4 x0 x1c0=some r):Zu Tryz.prog Mo (Zcn x0 x1c0 r):=
 Zs Tryz.func189 (Zj [] 6 (lr Ze x0 ee) (Zii h))
abbrev Ziv (x0:List Int) (x1c0:Zf) (r:Bool):Y:=(118,[.tr (x0.map Ze),.fn 119 [.rp true (Zf.enc x1c0) 0]],bl r,[.undef,.undef])
theorem Zi0 {x0:List Int} {x1c0:Zf} {r:Bool} (h:Wt x0 x1c0=some r):Zu Tryz.prog Mo (Ziv x0 x1c0 r):=
 Zs Tryz.func118 (bnK h λr0 Zo h=>rtK h (rr (Zl2 Zo) ee))
abbrev Ykh (x0:Zf) (r:Bool):Y:=(52,[.agg (Zf.enc x0)],bl r,[.undef])
theorem Z6p {x0:Zf} {r:Bool} {v0:Int} (h:Zpw x0 v0=some r):CS (Ykh x0 r) Tryz.f52 [1,1,1] [(1,.ptr (1,1) 0 0),(3,il v0)] [bx 1 (Zf.enc x0)]:=
 bnK h λr0 Zo h=>itK h (λg1 h=>itK h (λg2 h=>bnK h λr1 Zw h=>rtK h (rr (Z29 Zo) (gg g1 (kk 2 (lr Ze x0.data_ (kk 3 (gg g2 (kk 3 (rr (Zi0 Zw) (kk 2 ee)))))))))) λg2 h=>rtK h (rr (Z29 Zo) (gg g1 (kk 2 (lr Ze x0.data_ (kk 3 (gg g2 (kk 5 ee)))))))) λg1 h=>rtK h (rr (Z29 Zo) (gg g1 (kk 11 ee)))
theorem Z9e {x0:Zf} {r:Bool} (h:Zwa x0=some r):Zu Tryz.prog Mo (Ykh x0 r):=
 Zs Tryz.func52 (itK h (λg1 h=>bnK h λr2 Z6 h=>Zj [((1,1),(1,0))] 9 (gg g1 (rr (Zuo Z6) ee)) (Z6p h)) λg1 h=>Zj [((1,1),(1,0))] 9 (gg g1 ee) (Z6p h))
abbrev Zpd (x0:List Int) (r:List Int):Y:=(159,[.tr (x0.map Ze)],.own 3 (r.map Ze),[.undef])
theorem Wv {x0:List Int} {r:List Int} (h:Xc x0=some r):Zu Tryz.prog Mo (Zpd x0 r):=by
 refine Zs Tryz.func159 ?_;unfold Xc at h;cases x0 with
 | nil=>
  obtain rfl:[]=r:=(Z4o h);have hn:CS (Zpd [] []) Tryz.f159 [1,0,0] [(0,.tr [])] []:=Z58 Mo fOk (k:=at_ [1,0,1] (Xl Tryz.f159) []) (x0:=.tmp 0) (d0:=3) (d1:=4) (t:=45) (e:=3) (y:=.const (.slice none 0 0)) (by kernel_rfl) (by kernel_rfl) rfl rfl λb=>by
   cases b with
   | true=>exact rtQ rfl [.k] tt
   | false=>exact rtQ rfl [.k,.app [] true [] 0,.k] (aa (Eq.refl ([]:List (List V))) (aa (Eq.refl true) (aa (Eq.refl true) (aa (Eq.refl 0) (aa (apz 8) (aa (Eq.refl ([]:List (List V))) (aa (Eq.refl 0) (aa (Eq.refl 0) tt))))))))
  exact cutQ [] 4 [] tt hn
 | cons a l=>
  exact rtQ rfl [.k,.app ((a::l).map Ze) true (r.map Ze) (r.map Ze).length,.k] (aa (Vde (Ze a) (l.map Ze)) (aa (Eq.refl ((a::l).map Ze)) (aa (ltr Zqc (a::l)) (aa (alr 1 Zcb (a::l)) (aa (Eq.refl 0) (aa (apl Ze h) (aa (apm0 Ze h) (aa (Z8f Ze r) (aa (Z8f Ze r) tt)))))))))
abbrev Ywt (x0:Zf) (r:Zf):Y:=(214,[.agg (Zf.enc x0)],.agg [bl r.write,il r.addr,il r.size,il r.burst,bl r.lock,.own 3 (r.data_.map Ze)],[.undef])
theorem Z53 {x0:Zf} {r:Zf} (h:Zir x0=some r):Zu Tryz.prog Mo (Ywt x0 r):=
 Zs Tryz.func214 (bnK h λr0 Zo h=>rtK h (rr (Wv Zo) (kk 1 (oe Ze r0 ee))))
abbrev Ygy (x0:Zb) (r:Zb):Y:=(157,[.agg (Zb.enc x0)],.agg [.own 104 (r.queue.map Zf.enc),il r.beat,il r.done,il r.tries,bl r.parted,bl r.broken],[.undef])
theorem Yi7 {x0:Zb} {r:Zb}:∀{m:Nat} {v0:List Zf} {v1:Int},Znm x0 m v0 v1=some r->CS (Ygy x0 r) Tryz.f157 [1,1,0,1,0] [(1,.ptr (1,1) 0 0),(2,.ptr (1,2) 0 0),(3,.sl (1,4) 0 (v0.map Zf.enc).length),(8,.tr (x0.queue.map Zf.enc)),(9,il (x0.queue.length:Int)),(10,il v1)] [bx 1 (Zb.enc x0),rx 3 104 ([].map Zf.enc),bx 2 [.sl (1,3) 0 ([].map Zf.enc).length,il 0,il 0,il 0,bl false,bl false],rx 4 104 (v0.map Zf.enc)]:=by
 intro m
 induction m with
 | zero=>intro v0 v1 h;cases h
 | succ m ih=>exactλ{v0} {v1} h=>itK h (λg1 h=>bnK h λa0 Zz h=>bnK h λr0 Zo h=>bnK h λz0 W0 h=>Zj (ffi 1 3++[((1,4),(4,4096))]) 13 (gg g1 (xb Zf.enc Zz (rr (Z53 Zo) (kk 1 (ta Zf.enc [r0] z0 (kk 1 (oe Ze r0.data_ (oa 6 Zf.enc_len r0 (ox Zf.enc W0 (ln Zf.enc z0 (oe Zf.enc z0 (ln Zf.enc [] ee)))))))))))) (ih h)) λg1 h=>rtK h (gg g1 (kk 1 (oe Zf.enc v0 ee)))
theorem Zft {x0:Zb} {r:Zb} (h:Zf8 x0=some r):Zu Tryz.prog Mo (Ygy x0 r):=
 Zs Tryz.func157 (Zj [((1,1),(1,0)),((1,2),(1,1024)),((1,4),(2,0))] 8 (lr Zf.enc x0.queue (tp (.num ([].map Zf.enc).length 0 0 []) (ob (show 0=([].map Zf.enc).length from rfl) ee))) (Yi7 h))
abbrev Zhy (x0:List Zc) (r:List Zc):Y:=(158,[.tr (x0.map Zc.enc)],.own 158 (r.map Zc.enc),[.undef])
theorem Zue {x0:List Zc} {r:List Zc} (h:Jp x0=some r):Zu Tryz.prog Mo (Zhy x0 r):=by
 refine Zs Tryz.func158 ?_;unfold Jp at h;cases x0 with
 | nil=>
  obtain rfl:[]=r:=(Z4o h);have hn:CS (Zhy [] []) Tryz.f158 [1,0,0] [(0,.tr [])] []:=Z58 Mo fOk (k:=at_ [1,0,1] (Xl Tryz.f158) []) (x0:=.tmp 0) (d0:=3) (d1:=4) (t:=52) (e:=158) (y:=.const (.slice none 0 0)) (by kernel_rfl) (by kernel_rfl) rfl rfl λb=>by
   cases b with
   | true=>exact rtQ rfl [.k] tt
   | false=>exact rtQ rfl [.k,.app [] true [] 0,.k] (aa (Eq.refl ([]:List (List V))) (aa (Eq.refl true) (aa (Eq.refl true) (aa (Eq.refl 0) (aa (apz 16) (aa (Eq.refl ([]:List (List V))) (aa (Eq.refl 0) (aa (Eq.refl 0) tt))))))))
  exact cutQ [] 4 [] tt hn
 | cons a l=>
  exact rtQ rfl [.k,.app ((a::l).map Zc.enc) true (r.map Zc.enc) (r.map Zc.enc).length,.k] (aa (Vde (Zc.enc a) (l.map Zc.enc)) (aa (Eq.refl ((a::l).map Zc.enc)) (aa (ltr Zc.enc_lit (a::l)) (aa (alr 2 Zc.enc_len (a::l)) (aa (Eq.refl 0) (aa (apl Zc.enc h) (aa (apm0 Zc.enc h) (aa (Z8f Zc.enc r) (aa (Z8f Zc.enc r) tt)))))))))
abbrev Yw4 (x0:Zn) (r:Zn):Y:=(215,[.agg (Zn.enc x0)],.agg (Zn.ow r),[.undef])
theorem Yft {x0:Zn} {r:Zn} (h:Zrs x0=some r):Zu Tryz.prog Mo (Yw4 x0 r):=
 Zs Tryz.func215 (bnK h λr0 Zo h=>bnK h λr1 Zw h=>rtK h (rr (Wv Zo) (rr (Wv Zw) (kk 2 (oe Ze r0 (oe Ze r1 ee))))))
abbrev Ynn (x0:Zh) (r:Zh):Y:=(160,[.agg (Zh.enc x0)],.agg (Zh.ow r),[.undef])
theorem Zy9 {x0:Zh} {r:Zh} (h:Zh0 x0=some r):Zu Tryz.prog Mo (Ynn x0 r):=
 Zs Tryz.func160 (bnK h λr0 Zo h=>bnK h λr1 Zw h=>rtK h (rr (Wv Zo) (rr (Yft Zw) (kk 3 (oe Ze r0 (Zn.so r1 ee))))))
abbrev Zl4 (x0:List Zm) (r:List Zm):Y:=(161,[.tr (x0.map Zm.enc)],.own 113 (r.map Zm.enc),[.undef])
theorem Zzl {x0:List Zm} {r:List Zm} (h:Zbp x0=some r):Zu Tryz.prog Mo (Zl4 x0 r):=by
 refine Zs Tryz.func161 ?_;unfold Zbp at h;cases x0 with
 | nil=>
  obtain rfl:[]=r:=(Z4o h);have hn:CS (Zl4 [] []) Tryz.f161 [1,0,0] [(0,.tr [])] []:=Z58 Mo fOk (k:=at_ [1,0,1] (Xl Tryz.f161) []) (x0:=.tmp 0) (d0:=3) (d1:=4) (t:=28) (e:=113) (y:=.const (.slice none 0 0)) (by kernel_rfl) (by kernel_rfl) rfl rfl λb=>by
   cases b with
   | true=>exact rtQ rfl [.k] tt
   | false=>exact rtQ rfl [.k,.app [] true [] 0,.k] (aa (Eq.refl ([]:List (List V))) (aa (Eq.refl true) (aa (Eq.refl true) (aa (Eq.refl 0) (aa (apz 56) (aa (Eq.refl ([]:List (List V))) (aa (Eq.refl 0) (aa (Eq.refl 0) tt))))))))
  exact cutQ [] 4 [] tt hn
 | cons a l=>
  exact rtQ rfl [.k,.app ((a::l).map Zm.enc) true (r.map Zm.enc) (r.map Zm.enc).length,.k] (aa (Vde (Zm.enc a) (l.map Zm.enc)) (aa (Eq.refl ((a::l).map Zm.enc)) (aa (ltr Zm.enc_lit (a::l)) (aa (alr 7 Zm.enc_len (a::l)) (aa (Eq.refl 0) (aa (apl Zm.enc h) (aa (apm0 Zm.enc h) (aa (Z8f Zm.enc r) (aa (Z8f Zm.enc r) tt)))))))))
abbrev Ygn (x0:Za) (r:Za):Y:=(95,[.agg (Za.enc x0)],.agg (Za.ow r),[.undef])
theorem Yjg {x0:Za} {r:Za}:∀{m:Nat} {vb0:Za} {v0:List Zb} {v1:Int},Zh1 x0 m vb0 v0 v1=some r->CS (Ygn x0 r) Tryz.f95 [1,1,1,0,1,0] [(1,.ptr (1,1) 0 0),(2,.ptr (1,3) 0 0),(3,.sl (1,12) 0 (v0.map Zb.enc).length),(12,.tr (x0.m.map Zb.enc)),(13,il (x0.m.length:Int)),(14,il v1)] ([rx 2 150 (vb0.conf.masters.map Zd.enc),bx 1 [.sl (1,2) 0 (vb0.conf.masters.map Zd.enc).length,il vb0.conf.quantum,il vb0.conf.maxWait,il vb0.conf.maxRetry,il vb0.conf.maxSplit,il vb0.conf.lockMost,il vb0.now,.tr (vb0.m.map Zb.enc),il vb0.arb.at_,il vb0.arb.credit,.tr (vb0.buckets.map Zc.enc),.tr (vb0.splits.map Ze),il vb0.holder,il vb0.held,il vb0.last,bl vb0.addr.live,il vb0.addr.who,il vb0.addr.beat,bl vb0.addr.first,il vb0.addr.by_,il vb0.addr.left,il vb0.addr.resp,bl vb0.addr.second,bl vb0.data_.live,il vb0.data_.who,il vb0.data_.beat,bl vb0.data_.first,il vb0.data_.by_,il vb0.data_.left,il vb0.data_.resp,bl vb0.data_.second,.tr (vb0.model.mem.map Ze),.tr (vb0.model.dev.regs.map Ze),il vb0.model.dev.timer,.tr (vb0.model.dev.fifo.map Ze),il vb0.picks,.tr (vb0.log.map Zm.enc)]]++Za.bk Za.z0 4++[bx 3 (Za.rl Za.z0 4),rx 12 156 (v0.map Zb.enc)]):=by
 intro m
 induction m with
 | zero=>intro vb0 v0 v1 h;cases h
 | succ m ih=>exactλ{vb0} {v0} {v1} h=>itK h (λg1 h=>bnK h λa0 Zz h=>bnK h λr0 Zo h=>bnK h λz0 W0 h=>Zj (ffi 1 11++[((1,12),(4,4096))]) 13 (gg g1 (xb Zb.enc Zz (rr (Zft Zo) (kk 1 (ta Zb.enc [r0] z0 (kk 1 (oe Zf.enc r0.queue (oa 6 Zb.enc_len r0 (ox Zb.enc W0 (ln Zb.enc z0 (oe Zb.enc z0 (ln Zd.enc vb0.conf.masters (Za.sc Za.z0 ee))))))))))))) (ih h)) λg1 h=>bnK h λr1 Zw h=>bnK h λr2 Z6 h=>bnK h λr3 Y7 h=>bnK h λr4 Q5 h=>rtK h (gg g1 (rr (Zue Zw) (rr (Wv Z6) (rr (Zy9 Y7) (rr (Zzl Q5) (kk 8 (oe Zd.enc vb0.conf.masters (oe Zb.enc v0 (oe Zc.enc r1 (oe Ze r2 (Zh.so r3 (oe Zm.enc r4 ee))))))))))))
theorem Z6f {x0:Za} {r:Za} (h:Ztj x0=some r):Zu Tryz.prog Mo (Ygn x0 r):=
 Zs Tryz.func95 (bnK h λr5 hr5 h=>Zj [((1,1),(1,0)),((1,2),(2,2048)),((1,3),(1,1024)),((1,12),(3,0))] 10 (rr (Ys3 hr5) (lr Zb.enc x0.m (tp (.num ([].map Zb.enc).length 0 0 []) (ob (show 0=([].map Zb.enc).length from rfl) (ln Zd.enc r5.masters ee))))) (Yjg h))
abbrev Z8g (x0:Zf) (r:Bool):Y:=(248,[.agg (Zf.enc x0)],bl r,[.undef])
theorem Zv9 {x0:Zf} {r:Bool} (h:Zf4 x0=some r):Zu Tryz.prog Mo (Z8g x0 r):=
 Zs Tryz.func248 (bnK h λr0 Zo h=>rtK h (rr (Z9e Zo) ee))
abbrev J9 (x0:List Zf) (r:Int):Y:=(115,[.tr (x0.map Zf.enc),.fn 248 []],il r,[.undef,.undef])
theorem Zeu {x0:List Zf} {r:Int}:∀{m:Nat} {v0:Int},W3 x0 m v0=some r->CS (J9 x0 r) Tryz.f115 [1,0,1,0] [(0,.tr (x0.map Zf.enc)),(1,.fn 248 []),(7,il (x0.length:Int)),(8,il v0)] []:=by
 intro m
 induction m with
 | zero=>intro v0 h;cases h
 | succ m ih=>exactλ{v0} h=>itK h (λg1 h=>bnK h λa0 Zz h=>bnK h λr0 Zo h=>itK h (λg2 h=>rtK h (gg g1 (xb Zf.enc Zz (rr (Zv9 Zo) (gg g2 ee))))) λg2 h=>Zj [] 16 (gg g1 (xb Zf.enc Zz (rr (Zv9 Zo) (gg g2 ee)))) (ih h)) λg1 h=>rtK h (gg g1 ee)
theorem Zgs {x0:List Zf} {r:Int} (h:Qo x0=some r):Zu Tryz.prog Mo (J9 x0 r):=
 Zs Tryz.func115 (Zj [] 6 (lr Zf.enc x0 ee) (Zeu h))
abbrev Zff (x0:List Zf) (r:Bool):Y:=(50,[.tr (x0.map Zf.enc),.fn 248 []],bl r,[.undef,.undef])
theorem Zfh {x0:List Zf} {r:Bool} (h:X2 x0=some r):Zu Tryz.prog Mo (Zff x0 r):=
 Zs Tryz.func50 (bnK h λr0 Zo h=>rtK h (rr (Zgs Zo) ee))
abbrev Ylm (x0:Zb) (r:Int):Y:=(224,[.rp true (Zb.enc x0) 0],il r,[.undef])
theorem Zdn {x0:Zb} {r:Int} (h:Zbx x0=some r):Zu Tryz.prog Mo (Ylm x0 r):=
 Zs Tryz.func224 (itK h (λg1 h=>rtK h (lr Zf.enc x0.queue (gg g1 ee))) λg1 h=>bnK h λa0 Zz h=>bnK h λr0 Zo h=>rtK h (lr Zf.enc x0.queue (gg g1 (xb Zf.enc Zz (rr (Zuo Zo) ee)))))
abbrev Zzq (x0:Zb) (r:Bool):Y:=(216,[.agg (Zb.enc x0)],bl r,[.undef])
theorem Zjb {x0:Zb} {r:Bool} {v0:Bool} (h:Wq x0 v0=some r):CS (Zzq x0 r) Tryz.f216 [1,0,1] [(1,.ptr (1,1) 0 0),(16,bl v0)] [bx 1 (Zb.enc x0)]:=
 itK h (λg1 h=>rtK h (gg g1 ee)) λg1 h=>have p1 {q p} (k:Scr q p):=(gg g1 (lr Zf.enc x0.queue k));itK h (λg2 h=>itK h (λg3 h=>itK h (λg4 h=>have p2 {q p} (k:Scr q p):=(p1 (gg g2 (gg g3 (kk 3 (gg g4 (kk 3 k))))));itK h (λg5 h=>itK h (λg6 h=>rtK h (p2 (gg g5 (kk 3 (gg g6 (kk 3 ee)))))) λg6 h=>rtK h (p2 (gg g5 (kk 3 (gg g6 (kk 3 ee)))))) λg5 h=>rtK h (p2 (gg g5 (kk 7 ee)))) λg4 h=>rtK h (p1 (gg g2 (gg g3 (kk 3 (gg g4 (kk 11 ee))))))) λg3 h=>rtK h (p1 (gg g2 (gg g3 (kk 15 ee))))) λg2 h=>bnK h λr0 Zo h=>bnK h λr1 Zw h=>itK h (λg3 h=>bnK h λr2 Z6 h=>bnK h λr3 Y7 h=>rtK h (p1 (gg g2 (rr (Zdn Zo) (rr (Yi Zw) (gg g3 (kk 7 (rr (Zdn Z6) (kk 2 (rr (Yi Y7) (kk 1 ee))))))))))) λg3 h=>rtK h (p1 (gg g2 (rr (Zdn Zo) (rr (Yi Zw) (gg g3 (kk 10 ee))))))
theorem Qq {x0:Zb} {r:Bool} (h:Kg x0=some r):Zu Tryz.prog Mo (Zzq x0 r):=
 Zs Tryz.func216 (itK h (λg1 h=>Zj [((1,1),(1,0))] 5 (lr Zf.enc x0.queue (gg g1 (kk 7 ee))) (Zjb h)) λg1 h=>itK h (λg2 h=>Zj [((1,1),(1,0))] 5 (lr Zf.enc x0.queue (gg g1 (kk 3 (gg g2 (kk 3 ee))))) (Zjb h)) λg2 h=>bnK h λr4 Q5 h=>Zj [((1,1),(1,0))] 5 (lr Zf.enc x0.queue (gg g1 (kk 3 (gg g2 (kk 2 (rr (Zfh Q5) (kk 1 ee))))))) (Zjb h))
abbrev Yny (x0:Zc) (x1:Zd) (r:Bool):Y:=(217,[.agg (Zc.enc x0),.agg (Zd.enc x1)],bl r,[.undef,.undef])
theorem Z7x {x0:Zc} {x1:Zd} {r:Bool} (h:Zm9 x0 x1=some r):Zu Tryz.prog Mo (Yny x0 x1 r):=
 Zs Tryz.func217 (itK h (λg1 h=>rtK h (gg g1 ee)) λg1 h=>bnK h λr0 Zo h=>itK h (λg2 h=>itK h (λg3 h=>rtK h (gg g1 (rr (Yi Zo) (gg g2 (kk 3 (gg g3 (kk 5 ee))))))) λg3 h=>rtK h (gg g1 (rr (Yi Zo) (gg g2 (kk 3 (gg g3 (kk 5 ee))))))) λg2 h=>rtK h (gg g1 (rr (Yi Zo) (gg g2 (kk 9 ee)))))
abbrev Zmw (x0:Za) (r:Bool):Y:=(162,[.rp true (Za.enc x0) 0],bl r,[.undef])
theorem Z2v {x0:Za} {r:Bool}:∀{m:Nat} {v0:Int},Zgt x0 m v0=some r->CS (Zmw x0 r) Tryz.f162 [1,1,1,0,1,0] [(0,.rp true (Za.enc x0) 0),(40,.tr (x0.m.map Zb.enc)),(41,il (x0.m.length:Int)),(42,il v0)] []:=by
 intro m
 induction m with
 | zero=>intro v0 h;cases h
 | succ m ih=>exactλ{v0} h=>itK h (λg1 h=>bnK h λa0 Zz h=>bnK h λr0 Zo h=>have p1 {q p} (k:Scr q p):=(gg g1 (xb Zb.enc Zz (rr (Qq Zo) k)));itK h (λg2 h=>rtK h (p1 (gg g2 (kk 42 ee)))) λg2 h=>itK h (λg3 h=>rtK h (p1 (gg g2 (kk 8 (gg g3 (kk 33 ee)))))) λg3 h=>bnK h λa1 Yv h=>bnK h λa2 Ks h=>bnK h λr1 Zw h=>have p2 {q p} (k:Scr q p):=(p1 (gg g2 (kk 8 (gg g3 (kk 5 (xb Zc.enc Yv (kk 8 (xb Zd.enc Ks (kk 2 (rr (Z7x Zw) (kk 2 k)))))))))));itK h (λg4 h=>rtK h (p2 (gg g4 (kk 15 ee)))) λg4 h=>bnK h λa3 ha3 h=>bnK h λr2 Z6 h=>have p3 {q p} (k:Scr q p):=(p2 (gg g4 (kk 5 (xb Ze ha3 (kk 7 (rr (Yi Z6) (kk 2 k)))))));itK h (λg5 h=>rtK h (p3 (gg g5 ee))) λg5 h=>Zj [] 16 (p3 (gg g5 ee)) (ih h)) λg1 h=>rtK h (gg g1 ee)
theorem Zgw {x0:Za} {r:Bool} {v1:Bool} (h:Qr x0 v1=some r):CS (Zmw x0 r) Tryz.f162 [1,1,0,1] [(0,.rp true (Za.enc x0) 0),(36,bl v1)] []:=
 itK h (λg1 h=>rtK h (gg g1 ee)) λg1 h=>Zj [] 6 (gg g1 (lr Zb.enc x0.m ee)) (Z2v h)
theorem Z7c {x0:Za} {r:Bool} (h:Zge x0=some r):Zu Tryz.prog Mo (Zmw x0 r):=
 Zs Tryz.func162 (have p1 {q p} (k:Scr q p):=(lr Zd.enc x0.conf.masters (lr Zb.enc x0.m k));itK h (λg1 h=>Zj [] 7 (p1 (gg g1 (kk 15 ee))) (Zgw h)) λg1 h=>itK h (λg2 h=>Zj [] 7 (p1 (gg g1 (kk 4 (lr Zc.enc x0.buckets (kk 3 (gg g2 (kk 7 ee))))))) (Zgw h)) λg2 h=>Zj [] 7 (p1 (gg g1 (kk 4 (lr Zc.enc x0.buckets (kk 3 (gg g2 (kk 4 (lr Ze x0.splits (kk 3 ee))))))))) (Zgw h))
abbrev Ymt (x0:Zk) (x1:Int) (r:Bool):Y:=(124,[.agg (Zk.enc x0),il x1],bl r,[.undef,.undef])
theorem Ze1 {x0:Zk} {x1:Int} {r:Bool} (h:K9 x0 x1=some r):Zu Tryz.prog Mo (Ymt x0 x1 r):=
 Zs Tryz.func124 (bnK h λr0 Zo h=>rtK h (lr Zd.enc x0.masters (rr (Yi Zo) ee)))
abbrev Yfg (x0:Zk) (x1:Int) (r:Int):Y:=(218,[.agg (Zk.enc x0),il x1],il r,[.undef,.undef])
theorem Z36 {x0:Zk} {x1:Int} {r:Int} {v0:Bool} (h:Zub x0 x1 v0=some r):CS (Yfg x0 x1 r) Tryz.f218 [1,0,1] [(1,il x1),(2,.ptr (1,1) 0 0),(13,bl v0)] [bx 1 (Zk.enc x0)]:=
 itK h (λg1 h=>rtK h (gg g1 ee)) λg1 h=>bnK h λa0 Zz h=>rtK h (gg g1 (xb Zd.enc Zz ee))
theorem Z5r {x0:Zk} {x1:Int} {r:Int} (h:Zop x0 x1=some r):Zu Tryz.prog Mo (Yfg x0 x1 r):=
 Zs Tryz.func218 (bnK h λr0 Zo h=>itK h (λg1 h=>Zj [((1,1),(1,0))] 5 (rr (Ztl Zo) (gg g1 (kk 4 ee))) (Z36 h)) λg1 h=>bnK h λr1 Zw h=>Zj [((1,1),(1,0))] 5 (rr (Ztl Zo) (gg g1 (kk 2 (rr (Ze1 Zw) (kk 2 ee))))) (Z36 h))
abbrev Y1c (x0:Z2) (x1:Zk) (r:Bool):Y:=(163,[.agg (Z2.enc x0),.agg (Zk.enc x1)],bl r,[.undef,.undef])
theorem Zwj {x0:Z2} {x1:Zk} {r:Bool} (h:Zmo x0 x1=some r):Zu Tryz.prog Mo (Y1c x0 x1 r):=
 Zs Tryz.func163 (bnK h λr0 Zo h=>itK h (λg1 h=>bnK h λr1 Zw h=>have p1 {q p} (k:Scr q p):=(rr (Ztl Zo) (gg g1 (kk 3 (rr (Ze1 Zw) (kk 1 k)))));itK h (λg2 h=>bnK h λr2 Z6 h=>bnK h λr3 Y7 h=>rtK h (p1 (gg g2 (kk 5 (rr (Z5r Z6) (kk 1 (rr (Yi Y7) (kk 1 ee)))))))) λg2 h=>rtK h (p1 (gg g2 (kk 7 ee)))) λg1 h=>rtK h (rr (Ztl Zo) (gg g1 (kk 12 ee))))
abbrev Yv3 (x0:Int) (r:Bool):Y:=(249,[il x0],bl r,[.undef])
theorem Yf3 {x0:Int} {r:Bool} (h:Zxo x0=some r):Zu Tryz.prog Mo (Yv3 x0 r):=
 Zs Tryz.func249 (bnK h λr0 Zo h=>rtK h (rr (Yi Zo) ee))
abbrev Zcz (x0:List Int) (r:Int):Y:=(189,[.tr (x0.map Ze),.fn 249 []],il r,[.undef,.undef])
theorem Zje {x0:List Int} {r:Int}:∀{m:Nat} {v0:Int},Kl x0 m v0=some r->CS (Zcz x0 r) Tryz.f189 [1,0,1,0] [(0,.tr (x0.map Ze)),(1,.fn 249 []),(7,il (x0.length:Int)),(8,il v0)] []:=by
 intro m
 induction m with
 | zero=>intro v0 h;cases h
 | succ m ih=>exactλ{v0} h=>itK h (λg1 h=>bnK h λa0 Zz h=>bnK h λr0 Zo h=>itK h (λg2 h=>rtK h (gg g1 (xb Ze Zz (rr (Yf3 Zo) (gg g2 ee))))) λg2 h=>Zj [] 16 (gg g1 (xb Ze Zz (rr (Yf3 Zo) (gg g2 ee)))) (ih h)) λg1 h=>rtK h (gg g1 ee)
theorem Zm8 {x0:List Int} {r:Int} (h:Jd x0=some r):Zu Tryz.prog Mo (Zcz x0 r):=
 Zs Tryz.func189 (Zj [] 6 (lr Ze x0 ee) (Zje h))
abbrev Zjw (x0:List Int) (r:Bool):Y:=(118,[.tr (x0.map Ze),.fn 249 []],bl r,[.undef,.undef])
theorem Zjz {x0:List Int} {r:Bool} (h:Wz x0=some r):Zu Tryz.prog Mo (Zjw x0 r):=
 Zs Tryz.func118 (bnK h λr0 Zo h=>rtK h (rr (Zm8 Zo) ee))
abbrev Y2o (x0:List Int) (x1:Int) (x2:Int) (r:Bool):Y:=(219,[.tr (x0.map Ze),il x1,il x2],bl r,[.undef,.undef,.undef])
theorem Zt3 {x0:List Int} {x1:Int} {x2:Int} {r:Bool} (h:Zt6 x0 x1 x2=some r):Zu Tryz.prog Mo (Y2o x0 x1 x2 r):=
 Zs Tryz.func219 (itK h (λg1 h=>bnK h λr0 Zo h=>have p1 {q p} (k:Scr q p):=(lr Ze x0 (gg g1 (kk 1 (rr (Zjz Zo) (kk 2 k)))));itK h (λg2 h=>bnK h λr1 Zw h=>itK h (λg3 h=>bnK h λr2 Z6 h=>rtK h (p1 (gg g2 (kk 2 (rr (Zgv Zw) (kk 1 (gg g3 (kk 2 (lr Ze x0 (kk 2 (rr (Zcv Z6) (kk 3 ee)))))))))))) λg3 h=>rtK h (p1 (gg g2 (kk 2 (rr (Zgv Zw) (kk 1 (gg g3 (kk 7 ee)))))))) λg2 h=>rtK h (p1 (gg g2 (kk 11 ee)))) λg1 h=>rtK h (lr Ze x0 (gg g1 (kk 15 ee))))
abbrev Yrj (x0:Int) (r:Bool):Y:=(250,[il x0],bl r,[.undef])
theorem Ybe {x0:Int} {r:Bool} (h:Zvo x0=some r):Zu Tryz.prog Mo (Yrj x0 r):=
 Zs Tryz.func250 (bnK h λr0 Zo h=>rtK h (rr (Zmz Zo) ee))
abbrev Zcm (x0:List Int) (r:Int):Y:=(189,[.tr (x0.map Ze),.fn 250 []],il r,[.undef,.undef])
theorem Zig {x0:List Int} {r:Int}:∀{m:Nat} {v0:Int},Q6 x0 m v0=some r->CS (Zcm x0 r) Tryz.f189 [1,0,1,0] [(0,.tr (x0.map Ze)),(1,.fn 250 []),(7,il (x0.length:Int)),(8,il v0)] []:=by
 intro m
 induction m with
 | zero=>intro v0 h;cases h
 | succ m ih=>exactλ{v0} h=>itK h (λg1 h=>bnK h λa0 Zz h=>bnK h λr0 Zo h=>itK h (λg2 h=>rtK h (gg g1 (xb Ze Zz (rr (Ybe Zo) (gg g2 ee))))) λg2 h=>Zj [] 16 (gg g1 (xb Ze Zz (rr (Ybe Zo) (gg g2 ee)))) (ih h)) λg1 h=>rtK h (gg g1 ee)
theorem Zl1 {x0:List Int} {r:Int} (h:K6 x0=some r):Zu Tryz.prog Mo (Zcm x0 r):=
 Zs Tryz.func189 (Zj [] 6 (lr Ze x0 ee) (Zig h))
abbrev Ziq (x0:List Int) (r:Bool):Y:=(118,[.tr (x0.map Ze),.fn 250 []],bl r,[.undef,.undef])
theorem Za8 {x0:List Int} {r:Bool} (h:Xy x0=some r):Zu Tryz.prog Mo (Ziq x0 r):=
 Zs Tryz.func118 (bnK h λr0 Zo h=>rtK h (rr (Zl1 Zo) ee))
abbrev Y1a (x0:Zn) (r:Bool):Y:=(220,[.agg (Zn.enc x0)],bl r,[.undef])
theorem Ykg {x0:Zn} {r:Bool} (h:Zwd x0=some r):Zu Tryz.prog Mo (Y1a x0 r):=
 Zs Tryz.func220 (itK h (λg1 h=>have p1 {q p} (k:Scr q p):=(lr Ze x0.regs (gg g1 (kk 2 (lr Ze x0.fifo (kk 2 k)))));itK h (λg2 h=>bnK h λr0 Zo h=>have p2 {q p} (k:Scr q p):=(p1 (gg g2 (kk 3 (rr (Za8 Zo) (kk 2 k)))));itK h (λg3 h=>bnK h λr1 Zw h=>have p3 {q p} (k:Scr q p):=(p2 (gg g3 (kk 3 (rr (Za8 Zw) (kk 2 k)))));itK h (λg4 h=>bnK h λr2 Z6 h=>rtK h (p3 (gg g4 (kk 2 (rr (Zmz Z6) (kk 1 ee)))))) λg4 h=>rtK h (p3 (gg g4 (kk 3 ee)))) λg3 h=>rtK h (p2 (gg g3 (kk 9 ee)))) λg2 h=>rtK h (p1 (gg g2 (kk 15 ee)))) λg1 h=>rtK h (lr Ze x0.regs (gg g1 (kk 20 ee))))
abbrev Ytc (x0:Zh) (r:Bool):Y:=(164,[.agg (Zh.enc x0)],bl r,[.undef])
theorem Z2k {x0:Zh} {r:Bool} (h:Zgy x0=some r):Zu Tryz.prog Mo (Ytc x0 r):=
 Zs Tryz.func164 (itK h (λg1 h=>bnK h λr0 Zo h=>itK h (λg2 h=>bnK h λr1 Zw h=>rtK h (lr Ze x0.mem (gg g1 (kk 2 (rr (Zt3 Zo) (kk 1 (gg g2 (kk 2 (rr (Ykg Zw) (kk 1 ee)))))))))) λg2 h=>rtK h (lr Ze x0.mem (gg g1 (kk 2 (rr (Zt3 Zo) (kk 1 (gg g2 (kk 3 ee)))))))) λg1 h=>rtK h (lr Ze x0.mem (gg g1 (kk 7 ee))))
abbrev Yi4 (x0:Zg) (r:Bool):Y:=(252,[.agg (Zg.enc x0)],bl r,[.undef])
theorem Zt1 {x0:Zg} {r:Bool} (h:Znj x0=some r):Zu Tryz.prog Mo (Yi4 x0 r):=
 Zs Tryz.func252 (rtK h ee)
abbrev Zar (x0:List Zg) (r:Int):Y:=(264,[.tr (x0.map Zg.enc),.fn 252 []],il r,[.undef,.undef])
theorem Zfl {x0:List Zg} {r:Int}:∀{m:Nat} {v0:Int},Qe x0 m v0=some r->CS (Zar x0 r) Tryz.f264 [1,0,1,0] [(0,.tr (x0.map Zg.enc)),(1,.fn 252 []),(7,il (x0.length:Int)),(8,il v0)] []:=by
 intro m
 induction m with
 | zero=>intro v0 h;cases h
 | succ m ih=>exactλ{v0} h=>itK h (λg1 h=>bnK h λa0 Zz h=>bnK h λr0 Zo h=>itK h (λg2 h=>rtK h (gg g1 (xb Zg.enc Zz (rr (Zt1 Zo) (gg g2 ee))))) λg2 h=>Zj [] 16 (gg g1 (xb Zg.enc Zz (rr (Zt1 Zo) (gg g2 ee)))) (ih h)) λg1 h=>rtK h (gg g1 ee)
theorem Zhv {x0:List Zg} {r:Int} (h:Qw x0=some r):Zu Tryz.prog Mo (Zar x0 r):=
 Zs Tryz.func264 (Zj [] 6 (lr Zg.enc x0 ee) (Zfl h))
abbrev Zah (x0:List Zg) (r:List Zg):Y:=(251,[.own 54 (x0.map Zg.enc),.fn 252 []],.own 54 (r.map Zg.enc),[.undef,.undef])
theorem Zfg {x0:List Zg} {r:List Zg}:∀{m:Nat} {v0:List Zg} {v1:Int} {v2:Int},W8 x0 m v0 v1 v2=some r->CS (Zah x0 r) Tryz.f251 [1,1,1,0,1,0] [(0,.sl (1,1) 0 (v0.map Zg.enc).length),(1,.fn 252 []),(5,il v1),(6,il v2)] [rx 1 54 (v0.map Zg.enc)]:=by
 intro m
 induction m with
 | zero=>intro v0 v1 v2 h;cases h
 | succ m ih=>exactλ{v0} {v1} {v2} h=>itK h (λg1 h=>bnK h λa0 Zz h=>bnK h λr0 Zo h=>have p1 {q p} (k:Scr q p):=(lr Zg.enc v0 (gg g1 (xd Zg.enc Zz (rr (Zt1 Zo) k))));itK h (λg2 h=>bnK h λa1 Yv h=>bnK h λy0 Wa h=>Zj [((1,1),(1,1))] 18 (p1 (gg g2 (xp Zg.enc Yv Wa (tp (.num (y0.map Zg.enc).length 0 0 []) (ob (Qi Zg.enc Wa) ee))))) (ih h)) λg2 h=>Zj [((1,1),(1,1))] 16 (p1 (gg g2 (ln Zg.enc v0 ee))) (ih h)) λg1 h=>bnK h λs0 hs0 h=>bnK h λy1 hy1 h=>bnK h λs1 hs1 h=>rtK h (lr Zg.enc v0 (gg g1 (tp (.num (v1:Int).toNat ((v0.length:Int):Int).toNat (((v0.length:Int):Int).toNat - (v1:Int).toNat) []) (kk 1 (tp (.app (y1.map Zg.enc) true [] 0) (tp (.num (0:Int).toNat (v1:Int).toNat ((v1:Int).toNat - (0:Int).toNat) []) (kk 1 (tp (.mk 0 (s1.map Zg.enc)) (oe Zg.enc v0 (ob (sln hs0).1 (ob (Yjs Zg.enc v0) (ob (sll Zg.enc hs0) (ob (alr 8 Zg.enc_len v0) (ob (Eq.refl (((v0.length:Int):Int).toNat - (v1:Int).toNat)) (ob (clrl Zg.enc hy1) (ob (clrr Zg.enc hy1) (ob (clrs Zg.enc hy1) (ob (Eq.refl 0) (ob (sln hs1).2 (ob (sll Zg.enc hs1) (ob (alr 8 Zg.enc_len y1) (ob (Eq.refl ((v1:Int).toNat - (0:Int).toNat)) (ob (sla Zg.enc hs1) (ob (slr Zg.enc hs1) ee))))))))))))))))))))))))
theorem Zha {x0:List Zg} {r:List Zg} (h:Wi x0=some r):Zu Tryz.prog Mo (Zah x0 r):=
 Zs Tryz.func251 (bnK h λr1 Zw h=>have p1 {q p} (k:Scr q p):=(kk 1 (oe Zg.enc x0 (rr (Zhv Zw) k)));itK h (λg1 h=>rtK h (p1 (gg g1 (kk 1 (oe Zg.enc x0 ee))))) λg1 h=>Zj [((1,1),(0,0))] 13 (p1 (gg g1 (ln Zg.enc x0 ee))) (Zfg h))
abbrev Yna (x0:Za) (r:List Zg):Y:=(221,[.rp true (Za.enc x0) 0],.own 54 (r.map Zg.enc),[.undef])
theorem Ynk {x0:Za} {r:List Zg} (h:Zrz x0=some r):Zu Tryz.prog Mo (Yna x0 r):=
 Zs Tryz.func221 (bnK h λr0 Zo h=>rtK h (kk 1 (ob (show 2=([x0.addr,x0.data_].map Zg.enc).length from rfl) (rr (Zha Zo) (kk 1 (oe Zg.enc r0 ee))))))
abbrev Kf (x0:Za) (r:Bool):Y:=(165,[.rp true (Za.enc x0) 0],bl r,[.undef])
theorem Zi5 {x0:Za} {r:Bool} {k_L1:(List Int)->(List Zg)->Int->Int->Option Bool} (i_L1:∀{v0:List Int} {v1:List Zg} {v2:Int} {v3:Int},k_L1 v0 v1 v2 v3=some r->CS (Kf x0 r) Tryz.f165 [1,1,0,1,0] [(0,.rp true (Za.enc x0) 0),(3,.sl (1,1) 0 (v0.map Ze).length),(18,.sl (1,2) 0 (v1.map Zg.enc).length),(19,il v2),(20,il v3)] [rx 1 3 (v0.map Ze),rx 2 54 (v1.map Zg.enc)]) {vb0:Zg} {v0:List Int} {v1:List Zg} {v2:Int} {v3:Int} {v4:Bool} (h:Ki x0 k_L1 vb0 v0 v1 v2 v3 v4=some r):CS (Kf x0 r) Tryz.f165 [1,1,0,1,0,0,1,1,0,0,1,0,1] [(0,.rp true (Za.enc x0) 0),(3,.sl (1,2) 0 (v0.map Ze).length),(5,.ptr (1,1) 0 0),(18,.sl (1,3) 0 (v1.map Zg.enc).length),(19,il v2),(20,il v3),(48,bl v4)] [bx 1 (Zg.enc vb0),rx 2 3 (v0.map Ze),rx 3 54 (v1.map Zg.enc)]:=
 itK h (λg1 h=>rtK h (gg g1 ee)) λg1 h=>bnK h λa0 Zz h=>bnK h λy0 Wa h=>Zj [((1,1),(1,2)),((1,2),(1,3))] 5 (gg g1 (xd Ze Zz (xp Ze Zz Wa (tp (.num (y0.map Ze).length 0 0 []) (ob (Qi Ze Wa) (ln Zg.enc v1 ee)))))) (i_L1 h)
theorem Zjj {x0:Za} {r:Bool} {v5:Bool} (h:Qg x0 v5=some r):CS (Kf x0 r) Tryz.f165 [1,1,1,1,1,1,1,1,0,0,1,1,1,1,1] [(0,.rp true (Za.enc x0) 0),(9,.ptr (1,1) 0 0),(179,bl v5)] [bx 1 (Zg.enc x0.data_)]:=
 itK h (λg1 h=>rtK h (gg g1 ee)) λg1 h=>itK h (λg2 h=>rtK h (gg g1 (gg g2 (kk 7 ee)))) λg2 h=>itK h (λg3 h=>itK h (λg4 h=>rtK h (gg g1 (gg g2 (kk 3 (gg g3 (kk 5 (gg g4 (kk 8 ee)))))))) λg4 h=>rtK h (gg g1 (gg g2 (kk 3 (gg g3 (kk 5 (gg g4 (kk 8 ee)))))))) λg3 h=>rtK h (gg g1 (gg g2 (kk 3 (gg g3 (kk 14 ee)))))
theorem Ztg {x0:Za} {r:Bool} {vb1:Zb} {v6:Bool} (h:Zbc x0 vb1 v6=some r):CS (Kf x0 r) Tryz.f165 [1,1,1,1,1,1,1,1,0,0,1,1,1] [(0,.rp true (Za.enc x0) 0),(9,.ptr (1,1) 0 0),(10,.ptr (1,2) 0 0),(165,bl v6)] [bx 1 (Zg.enc x0.data_),bx 2 (Zb.enc vb1)]:=
 itK h (λg1 h=>rtK h (gg g1 ee)) λg1 h=>itK h (λg2 h=>itK h (λg3 h=>Zj [((1,1),(1,1))] 3 (gg g1 (gg g2 (kk 2 (gg g3 (kk 9 ee))))) (Zjj h)) λg3 h=>Zj [((1,1),(1,1))] 3 (gg g1 (gg g2 (kk 2 (gg g3 (kk 9 ee))))) (Zjj h)) λg2 h=>Zj [((1,1),(1,1))] 3 (gg g1 (gg g2 (kk 4 ee))) (Zjj h)
theorem Zip {x0:Za} {r:Bool} {vb1:Zb} {v7:Bool} (h:Jv x0 vb1 v7=some r):CS (Kf x0 r) Tryz.f165 [1,1,1,1,1,1,1,1,0,0,1] [(0,.rp true (Za.enc x0) 0),(9,.ptr (1,1) 0 0),(10,.ptr (1,2) 0 0),(141,bl v7)] [bx 1 (Zg.enc x0.data_),bx 2 (Zb.enc vb1)]:=
 itK h (λg1 h=>rtK h (gg g1 ee)) λg1 h=>itK h (λg2 h=>Zj [((1,1),(1,1)),((1,2),(1,2))] 3 (gg g1 (gg g2 (kk 8 ee))) (Ztg h)) λg2 h=>Zj [((1,1),(1,1)),((1,2),(1,2))] 3 (gg g1 (gg g2 (kk 8 ee))) (Ztg h)
theorem Qh {x0:Za} {r:Bool} {v8:Bool} (h:Xe x0 v8=some r):CS (Kf x0 r) Tryz.f165 [1,1,1,1,0,1,1] [(0,.rp true (Za.enc x0) 0),(122,bl v8)] []:=
 itK h (λg1 h=>rtK h (gg g1 ee)) λg1 h=>itK h (λg2 h=>rtK h (gg g1 (gg g2 ee))) λg2 h=>bnK h λa1 Yv h=>have p1 {q p} (k:Scr q p):=(gg g1 (gg g2 (xb Zb.enc Yv k)));itK h (λg3 h=>Zj [((1,1),(2,4096)),((1,2),(4,8192))] 15 (p1 (gg g3 (kk 15 ee))) (Zip h)) λg3 h=>bnK h λr0 Zo h=>itK h (λg4 h=>Zj [((1,1),(2,4096)),((1,2),(4,8192))] 15 (p1 (gg g3 (kk 8 (rr (Yi Zo) (kk 2 (gg g4 (kk 4 ee))))))) (Zip h)) λg4 h=>bnK h λr1 Zw h=>Zj [((1,1),(2,4096)),((1,2),(4,8192))] 15 (p1 (gg g3 (kk 8 (rr (Yi Zo) (kk 2 (gg g4 (kk 2 (rr (Yi Zw) (kk 2 ee))))))))) (Zip h)
end Go.Proofs.YtagdmghmblplbaaGreat.Ev
