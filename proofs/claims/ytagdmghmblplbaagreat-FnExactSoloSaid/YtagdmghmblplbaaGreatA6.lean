/- A part of the proof of FnExactSolo: see the text YtagdmghmblplbaaGreatLawFnExactSolo for what is proved and its conditions. Conditions here: those in each line. -/
import Derived.Test.YtagdmghmblplbaaGreatA5
set_option linter.unusedSimpArgs false
set_option linter.unusedVariables false
set_option linter.unusedSectionVars false
namespace Go.Proofs.YtagdmghmblplbaaGreat.Ev
open Go Go.Proofs
variable [Anchor]
theorem Zx1 {x0:Za} {x1:Zg} {r:Za} {vb0:Zf} (h:Zev x0 x1 vb0=some r):CS (Zbh x0 x1 r) Tryz.f152 [1,1,1,1,1,1,1,1,1,1,1,1,1] [(2,.ptr (1,1) 0 0),(4,.ptr (1,10) 0 0),(5,.ptr (1,19) 0 0)] (Za.bk {x0 with addr:=Zf.z0} 2++[bx 1 (Za.rl {x0 with addr:=Zf.z0} 2)]++Za.bk Za.z0 11++[bx 10 (Za.rl Za.z0 11),bx 19 (Zf.enc vb0)]):=
 rtK h (kk 8 (Za.so x0 ee))
theorem Zec {x0:Za} {x1:Zg} {r:Za} {vb0:Zf} {v0:Bool} (h:Ke x0 x1 vb0 v0=some r):CS (Zbh x0 x1 r) Tryz.f152 [1,1,1,1,1,1,1,1,1,1,1,1,0,1] [(2,.ptr (1,1) 0 0),(4,.ptr (1,10) 0 0),(5,.ptr (1,19) 0 0),(128,bl v0)] (Za.bk {x0 with addr:=Zf.z0} 2++[bx 1 (Za.rl {x0 with addr:=Zf.z0} 2)]++Za.bk Za.z0 11++[bx 10 (Za.rl Za.z0 11),bx 19 (Zf.enc vb0)]):=
 itK h (λg1 h=>Zi (ffi 1 19) 2 (gg g1 (Za.sc {x0 with addr:=Zf.z0} (Za.sc Za.z0 ee))) (Zx1 h)) λg1 h=>Zi (ffi 1 19) 2 (gg g1 (Za.sc {x0 with addr:=Zf.z0} (Za.sc Za.z0 ee))) (Zx1 h)
theorem Zzk {x0:Za} {x1:Zg} {r:Za} {vb0:Zf} {vb1:Zd} {v1:Int} {v2:Int} (h:Zca x0 x1 vb0 vb1 v1 v2=some r):CS (Zbh x0 x1 r) Tryz.f152 [1,1,1,1,1,1,1,1,1,1,1,1] [(2,.ptr (1,1) 0 0),(4,.ptr (1,10) 0 0),(5,.ptr (1,19) 0 0),(6,.ptr (1,20) 0 0),(9,il v1),(10,il v2)] (Za.bk {x0 with addr:=Zf.z0} 2++[bx 1 (Za.rl {x0 with addr:=Zf.z0} 2)]++Za.bk Za.z0 11++[bx 10 (Za.rl Za.z0 11),bx 19 (Zf.enc vb0),bx 20 (Zd.enc vb1)]):=
 itK h (λg1 h=>itK h (λg2 h=>itK h (λg3 h=>itK h (λg4 h=>Zi (ffi 1 19) 3 (gg g1 (kk 2 (gg g2 (kk 2 (gg g3 (kk 3 (gg g4 (kk 5 (Za.sc {x0 with addr:=Zf.z0} (Za.sc Za.z0 ee)))))))))) (Zec h)) λg4 h=>Zi (ffi 1 19) 3 (gg g1 (kk 2 (gg g2 (kk 2 (gg g3 (kk 3 (gg g4 (kk 5 (Za.sc {x0 with addr:=Zf.z0} (Za.sc Za.z0 ee)))))))))) (Zec h)) λg3 h=>Zi (ffi 1 19) 3 (gg g1 (kk 2 (gg g2 (kk 2 (gg g3 (kk 9 (Za.sc {x0 with addr:=Zf.z0} (Za.sc Za.z0 ee)))))))) (Zec h)) λg2 h=>Zi (ffi 1 19) 3 (gg g1 (kk 2 (gg g2 (kk 12 (Za.sc {x0 with addr:=Zf.z0} (Za.sc Za.z0 ee)))))) (Zec h)) λg1 h=>Zi (ffi 1 19) 3 (gg g1 (kk 15 (Za.sc {x0 with addr:=Zf.z0} (Za.sc Za.z0 ee)))) (Zec h)
theorem Zeh {x0:Za} {x1:Zg} {r:Za} {vb0:Zf} {vb1:Zd} {v1:Int} {v2:Int} {v3:Bool} (h:Kd x0 x1 vb0 vb1 v1 v2 v3=some r):CS (Zbh x0 x1 r) Tryz.f152 [1,1,1,1,1,1,1,1,1,1,1,0,1] [(2,.ptr (1,1) 0 0),(4,.ptr (1,10) 0 0),(5,.ptr (1,19) 0 0),(6,.ptr (1,20) 0 0),(9,il v1),(10,il v2),(104,bl v3)] (Za.bk {x0 with addr:=Zf.z0} 2++[bx 1 (Za.rl {x0 with addr:=Zf.z0} 2)]++Za.bk Za.z0 11++[bx 10 (Za.rl Za.z0 11),bx 19 (Zf.enc vb0),bx 20 (Zd.enc vb1)]):=
 itK h (λg1 h=>Zi (ffi 1 20) 2 (gg g1 (Za.sc {x0 with addr:=Zf.z0} (Za.sc Za.z0 ee))) (Zzk h)) λg1 h=>Zi (ffi 1 20) 2 (gg g1 (Za.sc {x0 with addr:=Zf.z0} (Za.sc Za.z0 ee))) (Zzk h)
theorem Zxz {x0:Za} {x1:Zg} {r:Za} {vb0:Zf} {vb1:Zd} {v1:Int} {v2:Int} (h:Zb4 x0 x1 vb0 vb1 v1 v2=some r):CS (Zbh x0 x1 r) Tryz.f152 [1,1,1,1,1,1,1,1,1,1,1] [(2,.ptr (1,1) 0 0),(4,.ptr (1,10) 0 0),(5,.ptr (1,19) 0 0),(6,.ptr (1,20) 0 0),(9,il v1),(10,il v2)] (Za.bk {x0 with addr:=Zf.z0} 2++[bx 1 (Za.rl {x0 with addr:=Zf.z0} 2)]++Za.bk Za.z0 11++[bx 10 (Za.rl Za.z0 11),bx 19 (Zf.enc vb0),bx 20 (Zd.enc vb1)]):=
 itK h (λg1 h=>itK h (λg2 h=>itK h (λg3 h=>Zi (ffi 1 20) 3 (gg g1 (kk 2 (gg g2 (kk 2 (gg g3 (kk 11 (Za.sc {x0 with addr:=Zf.z0} (Za.sc Za.z0 ee)))))))) (Zeh h)) λg3 h=>itK h (λg4 h=>Zi (ffi 1 20) 3 (gg g1 (kk 2 (gg g2 (kk 2 (gg g3 (kk 4 (gg g4 (kk 6 (Za.sc {x0 with addr:=Zf.z0} (Za.sc Za.z0 ee)))))))))) (Zeh h)) λg4 h=>Zi (ffi 1 20) 3 (gg g1 (kk 2 (gg g2 (kk 2 (gg g3 (kk 4 (gg g4 (kk 6 (Za.sc {x0 with addr:=Zf.z0} (Za.sc Za.z0 ee)))))))))) (Zeh h)) λg2 h=>Zi (ffi 1 20) 3 (gg g1 (kk 2 (gg g2 (kk 11 (Za.sc {x0 with addr:=Zf.z0} (Za.sc Za.z0 ee)))))) (Zeh h)) λg1 h=>Zi (ffi 1 20) 3 (gg g1 (kk 14 (Za.sc {x0 with addr:=Zf.z0} (Za.sc Za.z0 ee)))) (Zeh h)
theorem Zy3 {x0:Za} {x1:Zg} {r:Za} {vb0:Zf} {vb1:Zd} {v1:Int} {v2:Int} {v4:Bool} (h:Zb7 x0 x1 vb0 vb1 v1 v2 v4=some r):CS (Zbh x0 x1 r) Tryz.f152 [1,1,1,1,1,1,1,1,1,1,0,1] [(2,.ptr (1,1) 0 0),(4,.ptr (1,10) 0 0),(5,.ptr (1,19) 0 0),(6,.ptr (1,20) 0 0),(9,il v1),(10,il v2),(77,bl v4)] (Za.bk {x0 with addr:=Zf.z0} 2++[bx 1 (Za.rl {x0 with addr:=Zf.z0} 2)]++Za.bk Za.z0 11++[bx 10 (Za.rl Za.z0 11),bx 19 (Zf.enc vb0),bx 20 (Zd.enc vb1)]):=
 itK h (λg1 h=>Zi (ffi 1 20) 2 (gg g1 (Za.sc {x0 with addr:=Zf.z0} (Za.sc Za.z0 ee))) (Zxz h)) λg1 h=>Zi (ffi 1 20) 2 (gg g1 (Za.sc {x0 with addr:=Zf.z0} (Za.sc Za.z0 ee))) (Zxz h)
theorem Zy5 {x0:Za} {x1:Zg} {r:Za} {vb0:Zf} {vb1:Zd} {v1:Int} {v2:Int} (h:Zb1 x0 x1 vb0 vb1 v1 v2=some r):CS (Zbh x0 x1 r) Tryz.f152 [1,1,1,1,1,1,1,1,1,1] [(2,.ptr (1,1) 0 0),(4,.ptr (1,10) 0 0),(5,.ptr (1,19) 0 0),(6,.ptr (1,20) 0 0),(9,il v1),(10,il v2)] (Za.bk {x0 with addr:=Zf.z0} 2++[bx 1 (Za.rl {x0 with addr:=Zf.z0} 2)]++Za.bk Za.z0 11++[bx 10 (Za.rl Za.z0 11),bx 19 (Zf.enc vb0),bx 20 (Zd.enc vb1)]):=
 itK h (λg1 h=>Zi (ffi 1 20) 3 (gg g1 (kk 3 (Za.sc {x0 with addr:=Zf.z0} (Za.sc Za.z0 ee)))) (Zy3 h)) λg1 h=>Zi (ffi 1 20) 3 (gg g1 (kk 3 (Za.sc {x0 with addr:=Zf.z0} (Za.sc Za.z0 ee)))) (Zy3 h)
theorem Zy0 {x0:Za} {x1:Zg} {r:Za} {vb2:Zd} {vb3:Zb} {v5:Int} {v1:Int} {v2:Int} {v6:Bool} (h:Zb5 x0 x1 vb2 vb3 v5 v1 v2 v6=some r):CS (Zbh x0 x1 r) Tryz.f152 [1,1,1,1,1,1,1,1,1,0,0,1] [(2,.ptr (1,1) 0 0),(3,.ptr (1,10) 0 0),(4,.ptr (1,11) 0 0),(5,.ptr (1,20) 0 0),(6,.ptr (1,21) 0 0),(7,.ptr (1,22) 0 0),(8,il v5),(9,il v1),(10,il v2),(63,bl v6)] (Za.bk {x0 with addr:=Zf.z0} 2++[bx 1 (Za.rl {x0 with addr:=Zf.z0} 2),bx 10 (Zg.enc x1)]++Za.bk Za.z0 12++[bx 11 (Za.rl Za.z0 12),bx 20 (Zf.enc x0.addr),bx 21 (Zd.enc vb2),bx 22 (Zb.enc vb3)]):=
 itK h (λg1 h=>Zi (ffi 1 9++[((1,10),(1,11)),((1,11),(1,12)),((1,12),(1,13)),((1,13),(1,14)),((1,14),(1,15)),((1,15),(1,16)),((1,16),(1,17)),((1,17),(1,18)),((1,18),(1,19)),((1,19),(1,20)),((1,20),(1,21))]) 3 (gg g1 (Za.sc {x0 with addr:=Zf.z0} (Za.sc Za.z0 ee))) (Zy5 h)) λg1 h=>bnK h λr0 Zn h=>bnK h λr1 Zz h=>bnK h λr2 Z8 h=>Zi (ffi 1 9++[((1,10),(1,11)),((1,11),(1,12)),((1,12),(1,13)),((1,13),(1,14)),((1,14),(1,15)),((1,15),(1,16)),((1,16),(1,17)),((1,17),(1,18)),((1,18),(1,19)),((1,19),(1,20)),((1,20),(1,21))]) 5 (gg g1 (kk 1 (oe Zc.enc x0.conf.masters (rr (Yte Zn) (rr (Z7l Zz) (kk 3 (Zj.so x0.model (rr (Ya1 Z8) (Za.sc {x0 with addr:=Zf.z0} (Za.sc Za.z0 ee)))))))))) (Zy5 h)
theorem Yls {x0:Za} {x1:Zg} {r:Za} (h:Zsi x0 x1=some r):Zt Tryz.prog Mo (Zbh x0 x1 r):=
 Zs Tryz.func152 (itK h (λg1 h=>rtK h (gg g1 (kk 8 (Za.so x0 ee)))) λg1 h=>bnK h λa0 Z2 h=>bnK h λa1 Y4 h=>bnK h λr3 Y0 h=>bnK h λr4 Kv h=>bnK h λr5 hr5 h=>have p1 {q p} (k:Scr q p):=(gg g1 (xd Zd.enc Z2 (xb Zb.enc Y4 (rr (Zow Y0) (rr (Z1o Kv) (rr (Yvi hr5) k))))));itK h (λg2 h=>Zi ([((1,1),(1,0))]++Za.ff 2 0 0++[((1,10),(1,1024)),((1,11),(1,2048)),((1,20),(2,2048)),((1,21),(5,6144)),((1,22),(6,4096))]) 25 (p1 (gg g2 (kk 2 (Za.sc {x0 with addr:=Zf.z0} ee)))) (Zy0 h)) λg2 h=>Zi ([((1,1),(1,0))]++Za.ff 2 0 0++[((1,10),(1,1024)),((1,11),(1,2048)),((1,20),(2,2048)),((1,21),(5,6144)),((1,22),(6,4096))]) 25 (p1 (gg g2 (kk 2 (Za.sc {x0 with addr:=Zf.z0} ee)))) (Zy0 h))
abbrev Ymr (x0:Zd) (r:Bool):Y:=(207,[.agg (Zd.enc x0)],bl r,[.undef])
theorem Zx3 {x0:Zd} {r:Bool} (h:Zm1 x0=some r):Zt Tryz.prog Mo (Ymr x0 r):=
 Zs Tryz.func207 (bnK h λr0 Zn h=>itK h (λg1 h=>bnK h λr1 Zz h=>rtK h (rr (J3 Zn) (gg g1 (kk 3 (rr (Zef Zz) (kk 2 ee)))))) λg1 h=>rtK h (rr (J3 Zn) (gg g1 (kk 5 ee))))
abbrev Z2l (x0:Zk) (x1:Zc) (r:Zk×Bool):Y:=(208,[.agg (Zk.enc x0),.agg (Zc.enc x1)],.tup [.agg (Zk.enc r.1),bl r.2],[.undef,.undef])
theorem Zmf {x0:Zk} {x1:Zc} {r:Zk×Bool} {v0:Bool} (h:Zcu x0 x1 v0=some r):CS (Z2l x0 x1 r) Tryz.f208 [1,0,1] [(2,.ptr (1,1) 0 0),(4,.ptr (1,2) 0 0),(19,bl v0)] [bx 1 (Zk.enc x0),bx 2 (Zk.enc Zk.z0)]:=
 itK h (λg1 h=>rtK h (gg g1 ee)) λg1 h=>rtK h (gg g1 ee)
theorem Yhb {x0:Zk} {x1:Zc} {r:Zk×Bool} (h:Zny x0 x1=some r):Zt Tryz.prog Mo (Z2l x0 x1 r):=
 Zs Tryz.func208 (itK h (λg1 h=>Zi [((1,1),(1,0)),((1,2),(1,2048))] 5 (gg g1 (kk 8 ee)) (Zmf h)) λg1 h=>bnK h λr0 Zn h=>itK h (λg2 h=>Zi [((1,1),(1,0)),((1,2),(1,2048))] 5 (gg g1 (kk 2 (rr (Zml Zn) (kk 2 (gg g2 (kk 3 ee)))))) (Zmf h)) λg2 h=>Zi [((1,1),(1,0)),((1,2),(1,2048))] 5 (gg g1 (kk 2 (rr (Zml Zn) (kk 2 (gg g2 (kk 3 ee)))))) (Zmf h))
abbrev Z62 (x0:Zd) (r:Zd×Bool):Y:=(210,[.agg (Zd.enc x0)],.tup [.agg [.own 104 (r.1.queue.map Zb.enc),il r.1.beat,il r.1.done,il r.1.tries,bl r.1.parted,bl r.1.broken],bl r.2],[.undef])
theorem Zyy {x0:Zd} {r:Zd×Bool} {vb0:Zd} {v0:Bool} (h:Zim x0 vb0 v0=some r):CS (Z62 x0 r) Tryz.f210 [1,1,0,1] [(2,.ptr (1,1) 0 0),(4,.ptr (1,3) 0 0),(17,bl v0)] [rx 2 104 ([].map Zb.enc),bx 1 [.sl (1,2) 0 ([].map Zb.enc).length,il 0,il 0,il 0,bl false,bl false],rx 4 104 (vb0.queue.map Zb.enc),bx 3 [.sl (1,4) 0 (vb0.queue.map Zb.enc).length,il vb0.beat,il vb0.done,il vb0.tries,bl vb0.parted,bl vb0.broken]]:=
 itK h (λg1 h=>rtK h (gg g1 (kk 1 (oe Zb.enc vb0.queue ee)))) λg1 h=>rtK h (gg g1 (kk 1 (oe Zb.enc vb0.queue ee)))
theorem Ynl {x0:Zd} {r:Zd×Bool} (h:Zq5 x0=some r):Zt Tryz.prog Mo (Z62 x0 r):=
 Zs Tryz.func210 (bnK h λr0 Zn h=>bnK h λr1 Zz h=>itK h (λg1 h=>Zi [((1,1),(1,1024)),((1,3),(2,2048)),((1,4),(2,1024))] 7 (rr (Zd2 Zn) (rr (Zx3 Zz) (gg g1 (kk 6 (ln Zb.enc r0.queue ee))))) (Zyy h)) λg1 h=>Zi [((1,1),(1,1024)),((1,3),(2,2048)),((1,4),(2,1024))] 7 (rr (Zd2 Zn) (rr (Zx3 Zz) (gg g1 (kk 6 (ln Zb.enc r0.queue ee))))) (Zyy h))
abbrev Zug (x0:Z6) (x1:Zh) (x2:List Bool) (r:Z6×Int):Y:=(209,[.agg (Z6.enc x0),.agg (Zh.enc x1),.tr (x2.map Z9)],.tup [.agg (Z6.enc r.1),il r.2],[.undef,.undef,.undef])
theorem Ydk {x0:Z6} {x1:Zh} {x2:List Bool} {r:Z6×Int}:∀{m:Nat} {v0:Int},Zkj x0 x1 x2 m v0=some r->CS (Zug x0 x1 x2 r) Tryz.f209 [1,1,1,0,1,0] [(2,.tr (x2.map Z9)),(3,.ptr (1,1) 0 0),(4,.ptr (1,2) 0 0),(6,.ptr (1,3) 0 0),(8,il v0)] [bx 1 (Z6.enc x0),bx 2 (Zh.enc x1),bx 3 (Z6.enc Z6.z0)]:=by
 intro m
 induction m with
 | zero=>intro v0 h;cases h
 | succ m ih=>exactλ{v0} h=>itK h (λg1 h=>bnK h λn0 hn0 h=>bnK h λa0 Z2 h=>have p1 {q p} (k:Scr q p):=(lr Z9 x2 (gg g1 (lr Z9 x2 (tp (.obl) (ob (nz0 hn0) (xb Z9 Z2 k))))));itK h (λg2 h=>bnK h λr0 Zn h=>rtK h (p1 (gg g2 (rr (Z4t Zn) ee)))) λg2 h=>Zi (ffi 1 3) 16 (p1 (gg g2 ee)) (ih h)) λg1 h=>rtK h (lr Z9 x2 (gg g1 ee))
theorem Z03 {x0:Z6} {x1:Zh} {x2:List Bool} {r:Z6×Int} {v1:Bool} (h:Zll x0 x1 x2 v1=some r):CS (Zug x0 x1 x2 r) Tryz.f209 [1,1,0,1] [(2,.tr (x2.map Z9)),(3,.ptr (1,1) 0 0),(4,.ptr (1,2) 0 0),(6,.ptr (1,3) 0 0),(32,bl v1)] [bx 1 (Z6.enc x0),bx 2 (Zh.enc x1),bx 3 (Z6.enc Z6.z0)]:=
 itK h (λg1 h=>rtK h (gg g1 ee)) λg1 h=>Zi (ffi 1 3) 6 (gg g1 ee) (Ydk h)
theorem Z01 {x0:Z6} {x1:Zh} {x2:List Bool} {r:Z6×Int} {v2:Bool} (h:Zko x0 x1 x2 v2=some r):CS (Zug x0 x1 x2 r) Tryz.f209 [1,0,1] [(2,.tr (x2.map Z9)),(3,.ptr (1,1) 0 0),(4,.ptr (1,2) 0 0),(6,.ptr (1,3) 0 0),(21,bl v2)] [bx 1 (Z6.enc x0),bx 2 (Zh.enc x1),bx 3 (Z6.enc Z6.z0)]:=
 itK h (λg1 h=>rtK h (gg g1 ee)) λg1 h=>itK h (λg2 h=>bnK h λa1 Y4 h=>Zi (ffi 1 3) 5 (gg g1 (gg g2 (kk 3 (xb Z9 Y4 (kk 2 ee))))) (Z03 h)) λg2 h=>Zi (ffi 1 3) 5 (gg g1 (gg g2 (kk 5 ee))) (Z03 h)
theorem Yqs {x0:Z6} {x1:Zh} {x2:List Bool} {r:Z6×Int} (h:Ztp x0 x1 x2=some r):Zt Tryz.prog Mo (Zug x0 x1 x2 r):=
 Zs Tryz.func209 (bnK h λr1 Zz h=>itK h (λg1 h=>Zi [((1,1),(1,0)),((1,2),(1,1024)),((1,3),(1,2048))] 5 (rr (Zvc Zz) (gg g1 (kk 6 ee))) (Z01 h)) λg1 h=>Zi [((1,1),(1,0)),((1,2),(1,1024)),((1,3),(1,2048))] 5 (rr (Zvc Zz) (gg g1 (kk 1 (lr Z9 x2 (kk 3 (lr Zc.enc x1.masters (kk 2 ee))))))) (Z01 h))
abbrev Qc (x0:Za) (r:Za):Y:=(151,[.agg (Za.ow x0)],.agg (Za.ow r),[.undef])
theorem Zyk {x0:Za} {r:Za} {k_L2:Za->Zf->(List Bool)->Int->Option Za} (i_L2:∀{vb0:Za} {vb1:Zf} {v0:List Bool} {v1:Int},k_L2 vb0 vb1 v0 v1=some r->CS (Qc x0 r) Tryz.f151 [1,1,1,1,1,0,1,0] [(1,.ptr (1,1) 0 0),(2,.ptr (1,10) 0 0),(3,.sl (1,20) 0 (v0.map Z9).length),(5,.ptr (1,19) 0 0),(6,il v1)] (Za.bk vb0 2++[bx 1 (Za.rl vb0 2)]++Za.bk Za.z0 11++[bx 10 (Za.rl Za.z0 11),bx 19 (Zf.enc vb1),rx 20 4 (v0.map Z9)])) {vb0:Za} {vb1:Zf} {v0:List Bool} {v1:Int} {v2:Bool} (h:Zje x0 k_L2 vb0 vb1 v0 v1 v2=some r):CS (Qc x0 r) Tryz.f151 [1,1,1,1,1,0,1,0,0,1,0,0,1] [(1,.ptr (1,1) 0 0),(2,.ptr (1,10) 0 0),(3,.sl (1,20) 0 (v0.map Z9).length),(5,.ptr (1,19) 0 0),(6,il v1),(84,bl v2)] (Za.bk vb0 2++[bx 1 (Za.rl vb0 2)]++Za.bk Za.z0 11++[bx 10 (Za.rl Za.z0 11),bx 19 (Zf.enc vb1),rx 20 4 (v0.map Z9)]):=
 itK h (λg1 h=>bnK h λa0 Z2 h=>bnK h λa1 Y4 h=>bnK h λr0 Zn h=>bnK h λy0 W0 h=>Zi (ffi 1 20) 6 (gg g1 (xd Zk.enc Z2 (xd Zc.enc Y4 (rr (Yhb Zn) (xp Zk.enc Z2 W0 (ln Z9 v0 (tq (Za.nm {vb0 with buckets:=y0}) (oe Zc.enc vb0.conf.masters (oe Zd.enc vb0.m (ob (Q5 Zk.enc W0) (oe Ze vb0.splits (Zj.so vb0.model (oe Zm.enc vb0.log (Za.sc Za.z0 ee)))))))))))))) (i_L2 h)) λg1 h=>Zi (ffi 1 20) 4 (gg g1 (ln Z9 v0 (Za.sc vb0 (Za.sc Za.z0 ee)))) (i_L2 h)
theorem Zv8 {x0:Za} {r:Za} {vb0:Za} {vb1:Zf} {vb2:Zd} (h:Zg8 x0 vb0 vb1 vb2=some r):CS (Qc x0 r) Tryz.f151 [1,1,1,1,1,1,1,1,1,1,1,1,1] [(1,.ptr (1,1) 0 0),(2,.ptr (1,10) 0 0),(5,.ptr (1,19) 0 0),(7,.ptr (1,20) 0 0)] (Za.bk vb0 2++[bx 1 (Za.rl vb0 2)]++Za.bk Za.z0 11++[bx 10 (Za.rl Za.z0 11),bx 19 (Zf.enc vb1),bx 20 (Zd.enc vb2)]):=
 bnK h λr1 Zz h=>bnK h λa2 Ka h=>bnK h λy1 hy1 h=>rtK h (rr (Ynl Zz) (xq Zd.enc Ka y1 (kk 9 (oe Zb.enc r1.1.queue (ob (Zxx Zd.enc hy1) (oe Zc.enc vb0.conf.masters (ob (Q5 Zd.enc hy1) (oe Zk.enc vb0.buckets (oe Ze vb0.splits (Zj.so vb0.model (oe Zm.enc vb0.log ee)))))))))))
theorem Zoj {x0:Za} {r:Za} {vb0:Za} {vb1:Zf} {vb2:Zd} {v3:Bool} (h:Zdi x0 vb0 vb1 vb2 v3=some r):CS (Qc x0 r) Tryz.f151 [1,1,1,1,1,1,1,1,1,1,1,1,0,1] [(1,.ptr (1,1) 0 0),(2,.ptr (1,10) 0 0),(5,.ptr (1,19) 0 0),(7,.ptr (1,20) 0 0),(165,bl v3)] (Za.bk vb0 2++[bx 1 (Za.rl vb0 2)]++Za.bk Za.z0 11++[bx 10 (Za.rl Za.z0 11),bx 19 (Zf.enc vb1),bx 20 (Zd.enc vb2)]):=
 itK h (λg1 h=>Zi (ffi 1 20) 4 (gg g1 (Za.sc {vb0 with holder:=vb1.who,held:=0} (Za.sc Za.z0 ee))) (Zv8 h)) λg1 h=>Zi (ffi 1 20) 2 (gg g1 (Za.sc vb0 (Za.sc Za.z0 ee))) (Zv8 h)
theorem Zyn {x0:Za} {r:Za} {vb0:Za} {vb1:Zf} {vb2:Zd} (h:Zei x0 vb0 vb1 vb2=some r):CS (Qc x0 r) Tryz.f151 [1,1,1,1,1,1,1,1,1,1,1,1] [(1,.ptr (1,1) 0 0),(2,.ptr (1,10) 0 0),(5,.ptr (1,19) 0 0),(7,.ptr (1,20) 0 0)] (Za.bk vb0 2++[bx 1 (Za.rl vb0 2)]++Za.bk Za.z0 11++[bx 10 (Za.rl Za.z0 11),bx 19 (Zf.enc vb1),bx 20 (Zd.enc vb2)]):=
 bnK h λa3 ha3 h=>itK h (λg1 h=>itK h (λg2 h=>Zi (ffi 1 20) 3 (xb Zb.enc ha3 (gg g1 (kk 3 (gg g2 (kk 3 (Za.sc vb0 (Za.sc Za.z0 ee))))))) (Zoj h)) λg2 h=>Zi (ffi 1 20) 3 (xb Zb.enc ha3 (gg g1 (kk 3 (gg g2 (kk 3 (Za.sc vb0 (Za.sc Za.z0 ee))))))) (Zoj h)) λg1 h=>Zi (ffi 1 20) 3 (xb Zb.enc ha3 (gg g1 (kk 7 (Za.sc vb0 (Za.sc Za.z0 ee))))) (Zoj h)
theorem Zzi {x0:Za} {r:Za} {vb0:Za} {vb1:Zf} (h:K9 x0 vb0 vb1=some r):CS (Qc x0 r) Tryz.f151 [1,1,1,1,1,1,1] [(1,.ptr (1,1) 0 0),(2,.ptr (1,10) 0 0),(5,.ptr (1,19) 0 0)] (Za.bk vb0 2++[bx 1 (Za.rl vb0 2)]++Za.bk Za.z0 11++[bx 10 (Za.rl Za.z0 11),bx 19 (Zf.enc vb1)]):=
 itK h (λg1 h=>rtK h (gg g1 (kk 8 (Za.so vb0 ee)))) λg1 h=>bnK h λa4 ha4 h=>itK h (λg2 h=>Zi (ffi 1 19++[((1,20),(3,6144))]) 13 (gg g1 (xd Zd.enc ha4 (gg g2 (kk 5 (Za.sc vb0 (Za.sc Za.z0 ee)))))) (Zyn h)) λg2 h=>Zi (ffi 1 19++[((1,20),(3,6144))]) 13 (gg g1 (xd Zd.enc ha4 (gg g2 (kk 5 (Za.sc vb0 (Za.sc Za.z0 ee)))))) (Zyn h)
theorem Zyz {x0:Za} {r:Za} {vb0:Za} {vb1:Zf} {v0:List Bool} {v4:Bool} (h:Zeq x0 vb0 vb1 v0 v4=some r):CS (Qc x0 r) Tryz.f151 [1,1,1,1,1,1,0,1] [(1,.ptr (1,1) 0 0),(2,.ptr (1,10) 0 0),(3,.sl (1,20) 0 (v0.map Z9).length),(5,.ptr (1,19) 0 0),(113,bl v4)] (Za.bk vb0 2++[bx 1 (Za.rl vb0 2)]++Za.bk Za.z0 11++[bx 10 (Za.rl Za.z0 11),bx 19 (Zf.enc vb1),rx 20 4 (v0.map Z9)]):=
 itK h (λg1 h=>bnK h λr2 Z8 h=>Zi (ffi 1 19) 4 (gg g1 (kk 2 (oe Zc.enc vb0.conf.masters (oe Z9 v0 (rr (Yqs Z8) (Za.sc {vb0 with arb:=r2.1} (Za.sc Za.z0 ee))))))) (Zzi h)) λg1 h=>Zi (ffi 1 19) 2 (gg g1 (Za.sc vb0 (Za.sc Za.z0 ee))) (Zzi h)
theorem Zyb {x0:Za} {r:Za} {k_L2:Za->Zf->(List Bool)->Int->Option Za} (i_L2:∀{vb0:Za} {vb1:Zf} {v0:List Bool} {v1:Int},k_L2 vb0 vb1 v0 v1=some r->CS (Qc x0 r) Tryz.f151 [1,1,1,1,1,0,1,0] [(1,.ptr (1,1) 0 0),(2,.ptr (1,10) 0 0),(3,.sl (1,20) 0 (v0.map Z9).length),(5,.ptr (1,19) 0 0),(6,il v1)] (Za.bk vb0 2++[bx 1 (Za.rl vb0 2)]++Za.bk Za.z0 11++[bx 10 (Za.rl Za.z0 11),bx 19 (Zf.enc vb1),rx 20 4 (v0.map Z9)])) {vb0:Za} {vb1:Zf} {v0:List Bool} {v1:Int} {v5:Bool} (h:Zb6 x0 k_L2 vb0 vb1 v0 v1 v5=some r):CS (Qc x0 r) Tryz.f151 [1,1,1,1,1,0,1,0,0,0,1] [(1,.ptr (1,1) 0 0),(2,.ptr (1,10) 0 0),(3,.sl (1,20) 0 (v0.map Z9).length),(5,.ptr (1,19) 0 0),(6,il v1),(69,bl v5)] (Za.bk vb0 2++[bx 1 (Za.rl vb0 2)]++Za.bk Za.z0 11++[bx 10 (Za.rl Za.z0 11),bx 19 (Zf.enc vb1),rx 20 4 (v0.map Z9)]):=
 itK h (λg1 h=>bnK h λa5 ha5 h=>itK h (λg2 h=>bnK h λa6 ha6 h=>Zi (ffi 1 20) 6 (gg g1 (xd Z9 ha5 (gg g2 (kk 3 (tp (.row (v1:Int).toNat (Zk.enc a6)) (kk 2 (tp (.cell (Zk.enc a6)) (kk 2 (tp (.num (v0.map Z9).length 0 0 []) (ob (ixn ha6) (ob (ixl Zk.enc ha6) (ob (ixr Zk.enc ha6) (ob (ixr Zk.enc ha6) (oe Z9 v0 (Za.sc vb0 (Za.sc Za.z0 ee)))))))))))))))) (Zyk i_L2 h)) λg2 h=>Zi (ffi 1 20) 6 (gg g1 (xd Z9 ha5 (gg g2 (kk 7 (ln Z9 v0 (Za.sc vb0 (Za.sc Za.z0 ee))))))) (Zyk i_L2 h)) λg1 h=>itK h (λg2 h=>Zi (ffi 1 20) 8 (gg g1 (gg g2 (kk 3 (ln Z9 v0 (Za.sc vb0 (Za.sc Za.z0 ee)))))) (Zyz h)) λg2 h=>Zi (ffi 1 20) 8 (gg g1 (gg g2 (kk 3 (ln Z9 v0 (Za.sc vb0 (Za.sc Za.z0 ee)))))) (Zyz h)
theorem Yb7 {x0:Za} {r:Za}:∀{m:Nat} {vb0:Za} {vb1:Zf} {v0:List Bool} {v1:Int},Zag x0 m vb0 vb1 v0 v1=some r->CS (Qc x0 r) Tryz.f151 [1,1,1,1,1,0,1,0] [(1,.ptr (1,1) 0 0),(2,.ptr (1,10) 0 0),(3,.sl (1,20) 0 (v0.map Z9).length),(5,.ptr (1,19) 0 0),(6,il v1)] (Za.bk vb0 2++[bx 1 (Za.rl vb0 2)]++Za.bk Za.z0 11++[bx 10 (Za.rl Za.z0 11),bx 19 (Zf.enc vb1),rx 20 4 (v0.map Z9)]):=by
 intro m
 induction m with
 | zero=>intro vb0 vb1 v0 v1 h;cases h
 | succ m ih=>exactλ{vb0} {vb1} {v0} {v1} h=>itK h (λg1 h=>Zi (ffi 1 20) 4 (lr Zd.enc vb0.m (gg g1 (kk 3 (ln Z9 v0 (Za.sc vb0 (Za.sc Za.z0 ee)))))) (Zyb ih h)) λg1 h=>Zi (ffi 1 20) 4 (lr Zd.enc vb0.m (gg g1 (kk 3 (ln Z9 v0 (Za.sc vb0 (Za.sc Za.z0 ee)))))) (Zyb ih h)
theorem Zxs {x0:Za} {r:Za} {vb1:Zf} {v0:List Bool} (h:Ziz x0 vb1 v0=some r):CS (Qc x0 r) Tryz.f151 [1,1,1,1,1] [(1,.ptr (1,1) 0 0),(2,.ptr (1,10) 0 0),(3,.sl (1,20) 0 (v0.map Z9).length),(5,.ptr (1,19) 0 0)] (Za.bk x0 2++[bx 1 (Za.rl x0 2)]++Za.bk Za.z0 11++[bx 10 (Za.rl Za.z0 11),bx 19 (Zf.enc vb1),rx 20 4 (v0.map Z9)]):=
 Zi (ffi 1 20) 4 (ln Z9 v0 (Za.sc x0 (Za.sc Za.z0 ee))) (Yb7 h)
theorem Zy8 {x0:Za} {r:Za} {v0:List Bool} {v6:Bool} (h:Zi6 x0 v0 v6=some r):CS (Qc x0 r) Tryz.f151 [1,1,1,1,0,1] [(1,.ptr (1,1) 0 0),(2,.ptr (1,10) 0 0),(3,.sl (1,20) 0 (v0.map Z9).length),(5,.ptr (1,19) 0 0),(56,bl v6)] (Za.bk x0 2++[bx 1 (Za.rl x0 2)]++Za.bk Za.z0 11++[bx 10 (Za.rl Za.z0 11),bx 19 (Zf.enc (Zf.mk false (-1) 0 false 0 0 0 false)),rx 20 4 (v0.map Z9)]):=
 itK h (λg1 h=>Zi (ffi 1 20) 2 (gg g1 (ln Z9 v0 (Za.sc x0 (Za.sc Za.z0 ee)))) (Zxs h)) λg1 h=>Zi (ffi 1 20) 2 (gg g1 (ln Z9 v0 (Za.sc x0 (Za.sc Za.z0 ee)))) (Zxs h)
theorem Ybn {x0:Za} {r:Za}:∀{m:Nat} {v0:List Bool} {v7:Int},Zip x0 m v0 v7=some r->CS (Qc x0 r) Tryz.f151 [1,1,0,1,0] [(1,.ptr (1,1) 0 0),(2,.ptr (1,10) 0 0),(3,.sl (1,19) 0 (v0.map Z9).length),(4,il v7)] (Za.bk x0 2++[bx 1 (Za.rl x0 2)]++Za.bk Za.z0 11++[bx 10 (Za.rl Za.z0 11),rx 19 4 (v0.map Z9)]):=by
 intro m
 induction m with
 | zero=>intro v0 v7 h;cases h
 | succ m ih=>exactλ{v0} {v7} h=>have p1 {q p} (k:Scr q p):=(lr Zd.enc x0.m k);itK h (λg1 h=>bnK h λa7 ha7 h=>bnK h λr3 Y0 h=>have p2 {q p} (k:Scr q p):=(p1 (gg g1 (xd Zd.enc ha7 (rr (Zx3 Y0) k))));itK h (λg2 h=>bnK h λa8 ha8 h=>have p3 {q p} (k:Scr q p):=(p2 (gg g2 (kk 3 (tp (.row (v7:Int).toNat (Ze a8)) (kk 1 (tp (.cell (Ze a8)) (kk 2 k)))))));itK h (λg3 h=>itK h (λg4 h=>bnK h λz0 X9 h=>Zi (ffi 1 18++[((1,19),(3,27648))]) 11 (p3 (tp (.t true) (kk 3 (tp (.t true) (kk 6 (ta Z9 [true] z0 (kk 1 (tp (.num (z0.map Z9).length 0 0 []) (ob (ixn ha8) (ob (ixl Ze ha8) (ob (ixr Ze ha8) (ob (ixr Ze ha8) (ob g3 (ob g4 (oa 1 Zmt true (ox Z9 X9 (oe Z9 z0 (oe Z9 z0 (Za.sc x0 (Za.sc Za.z0 ee)))))))))))))))))))) (ih h)) λg4 h=>bnK h λz0 X9 h=>Zi (ffi 1 18++[((1,19),(3,27648))]) 11 (p3 (tp (.t true) (kk 3 (tp (.t false) (kk 6 (ta Z9 [decide (x0.holder=v7)] z0 (kk 1 (tp (.num (z0.map Z9).length 0 0 []) (ob (ixn ha8) (ob (ixl Ze ha8) (ob (ixr Ze ha8) (ob (ixr Ze ha8) (ob g3 (ob g4 (oa 1 Zmt (decide (x0.holder=v7)) (ox Z9 X9 (oe Z9 z0 (oe Z9 z0 (Za.sc x0 (Za.sc Za.z0 ee)))))))))))))))))))) (ih h)) λg3 h=>bnK h λz0 X9 h=>Zi (ffi 1 18++[((1,19),(3,27648))]) 11 (p3 (tp (.t false) (kk 5 (ta Z9 [false] z0 (kk 1 (tp (.num (z0.map Z9).length 0 0 []) (ob (ixn ha8) (ob (ixl Ze ha8) (ob (ixr Ze ha8) (ob (ixr Ze ha8) (ob g3 (oa 1 Zmt false (ox Z9 X9 (oe Z9 z0 (oe Z9 z0 (Za.sc x0 (Za.sc Za.z0 ee))))))))))))))))) (ih h)) λg2 h=>bnK h λz0 X9 h=>Zi (ffi 1 18++[((1,19),(3,27648))]) 11 (p2 (gg g2 (kk 12 (ta Z9 [false] z0 (kk 1 (oa 1 Zmt false (ox Z9 X9 (ln Z9 z0 (oe Z9 z0 (Za.sc x0 (Za.sc Za.z0 ee))))))))))) (ih h)) λg1 h=>itK h (λg2 h=>bnK h λa9 ha9 h=>Zi (ffi 1 18++[((1,19),(3,1024)),((1,20),(1,19))]) 14 (p1 (gg g1 (gg g2 (kk 3 (tp (.row (x0.holder:Int).toNat (Z9 a9)) (kk 1 (tp (.cell (Z9 a9)) (kk 1 (tp (.num (v0.map Z9).length 0 0 []) (ob (ixn ha9) (ob (ixl Z9 ha9) (ob (ixr Z9 ha9) (ob (ixr Z9 ha9) (oe Z9 v0 (Za.sc x0 (Za.sc Za.z0 ee)))))))))))))))) (Zy8 h)) λg2 h=>Zi (ffi 1 18++[((1,19),(3,1024)),((1,20),(1,19))]) 14 (p1 (gg g1 (gg g2 (kk 5 (ln Z9 v0 (Za.sc x0 (Za.sc Za.z0 ee))))))) (Zy8 h)
theorem Ylb {x0:Za} {r:Za} (h:Zrh x0=some r):Zt Tryz.prog Mo (Qc x0 r):=
 Zs Tryz.func151 (Zi ([((1,1),(1,0))]++Za.ff 2 0 0++[((1,10),(1,1024)),((1,19),(2,0))]) 8 (tp (.num ([].map Z9).length 0 0 []) (ob (show 0=([].map Z9).length from rfl) (Za.sc x0 ee))) (Ybn h))
abbrev Za1 (x0:Za) (x1:Zg) (r:Za×Zq):Y:=(88,[.agg (Za.enc x0),.agg (Zg.enc x1)],.tup [.agg (Za.ow r.1),.agg (Zq.enc r.2)],[.undef,.undef])
theorem Zsf {x0:Za} {x1:Zg} {r:Za×Zq} {vb0:Za} {vb1:Zq} (h:Zc9 x0 x1 vb0 vb1=some r):CS (Za1 x0 x1 r) Tryz.f88 [1,1,1,1,1,1,1,1,1] [(2,.ptr (1,1) 0 0),(4,.ptr (1,10) 0 0),(5,.ptr (1,19) 0 0),(6,.ptr (1,20) 0 0)] (Za.bk vb0 2++[bx 1 (Za.rl vb0 2)]++Za.bk Za.z0 11++[bx 10 (Za.rl Za.z0 11),bx 19 (Zq.enc Zq.z0),bx 20 (Zq.enc vb1)]):=
 rtK h (kk 8 (Za.so vb0 ee))
theorem Z0j {x0:Za} {x1:Zg} {r:Za×Zq} {vb0:Za} {vb2:Zq} (h:Zc6 x0 x1 vb0 vb2=some r):CS (Za1 x0 x1 r) Tryz.f88 [1,1,1,1,1,1,1,1,0,1,0,1] [(2,.ptr (1,1) 0 0),(3,.ptr (1,10) 0 0),(4,.ptr (1,11) 0 0),(5,.ptr (1,20) 0 0),(6,.ptr (1,21) 0 0)] (Za.bk vb0 2++[bx 1 (Za.rl vb0 2),bx 10 (Zg.enc x1)]++Za.bk Za.z0 12++[bx 11 (Za.rl Za.z0 12),bx 20 (Zq.enc Zq.z0),bx 21 (Zq.enc vb2)]):=
 bnK h λr0 Zn h=>bnK h λr1 Zz h=>have p1 {q p} (k:Scr q p):=(kk 8 (Za.so vb0 (rr (Yls Zn) (kk 8 (Za.so r0 (rr (Ylb Zz) k))))));itK h (λg1 h=>Zi ([((1,1),(1,1))]++Za.ff 2 2 3072++[((1,10),(1,11)),((1,11),(1,12)),((1,12),(1,13)),((1,13),(1,14)),((1,14),(1,15)),((1,15),(1,16)),((1,16),(1,17)),((1,17),(1,18)),((1,18),(1,19)),((1,19),(1,20)),((1,20),(1,21))]) 6 (p1 (gg g1 (Za.sc r1 (Za.sc Za.z0 ee)))) (Zsf h)) λg1 h=>Zi ([((1,1),(1,1))]++Za.ff 2 2 3072++[((1,10),(1,11)),((1,11),(1,12)),((1,12),(1,13)),((1,13),(1,14)),((1,14),(1,15)),((1,15),(1,16)),((1,16),(1,17)),((1,17),(1,18)),((1,18),(1,19)),((1,19),(1,20)),((1,20),(1,21))]) 6 (p1 (gg g1 (Za.sc r1 (Za.sc Za.z0 ee)))) (Zsf h)
theorem Z0w {x0:Za} {x1:Zg} {r:Za×Zq} {vb0:Za} {vb2:Zq} {v0:Bool} (h:Jw x0 x1 vb0 vb2 v0=some r):CS (Za1 x0 x1 r) Tryz.f88 [1,1,1,1,1,1,1,1,0,1,0,0,1] [(2,.ptr (1,1) 0 0),(3,.ptr (1,10) 0 0),(4,.ptr (1,11) 0 0),(5,.ptr (1,20) 0 0),(6,.ptr (1,21) 0 0),(182,bl v0)] (Za.bk vb0 2++[bx 1 (Za.rl vb0 2),bx 10 (Zg.enc x1)]++Za.bk Za.z0 12++[bx 11 (Za.rl Za.z0 12),bx 20 (Zq.enc Zq.z0),bx 21 (Zq.enc vb2)]):=
 itK h (λg1 h=>bnK h λa0 Z2 h=>bnK h λy0 W0 h=>Zi (ffi 1 21) 6 (gg g1 (xp Zd.enc Z2 W0 (tq (Za.nm {vb0 with m:=y0,holder:=(-1),held:=0}) (oe Zc.enc vb0.conf.masters (ob (Q5 Zd.enc W0) (oe Zk.enc vb0.buckets (oe Ze vb0.splits (Zj.so vb0.model (oe Zm.enc vb0.log (Za.sc Za.z0 ee)))))))))) (Z0j h)) λg1 h=>Zi (ffi 1 21) 2 (gg g1 (Za.sc vb0 (Za.sc Za.z0 ee))) (Z0j h)
theorem Zfq {x0:Za} {x1:Zg} {r:Za×Zq} {vb0:Za} {vb2:Zq} (h:Q1 x0 x1 vb0 vb2=some r):CS (Za1 x0 x1 r) Tryz.f88 [1,1,1,1,1,1,1,1] [(2,.ptr (1,1) 0 0),(3,.ptr (1,10) 0 0),(4,.ptr (1,11) 0 0),(5,.ptr (1,20) 0 0),(6,.ptr (1,21) 0 0)] (Za.bk vb0 2++[bx 1 (Za.rl vb0 2),bx 10 (Zg.enc x1)]++Za.bk Za.z0 12++[bx 11 (Za.rl Za.z0 12),bx 20 (Zq.enc Zq.z0),bx 21 (Zq.enc vb2)]):=
 itK h (λg1 h=>itK h (λg2 h=>Zi (ffi 1 21) 7 (gg g1 (gg g2 (kk 6 (Za.sc vb0 (Za.sc Za.z0 ee))))) (Z0w h)) λg2 h=>Zi (ffi 1 21) 7 (gg g1 (gg g2 (kk 6 (Za.sc vb0 (Za.sc Za.z0 ee))))) (Z0w h)) λg1 h=>Zi (ffi 1 9++[((1,10),(1,11)),((1,11),(1,12)),((1,12),(1,13)),((1,13),(1,14)),((1,14),(1,15)),((1,15),(1,16)),((1,16),(1,17)),((1,17),(1,18)),((1,18),(1,19)),((1,19),(1,20)),((1,20),(1,21))]) 5 (gg g1 (Za.sc vb0 (Za.sc Za.z0 ee))) (Zsf h)
theorem Zqx {x0:Za} {x1:Zg} {r:Za×Zq} {vb0:Za} {vb2:Zq} {v1:Bool} (h:Js x0 x1 vb0 vb2 v1=some r):CS (Za1 x0 x1 r) Tryz.f88 [1,1,1,1,1,1,1,0,0,1,1,1] [(2,.ptr (1,1) 0 0),(3,.ptr (1,10) 0 0),(4,.ptr (1,11) 0 0),(5,.ptr (1,20) 0 0),(6,.ptr (1,21) 0 0),(126,bl v1)] (Za.bk vb0 2++[bx 1 (Za.rl vb0 2),bx 10 (Zg.enc x1)]++Za.bk Za.z0 12++[bx 11 (Za.rl Za.z0 12),bx 20 (Zq.enc Zq.z0),bx 21 (Zq.enc vb2)]):=
 itK h (λg1 h=>itK h (λg2 h=>bnK h λr2 Z8 h=>Zi ([((1,1),(1,1))]++Za.ff 2 8 2048++ffi 10 12) 16 (gg g1 (gg g2 (kk 8 (Za.so vb0 (rr (Z1z Z8) (Za.sc r2 (Za.sc Za.z0 ee))))))) (Zfq h)) λg2 h=>Zi (ffi 1 21) 12 (gg g1 (gg g2 (Za.sc {vb0 with data_:={vb0.data_ with second:=true}} (Za.sc Za.z0 ee)))) (Zfq h)) λg1 h=>itK h (λg2 h=>bnK h λr3 Y0 h=>Zi ([((1,1),(1,1))]++Za.ff 2 4 2048++ffi 10 12) 8 (gg g1 (gg g2 (kk 8 (Za.so vb0 (rr (Yj4 Y0) (Za.sc r3 (Za.sc Za.z0 ee))))))) (Zfq h)) λg2 h=>Zi (ffi 1 21) 6 (gg g1 (gg g2 (Za.sc vb0 (Za.sc Za.z0 ee)))) (Zfq h)
theorem Z0m {x0:Za} {x1:Zg} {r:Za×Zq} {vb0:Za} {vb2:Zq} {v2:Bool} (h:Zki x0 x1 vb0 vb2 v2=some r):CS (Za1 x0 x1 r) Tryz.f88 [1,1,1,1,1,1,1,0,0,1] [(2,.ptr (1,1) 0 0),(3,.ptr (1,10) 0 0),(4,.ptr (1,11) 0 0),(5,.ptr (1,20) 0 0),(6,.ptr (1,21) 0 0),(109,bl v2)] (Za.bk vb0 2++[bx 1 (Za.rl vb0 2),bx 10 (Zg.enc x1)]++Za.bk Za.z0 12++[bx 11 (Za.rl Za.z0 12),bx 20 (Zq.enc Zq.z0),bx 21 (Zq.enc vb2)]):=
 itK h (λg1 h=>Zi (ffi 1 21) 5 (gg g1 (Za.sc {vb0 with data_:={vb0.data_ with left:=(Y9 vb0.data_.left 1)}} (Za.sc Za.z0 ee))) (Zfq h)) λg1 h=>itK h (λg2 h=>itK h (λg3 h=>Zi (ffi 1 21) 3 (gg g1 (gg g2 (kk 4 (gg g3 (kk 4 (Za.sc vb0 (Za.sc Za.z0 ee))))))) (Zqx h)) λg3 h=>Zi (ffi 1 21) 3 (gg g1 (gg g2 (kk 4 (gg g3 (kk 4 (Za.sc vb0 (Za.sc Za.z0 ee))))))) (Zqx h)) λg2 h=>Zi (ffi 1 21) 3 (gg g1 (gg g2 (kk 9 (Za.sc vb0 (Za.sc Za.z0 ee))))) (Zqx h)
theorem Z0n {x0:Za} {x1:Zg} {r:Za×Zq} {vb0:Za} {vb2:Zq} (h:Jv x0 x1 vb0 vb2=some r):CS (Za1 x0 x1 r) Tryz.f88 [1,1,1,1,1,1,1] [(2,.ptr (1,1) 0 0),(3,.ptr (1,10) 0 0),(4,.ptr (1,11) 0 0),(5,.ptr (1,20) 0 0),(6,.ptr (1,21) 0 0)] (Za.bk vb0 2++[bx 1 (Za.rl vb0 2),bx 10 (Zg.enc x1)]++Za.bk Za.z0 12++[bx 11 (Za.rl Za.z0 12),bx 20 (Zq.enc Zq.z0),bx 21 (Zq.enc vb2)]):=
 itK h (λg1 h=>Zi (ffi 1 21) 4 (gg g1 (kk 4 (Za.sc vb0 (Za.sc Za.z0 ee)))) (Z0m h)) λg1 h=>Zi (ffi 1 21) 4 (gg g1 (kk 4 (Za.sc vb0 (Za.sc Za.z0 ee)))) (Z0m h)
theorem Yc0 {x0:Za} {x1:Zg} {r:Za×Zq}:∀{m:Nat} {vb0:Za} {vb2:Zq} {v3:Int},Za5 x0 x1 m vb0 vb2 v3=some r->CS (Za1 x0 x1 r) Tryz.f88 [1,1,1,1,1,0,1,0] [(2,.ptr (1,1) 0 0),(3,.ptr (1,10) 0 0),(4,.ptr (1,11) 0 0),(5,.ptr (1,20) 0 0),(6,.ptr (1,21) 0 0),(11,il v3)] (Za.bk vb0 2++[bx 1 (Za.rl vb0 2),bx 10 (Zg.enc x1)]++Za.bk Za.z0 12++[bx 11 (Za.rl Za.z0 12),bx 20 (Zq.enc Zq.z0),bx 21 (Zq.enc vb2)]):=by
 intro m
 induction m with
 | zero=>intro vb0 vb2 v3 h;cases h
 | succ m ih=>exactλ{vb0} {vb2} {v3} h=>itK h (λg1 h=>bnK h λa1 Y4 h=>bnK h λy1 hy1 h=>bnK h λa2 Ka h=>bnK h λa3 ha3 h=>bnK h λr4 Kv h=>bnK h λy2 hy2 h=>Zi (ffi 1 21) 13 (lr Zd.enc vb0.m (gg g1 (xd Ze Y4 (xp Ze Y4 hy1 (xd Zk.enc Ka (xd Zc.enc ha3 (rr (Ygi Kv) (xp Zk.enc Ka hy2 (tq (Za.nm {vb0 with buckets:=y2,splits:=y1}) (oe Zc.enc vb0.conf.masters (oe Zd.enc vb0.m (ob (Q5 Zk.enc hy2) (ob (Q5 Ze hy1) (Zj.so vb0.model (oe Zm.enc vb0.log (Za.sc Za.z0 ee)))))))))))))))) (ih h)) λg1 h=>itK h (λg2 h=>Zi (ffi 1 21) 14 (lr Zd.enc vb0.m (gg g1 (gg g2 (Za.sc {vb0 with held:=(Zi4 vb0.conf.lockMost (Zu vb0.held 1))} (Za.sc Za.z0 ee))))) (Z0n h)) λg2 h=>Zi (ffi 1 21) 14 (lr Zd.enc vb0.m (gg g1 (gg g2 (Za.sc vb0 (Za.sc Za.z0 ee))))) (Z0n h)
theorem Yed {x0:Za} {x1:Zg} {r:Za×Zq}:∀{m:Nat} {vb0:Za} {vb2:Zq} {v4:List Zv} {v5:Int},Zfp x0 x1 m vb0 vb2 v4 v5=some r->CS (Za1 x0 x1 r) Tryz.f88 [1,1,1,1,0,1,0] [(2,.ptr (1,1) 0 0),(3,.ptr (1,10) 0 0),(4,.ptr (1,11) 0 0),(5,.ptr (1,20) 0 0),(6,.ptr (1,21) 0 0),(7,.sl (1,22) 0 (v4.map Zv.enc).length),(8,il v5)] (Za.bk vb0 2++[bx 1 (Za.rl vb0 2),bx 10 (Zg.enc x1)]++Za.bk Za.z0 12++[bx 11 (Za.rl Za.z0 12),bx 20 (Zq.enc Zq.z0),bx 21 (Zq.enc vb2),rx 22 106 (v4.map Zv.enc)]):=by
 intro m
 induction m with
 | zero=>intro vb0 vb2 v4 v5 h;cases h
 | succ m ih=>exactλ{vb0} {vb2} {v4} {v5} h=>itK h (λg1 h=>bnK h λa4 ha4 h=>bnK h λr5 hr5 h=>have p1 {q p} (k:Scr q p):=(lr Zv.enc v4 (gg g1 (xd Zv.enc ha4 (lr Zd.enc vb0.m (rr (Z3 hr5) k)))));itK h (λg2 h=>bnK h λa5 ha5 h=>bnK h λr6 hr6 h=>bnK h λy3 hy3 h=>Zi (ffi 1 22) 16 (p1 (gg g2 (xd Zv.enc ha4 (xd Zd.enc ha5 (xd Zv.enc ha4 (rr (Ypk hr6) (xd Zv.enc ha4 (xq Zd.enc ha5 y3 (kk 1 (oe Zb.enc r6.1.queue (ob (Zxx Zd.enc hy3) (ln Zv.enc v4 (tq (Za.nm {vb0 with m:=y3}) (oe Zc.enc vb0.conf.masters (ob (Q5 Zd.enc hy3) (oe Zk.enc vb0.buckets (oe Ze vb0.splits (Zj.so vb0.model (oe Zm.enc vb0.log (Za.sc Za.z0 ee)))))))))))))))))))) (ih h)) λg2 h=>Zi (ffi 1 22) 14 (p1 (gg g2 (ln Zv.enc v4 (Za.sc vb0 (Za.sc Za.z0 ee))))) (ih h)) λg1 h=>Zi (ffi 1 21) 13 (lr Zv.enc v4 (gg g1 (Za.sc vb0 (Za.sc Za.z0 ee)))) (Yc0 h)
theorem Yre {x0:Za} {x1:Zg} {r:Za×Zq} (h:Zuo x0 x1=some r):Zt Tryz.prog Mo (Za1 x0 x1 r):=
 Zs Tryz.func88 (bnK h λr7 hr7 h=>bnK h λr8 hr8 h=>bnK h λr9 hr9 h=>Zi ([((1,1),(1,0))]++Za.ff 2 2 1024++[((1,10),(1,1024)),((1,11),(1,2048)),((1,20),(1,3072)),((1,21),(3,2048)),((1,22),(4,3072))]) 12 (rr (Z1i hr7) (kk 8 (Za.so r7 (rr (Ypx hr8) (rr (Yp4 hr9) (ln Zv.enc r9 (Za.sc r7 ee))))))) (Yed h))
abbrev Z55 (x0:Zg) (r:Int):Y:=(99,[.agg (Zg.enc x0)],il r,[.undef])
theorem Ybi {x0:Zg} {r:Int}:∀{m:Nat} {v0:Int} {v1:Int},Zjg x0 m v0 v1=some r->CS (Z55 x0 r) Tryz.f99 [1,1,0,1,0] [(1,.ptr (1,1) 0 0),(3,il v0),(4,il v1)] [bx 1 (Zg.enc x0)]:=by
 intro m
 induction m with
 | zero=>intro v0 v1 h;cases h
 | succ m ih=>exactλ{v0} {v1} h=>itK h (λg1 h=>bnK h λa0 Z2 h=>Zi [((1,1),(1,1))] 11 (lr Zv.enc x0.posts (gg g1 (xb Zv.enc Z2 ee))) (ih h)) λg1 h=>rtK h (lr Zv.enc x0.posts (gg g1 ee))
theorem Yml {x0:Zg} {r:Int} (h:Zrv x0=some r):Zt Tryz.prog Mo (Z55 x0 r):=
 Zs Tryz.func99 (Zi [((1,1),(1,0))] 8 ee (Ybi h))
abbrev Zwu (x0:Za) (x1:Zg) (r:Za×Int):Y:=(35,[.agg (Za.enc x0),.agg (Zg.enc x1)],.tup [.agg (Za.ow r.1),il r.2],[.undef,.undef])
theorem Ztk {x0:Za} {x1:Zg} {r:Za×Int} {k_L1:Za->Int->Option (Za×Int)} (i_L1:∀{vb0:Za} {v0:Int},k_L1 vb0 v0=some r->CS (Zwu x0 x1 r) Tryz.f35 [1,1,1,1,0,0] [(3,.ptr (1,1) 0 0),(4,.ptr (1,2) 0 0),(6,.ptr (1,11) 0 0),(7,il v0)] ([bx 1 (Zg.enc x1)]++Za.bk Za.z0 3++[bx 2 (Za.rl Za.z0 3)]++Za.bk vb0 12++[bx 11 (Za.rl vb0 12)])) {vb0:Za} {v0:Int} {v1:Bool} (h:Zd5 x0 x1 k_L1 vb0 v0 v1=some r):CS (Zwu x0 x1 r) Tryz.f35 [1,1,1,1,0,0,0,0,1] [(3,.ptr (1,1) 0 0),(4,.ptr (1,2) 0 0),(6,.ptr (1,11) 0 0),(7,il v0),(28,bl v1)] ([bx 1 (Zg.enc x1)]++Za.bk Za.z0 3++[bx 2 (Za.rl Za.z0 3)]++Za.bk vb0 12++[bx 11 (Za.rl vb0 12)]):=
 itK h (λg1 h=>bnK h λr0 Zn h=>Zi (ffi 1 11++Za.ff 12 2 2048) 7 (gg g1 (kk 8 (Za.so vb0 (rr (Yre Zn) (Za.sc Za.z0 (Za.sc r0.1 ee)))))) (i_L1 h)) λg1 h=>rtK h (gg g1 (kk 8 (Za.so vb0 ee)))
theorem Yg6 {x0:Za} {x1:Zg} {r:Za×Int}:∀{m:Nat} {vb0:Za} {v0:Int},Zb3 x0 x1 m vb0 v0=some r->CS (Zwu x0 x1 r) Tryz.f35 [1,1,1,1,0,0] [(3,.ptr (1,1) 0 0),(4,.ptr (1,2) 0 0),(6,.ptr (1,11) 0 0),(7,il v0)] ([bx 1 (Zg.enc x1)]++Za.bk Za.z0 3++[bx 2 (Za.rl Za.z0 3)]++Za.bk vb0 12++[bx 11 (Za.rl vb0 12)]):=by
 intro m
 induction m with
 | zero=>intro vb0 v0 h;cases h
 | succ m ih=>exactλ{vb0} {v0} h=>itK h (λg1 h=>bnK h λr1 Zz h=>itK h (λg2 h=>Zi (ffi 1 19) 4 (gg g1 (kk 9 (Za.so vb0 (rr (Yal Zz) (kk 2 (gg g2 (kk 7 (Za.sc Za.z0 (Za.sc vb0 ee))))))))) (Ztk ih h)) λg2 h=>bnK h λr2 Z8 h=>Zi (ffi 1 19) 4 (gg g1 (kk 9 (Za.so vb0 (rr (Yal Zz) (kk 2 (gg g2 (kk 3 (rr (Yml Z8) (kk 4 (Za.sc Za.z0 (Za.sc vb0 ee))))))))))) (Ztk ih h)) λg1 h=>Zi (ffi 1 19) 4 (gg g1 (kk 5 (Za.sc Za.z0 (Za.sc vb0 ee)))) (Ztk ih h)
theorem Yt1 {x0:Za} {x1:Zg} {r:Za×Int} (h:Zw2 x0 x1=some r):Zt Tryz.prog Mo (Zwu x0 x1 r):=
 Zs Tryz.func35 (bnK h λr3 Y0 h=>bnK h λr4 Kv h=>itK h (λg1 h=>rtK h (rr (Z1i Y0) (rr (Yiy Kv) (gg g1 (kk 8 (Za.so r3 ee)))))) λg1 h=>Zi ([((1,1),(1,1024)),((1,2),(1,2048)),((1,11),(2,2048))]++Za.ff 12 2 1024) 13 (rr (Z1i Y0) (rr (Yiy Kv) (gg g1 (Za.sc r3 ee)))) (Yg6 h))
abbrev Ztb (x0:Zh) (x1:List Zb) (r:List Zm×Bool):Y:=(10,[.agg (Zh.enc x0),.tr (x1.map Zb.enc)],.tup [.own 113 (r.1.map Zm.enc),bl r.2],[.undef,.undef])
theorem Yk8 {x0:Zh} {x1:List Zb} {r:List Zm×Bool}:∀{m:Nat} {vb0:Zg} {v0:Int},Zm5 x0 x1 m vb0 v0=some r->CS (Ztb x0 x1 r) Tryz.f10 [1,1,1,0,1,0] [(1,.tr (x1.map Zb.enc)),(2,.ptr (1,1) 0 0),(6,.ptr (1,2) 0 0),(7,il v0)] [bx 1 (Zh.enc x0),((1,3),⟨false,true,false,106,vb0.posts.map Zv.enc⟩),rx 4 3 (vb0.waits.map Ze),rx 5 3 (vb0.says.map Ze),bx 2 [.sl (1,3) 0 (vb0.posts.map Zv.enc).length,.sl (1,4) 0 (vb0.waits.map Ze).length,.sl (1,5) 0 (vb0.says.map Ze).length]]:=by
 intro m
 induction m with
 | zero=>intro vb0 v0 h;cases h
 | succ m ih=>exactλ{vb0} {v0} h=>itK h (λg1 h=>bnK h λa0 Z2 h=>bnK h λr0 Zn h=>itK h (λg2 h=>rtK h (lr Zb.enc x1 (gg g1 (xb Zb.enc Z2 (rr (Zvi Zn) (gg g2 (kk 1 (ob (show 0=([].map Zm.enc).length from rfl) ee)))))))) λg2 h=>bnK h λz0 X9 h=>Zi [((1,1),(1,1)),((1,2),(1,2)),((1,3),(4,8192)),((1,4),(1,4)),((1,5),(1,5))] 16 (lr Zb.enc x1 (gg g1 (xb Zb.enc Z2 (rr (Zvi Zn) (gg g2 (xb Zb.enc Z2 (tp (.app ([(Zv.mk 0 0 a0)].map Zv.enc) false (z0.map Zv.enc) (z0.map Zv.enc).length) (kk 1 (ob (show 1=([(Zv.mk 0 0 a0)].map Zv.enc).length from rfl) (ob (Eq.refl ([(Zv.mk 0 0 a0)].map Zv.enc)) (ob (Eq.refl false) (ob (alr 8 Zv.enc_len [(Zv.mk 0 0 a0)]) (ox Zv.enc X9 (oe Zv.enc z0 (Zg.sc {vb0 with posts:=z0} ee))))))))))))))) (ih h)) λg1 h=>bnK h λr1 Zz h=>bnK h λr2 Z8 h=>rtK h (lr Zb.enc x1 (gg g1 (rr (Yu0 Zz) (kk 11 (Za.so r1.1 (Zg.so vb0 (rr (Yt1 Z8) (kk 1 (oe Zm.enc r2.1.log ee)))))))))
theorem Z6h {x0:Zh} {x1:List Zb} {r:List Zm×Bool} {v1:Bool} (h:Zl1 x0 x1 v1=some r):CS (Ztb x0 x1 r) Tryz.f10 [1,0,1] [(1,.tr (x1.map Zb.enc)),(2,.ptr (1,1) 0 0),(19,bl v1)] [bx 1 (Zh.enc x0)]:=
 itK h (λg1 h=>rtK h (gg g1 (kk 1 (ob (show 0=([].map Zm.enc).length from rfl) ee)))) λg1 h=>Zi [((1,1),(1,1)),((1,2),(2,1024))] 8 (gg g1 ee) (Yk8 h)
theorem Y0k {x0:Zh} {x1:List Zb} {r:List Zm×Bool} (h:Z4r x0 x1=some r):Zt Tryz.prog Mo (Ztb x0 x1 r):=
 Zs Tryz.func10 (bnK h λr3 Y0 h=>itK h (λg1 h=>Zi [((1,1),(1,0))] 5 (rr (Zbb Y0) (gg g1 (kk 3 ee))) (Z6h h)) λg1 h=>Zi [((1,1),(1,0))] 5 (rr (Zbb Y0) (gg g1 (kk 1 (lr Zb.enc x1 (kk 2 ee))))) (Z6h h))
abbrev Yu4 (x0:Int) (x1:Int) (x2:Int) (r:Bool):Y:=(65,[il x0,il x1,il x2],bl r,[.undef,.undef,.undef])
theorem Yg {x0:Int} {x1:Int} {x2:Int} {r:Bool} (h:Ys x0 x1 x2=some r):Zt Tryz.prog Mo (Yu4 x0 x1 x2 r):=
 Zs Tryz.func65 (itK h (λg1 h=>rtK h (gg g1 (kk 3 ee))) λg1 h=>rtK h (gg g1 (kk 3 ee)))
abbrev Yfb (x0:Zh) (r:Int):Y:=(237,[.agg (Zh.enc x0)],il r,[.undef])
theorem Z2x {x0:Zh} {r:Int} {v0:Bool} (h:Zte x0 v0=some r):CS (Yfb x0 r) Tryz.f237 [1,0,1] [(1,.ptr (1,1) 0 0),(12,bl v0)] [bx 1 (Zh.enc x0)]:=
 itK h (λg1 h=>rtK h (gg g1 ee)) λg1 h=>rtK h (gg g1 ee)
theorem Z3w {x0:Zh} {r:Int} (h:Zr5 x0=some r):Zt Tryz.prog Mo (Yfb x0 r):=
 Zs Tryz.func237 (bnK h λr0 Zn h=>itK h (λg1 h=>Zi [((1,1),(1,0))] 5 (rr (Yg Zn) (gg g1 (kk 4 ee))) (Z2x h)) λg1 h=>bnK h λr1 Zz h=>Zi [((1,1),(1,0))] 5 (rr (Yg Zn) (gg g1 (kk 2 (rr (Yg Zz) (kk 2 ee))))) (Z2x h))
abbrev Yt0 (x0:Zh) (r:Int):Y:=(182,[.agg (Zh.enc x0)],il r,[.undef])
theorem Z3q {x0:Zh} {r:Int} (h:Zq8 x0=some r):Zt Tryz.prog Mo (Yt0 x0 r):=
 Zs Tryz.func182 (bnK h λr0 Zn h=>itK h (λg1 h=>rtK h (rr (Z3w Zn) (gg g1 (kk 5 ee)))) λg1 h=>bnK h λr1 Zz h=>have p1 {q p} (k:Scr q p):=(rr (Z3w Zn) (gg g1 (kk 2 (rr (Yg Zz) (kk 2 k)))));itK h (λg2 h=>rtK h (p1 (gg g2 ee))) λg2 h=>bnK h λr2 Z8 h=>rtK h (p1 (gg g2 (rr (Z3w Z8) ee))))
abbrev Yic (x0:Zh) (r:Int):Y:=(239,[.agg (Zh.enc x0)],il r,[.undef])
theorem Ykc {x0:Zh} {r:Int}:∀{m:Nat} {v0:Int} {v1:Int},Zpn x0 m v0 v1=some r->CS (Yic x0 r) Tryz.f239 [1,1,0,1,0] [(3,il v0),(7,.tr (x0.masters.map Zc.enc)),(8,il (x0.masters.length:Int)),(9,il v1)] []:=by
 intro m
 induction m with
 | zero=>intro v0 v1 h;cases h
 | succ m ih=>exactλ{v0} {v1} h=>itK h (λg1 h=>bnK h λa0 Z2 h=>itK h (λg2 h=>Zi [] 16 (gg g1 (xb Zc.enc Z2 (gg g2 ee))) (ih h)) λg2 h=>Zi [] 16 (gg g1 (xb Zc.enc Z2 (gg g2 ee))) (ih h)) λg1 h=>rtK h (gg g1 ee)
theorem Yxc {x0:Zh} {r:Int} (h:Z0x x0=some r):Zt Tryz.prog Mo (Yic x0 r):=
 Zs Tryz.func239 (Zi [] 8 (lr Zc.enc x0.masters ee) (Ykc h))
abbrev Yht (x0:Zh) (r:Int):Y:=(185,[.agg (Zh.enc x0)],il r,[.undef])
theorem Z19 {x0:Zh} {r:Int} (h:Zoa x0=some r):Zt Tryz.prog Mo (Yht x0 r):=
 Zs Tryz.func185 (bnK h λr0 Zn h=>bnK h λr1 Zz h=>rtK h (rr (Z3q Zn) (rr (Yxc Zz) ee)))
abbrev Yn3 (x0:Zc) (x1:Zh) (r:Bool):Y:=(184,[.agg (Zc.enc x0),.rp true (Zh.enc x1) 0],bl r,[.undef,.undef])
theorem Z7n {x0:Zc} {x1:Zh} {r:Bool} (h:Zrm x0 x1=some r):Zt Tryz.prog Mo (Yn3 x0 x1 r):=
 Zs Tryz.func184 (bnK h λr0 Zn h=>have p1 {q p} (k:Scr q p):=(rr (Yg Zn) k);itK h (λg1 h=>rtK h (p1 (gg g1 ee))) λg1 h=>itK h (λg2 h=>bnK h λr1 Zz h=>bnK h λr2 Z8 h=>itK h (λg3 h=>rtK h (p1 (gg g1 (gg g2 (rr (Z19 Zz) (rr (Yg Z8) (gg g3 (kk 4 ee)))))))) λg3 h=>bnK h λr3 Y0 h=>rtK h (p1 (gg g1 (gg g2 (rr (Z19 Zz) (rr (Yg Z8) (gg g3 (kk 2 (rr (Yg Y0) (kk 2 ee)))))))))) λg2 h=>itK h (λg3 h=>rtK h (p1 (gg g1 (gg g2 (gg g3 (kk 3 ee)))))) λg3 h=>rtK h (p1 (gg g1 (gg g2 (gg g3 (kk 3 ee))))))
abbrev Zar (x0:List Zc) (x1c0:Zh) (r:Int):Y:=(238,[.tr (x0.map Zc.enc),.fn 184 [.rp true (Zh.enc x1c0) 0]],il r,[.undef,.undef])
theorem Zfc {x0:List Zc} {x1c0:Zh} {r:Int}:∀{m:Nat} {v0:Int},Yy x0 x1c0 m v0=some r->CS (Zar x0 x1c0 r) Tryz.f238 [1,0,1,0] [(0,.tr (x0.map Zc.enc)),(1,.fn 184 [.rp true (Zh.enc x1c0) 0]),(7,il (x0.length:Int)),(8,il v0)] []:=by
 intro m
 induction m with
 | zero=>intro v0 h;cases h
 | succ m ih=>exactλ{v0} h=>itK h (λg1 h=>bnK h λa0 Z2 h=>bnK h λr0 Zn h=>itK h (λg2 h=>rtK h (gg g1 (xb Zc.enc Z2 (rr (Z7n Zn) (gg g2 ee))))) λg2 h=>Zi [] 16 (gg g1 (xb Zc.enc Z2 (rr (Z7n Zn) (gg g2 ee)))) (ih h)) λg1 h=>rtK h (gg g1 ee)
theorem Zh1 {x0:List Zc} {x1c0:Zh} {r:Int} (h:Qx x0 x1c0=some r):Zt Tryz.prog Mo (Zar x0 x1c0 r):=
 Zs Tryz.func238 (Zi [] 6 (lr Zc.enc x0 ee) (Zfc h))
abbrev Zf5 (x0:List Zc) (x1c0:Zh) (r:Bool):Y:=(183,[.tr (x0.map Zc.enc),.fn 184 [.rp true (Zh.enc x1c0) 0]],bl r,[.undef,.undef])
theorem Zf9 {x0:List Zc} {x1c0:Zh} {r:Bool} (h:X1 x0 x1c0=some r):Zt Tryz.prog Mo (Zf5 x0 x1c0 r):=
 Zs Tryz.func183 (bnK h λr0 Zn h=>rtK h (rr (Zh1 Zn) ee))
abbrev Yum (x0:Zh) (r:Bool):Y:=(111,[.agg (Zh.enc x0)],bl r,[.undef])
theorem Zin {x0:Zh} {r:Bool} (h:Ziu x0=some r):Zt Tryz.prog Mo (Yum x0 r):=
 Zs Tryz.func111 (bnK h λr0 Zn h=>have p1 {q p} (k:Scr q p):=(lr Zc.enc x0.masters (rr (Yg Zn) k));itK h (λg1 h=>rtK h (p1 (gg g1 (kk 14 ee)))) λg1 h=>bnK h λr1 Zz h=>have p2 {q p} (k:Scr q p):=(p1 (gg g1 (kk 2 (rr (Yg Zz) (kk 2 k)))));itK h (λg2 h=>rtK h (p2 (gg g2 (kk 9 ee)))) λg2 h=>bnK h λr2 Z8 h=>have p3 {q p} (k:Scr q p):=(p2 (gg g2 (kk 2 (rr (Yg Z8) (kk 2 k)))));itK h (λg3 h=>rtK h (p3 (gg g3 (kk 4 ee)))) λg3 h=>bnK h λr3 Y0 h=>itK h (λg4 h=>rtK h (p3 (gg g3 (kk 1 (rr (Z3q Y0) (kk 2 (gg g4 ee))))))) λg4 h=>bnK h λr4 Kv h=>rtK h (p3 (gg g3 (kk 1 (rr (Z3q Y0) (kk 2 (gg g4 (rr (Zf9 Kv) ee))))))))
abbrev Zj2 (x0:List Zc) (r:List Zc):Y:=(186,[.tr (x0.map Zc.enc)],.own 150 (r.map Zc.enc),[.undef])
theorem Zv2 {x0:List Zc} {r:List Zc} (h:J9 x0=some r):Zt Tryz.prog Mo (Zj2 x0 r):=by
 refine Zs Tryz.func186 ?_;unfold J9 at h;cases x0 with
 | nil=>
  obtain rfl:[]=r:=(Z4l h);have hn:CS (Zj2 [] []) Tryz.f186 [1,0,0] [(0,.tr [])] []:=Z4x Mo fOk (k:=at_ [1,0,1] (Qw Tryz.f186) []) (x0:=.tmp 0) (d0:=3) (d1:=4) (t:=31) (e:=150) (y:=.const (.slice none 0 0)) (by kernel_rfl) (by kernel_rfl) rfl rfl λb=>by
   cases b with
   | true=>exact rtQ rfl [.k] tt
   | false=>exact rtQ rfl [.k,.app [] true [] 0,.k] (aa (Eq.refl ([]:List (List V))) (aa (Eq.refl true) (aa (Eq.refl true) (aa (Eq.refl 0) (aa (apz 32) (aa (Eq.refl ([]:List (List V))) (aa (Eq.refl 0) (aa (Eq.refl 0) tt))))))))
  exact cutQ [] 4 [] tt hn
 | cons a l=>
  exact rtQ rfl [.k,.app ((a::l).map Zc.enc) true (r.map Zc.enc) (r.map Zc.enc).length,.k] (aa (Vdg (Zc.enc a) (l.map Zc.enc)) (aa (Eq.refl ((a::l).map Zc.enc)) (aa (ltr Zc.enc_lit (a::l)) (aa (alr 4 Zc.enc_len (a::l)) (aa (Eq.refl 0) (aa (apl Zc.enc h) (aa (apm0 Zc.enc h) (aa (Z68 Zc.enc r) (aa (Z68 Zc.enc r) tt)))))))))
abbrev Yp2 (x0:Zh) (r:Zh):Y:=(112,[.agg (Zh.enc x0)],.agg [.own 150 (r.masters.map Zc.enc),il r.quantum,il r.maxWait,il r.maxRetry,il r.maxSplit,il r.lockMost],[.undef])
theorem Z9n {x0:Zh} {r:Zh} (h:Zo0 x0=some r):Zt Tryz.prog Mo (Yp2 x0 r):=
 Zs Tryz.func112 (bnK h λr0 Zn h=>rtK h (rr (Zv2 Zn) (kk 1 (oe Zc.enc r0 ee))))
abbrev Yt9  (r:Zl):Y:=(187,[],.agg (Zl.ow r),[])
theorem Ytm  {r:Zl} (h:Yee  = some r):Zt Tryz.prog Mo (Yt9  r):=
 Zs Tryz.func187 (bnK h λm0 hm0 h=>rtK h (tp (.mk (4:Int).toNat (m0.map Ze)) (kk 1 (ob (mkn hm0) (ob (mkn hm0) (ob (mkl hm0) (ob (mkr Ze hm0) (oe Ze m0 ee))))))))
abbrev Ynk  (r:Zj):Y:=(113,[],.agg (Zj.ow r),[])
theorem Yn9  {r:Zj} (h:Zqy  = some r):Zt Tryz.prog Mo (Ynk  r):=
 Zs Tryz.func113 (bnK h λm0 hm0 h=>bnK h λr0 Zn h=>rtK h (tp (.mk (192:Int).toNat (m0.map Ze)) (ob (mkn hm0) (ob (mkn hm0) (ob (mkl hm0) (ob (mkr Ze hm0) (rr (Ytm Zn) (kk 3 (oe Ze m0 (Zl.so r0 ee))))))))))
abbrev Yjq (x0:Zc) (r:Zk):Y:=(114,[.agg (Zc.enc x0)],.agg (Zk.enc r),[.undef])
theorem Yj0 {x0:Zc} {r:Zk} (h:Zpi x0=some r):Zt Tryz.prog Mo (Yjq x0 r):=
 Zs Tryz.func114 (itK h (λg1 h=>rtK h (gg g1 ee)) λg1 h=>rtK h (gg g1 ee))
abbrev Ydv (x0:Zh) (r:Za×Bool):Y:=(49,[.agg (Zh.enc x0)],.tup [.agg (Za.ow r.1),bl r.2],[.undef])
theorem Ygg {x0:Zh} {r:Za×Bool}:∀{m:Nat} {vb0:Za} {v0:Int},Znj x0 m vb0 v0=some r->CS (Ydv x0 r) Tryz.f49 [1,1,1,0,1,0] [(2,.ptr (1,1) 0 0),(4,.ptr (1,10) 0 0),(16,.tr (x0.masters.map Zc.enc)),(17,il (x0.masters.length:Int)),(18,il v0)] (Za.bk Za.z0 2++[bx 1 (Za.rl Za.z0 2)]++Za.bk vb0 11++[bx 10 (Za.rl vb0 11)]):=by
 intro m
 induction m with
 | zero=>intro vb0 v0 h;cases h
 | succ m ih=>exactλ{vb0} {v0} h=>itK h (λg1 h=>bnK h λa0 Z2 h=>bnK h λz0 X9 h=>bnK h λr0 Zn h=>bnK h λz1 hz1 h=>bnK h λz2 hz2 h=>Zi (ffi 1 11++[((1,12),(4,4096)),((1,13),(5,5120)),((1,14),(6,3072))]++ffi 15 4) 17 (gg g1 (xb Zc.enc Z2 (ta Zd.enc [Zd.z0] z0 (kk 1 (oa 6 Zd.enc_len Zd.z0 (ox Zd.enc X9 (oe Zd.enc z0 (rr (Yj0 Zn) (ta Zk.enc [r0] z1 (kk 1 (ta Ze [0] z2 (kk 1 (oa 2 Zk.enc_len r0 (ox Zk.enc hz1 (oe Zk.enc z1 (oa 1 Zaf 0 (ox Ze hz2 (oe Ze z2 (Za.sc Za.z0 (Za.sc {vb0 with m:=z0,buckets:=z1,splits:=z2} ee)))))))))))))))))))) (ih h)) λg1 h=>rtK h (gg g1 (kk 8 (Za.so vb0 ee)))
theorem Z35 {x0:Zh} {r:Za×Bool} (h:Zwg x0=some r):Zt Tryz.prog Mo (Ydv x0 r):=
 Zs Tryz.func49 (bnK h λr1 Zz h=>itK h (λg1 h=>rtK h (rr (Zin Zz) (gg g1 ee))) λg1 h=>bnK h λr2 Z8 h=>bnK h λr3 Y0 h=>Zi [((1,1),(1,1024)),((1,10),(3,4096)),((1,11),(3,1024)),((1,15),(3,2048)),((1,16),(3,2049)),((1,17),(3,2051))] 13 (rr (Zin Zz) (gg g1 (rr (Z9n Z8) (rr (Yn9 Y0) (lr Zc.enc x0.masters (ln Zc.enc r2.masters (tp (.num (r3.mem.map Ze).length 0 0 []) (tp (.num (r3.dev.regs.map Ze).length 0 0 []) (tp (.num (r3.dev.fifo.map Ze).length 0 0 []) (Zj.so r3 ee)))))))))) (Ygg h))
abbrev Yru (x0:Int) (r:Int):Y:=(116,[il x0],il r,[.undef])
theorem Zum {x0:Int} {r:Int} (h:Zgx x0=some r):Zt Tryz.prog Mo (Yru x0 r):=
 Zs Tryz.func116 (bnK h λr0 Zn h=>itK h (λg1 h=>rtK h (rr (Yg Zn) (gg g1 ee))) λg1 h=>bnK h λa0 Z2 h=>rtK h (rr (Yg Zn) (gg g1 (xd Ze Z2 ee))))
abbrev Yqq (x0:Int) (r:Int):Y:=(241,[il x0],il r,[.undef])
theorem Zck {x0:Int} {r:Int} (h:J0 x0=some r):Zt Tryz.prog Mo (Yqq x0 r):=
 Zs Tryz.func241 (bnK h λr0 Zn h=>itK h (λg1 h=>rtK h (rr (Yg Zn) (gg g1 ee))) λg1 h=>bnK h λn0 hn0 h=>rtK h (rr (Yg Zn) (gg g1 (tp (.obl) (ob (nn0 hn0) ee)))))
abbrev Yqi (x0:Int) (x1:Int) (r:Bool):Y:=(223,[il x0,il x1],bl r,[.undef,.undef])
theorem Zgw {x0:Int} {x1:Int} {r:Bool} (h:Zgo x0 x1=some r):Zt Tryz.prog Mo (Yqi x0 x1 r):=
 Zs Tryz.func223 (bnK h λr0 Zn h=>itK h (λg1 h=>itK h (λg2 h=>bnK h λr1 Zz h=>bnK h λn0 hn0 h=>rtK h (rr (Yg Zn) (gg g1 (kk 2 (gg g2 (kk 2 (rr (Zck Zz) (kk 1 (tp (.obl) (kk 2 (ob (nz0 hn0) ee))))))))))) λg2 h=>rtK h (rr (Yg Zn) (gg g1 (kk 2 (gg g2 (kk 5 ee)))))) λg1 h=>rtK h (rr (Yg Zn) (gg g1 (kk 8 ee))))
abbrev Z7f (x0:Int) (x1:Int) (x2:Int) (r:Int):Y:=(240,[il x0,il x1,il x2],il r,[.undef,.undef,.undef])
theorem Zp2 {x0:Int} {x1:Int} {x2:Int} {r:Int} {v0:Bool} (h:Zem x0 x1 x2 v0=some r):CS (Z7f x0 x1 x2 r) Tryz.f240 [1,0,1] [(0,il x0),(1,il x1),(2,il x2),(21,bl v0)] []:=
 itK h (λg1 h=>rtK h (gg g1 ee)) λg1 h=>bnK h λr0 Zn h=>bnK h λr1 Zz h=>have p1 {q p} (k:Scr q p):=(gg g1 (rr (Zck Zn) (rr (Zck Zz) k)));itK h (λg2 h=>bnK h λn0 hn0 h=>itK h (λg3 h=>rtK h (p1 (gg g2 (kk 2 (tp (.obl) (kk 2 (ob (nz0 hn0) (gg g3 ee)))))))) λg3 h=>rtK h (p1 (gg g2 (kk 2 (tp (.obl) (kk 2 (ob (nz0 hn0) (gg g3 ee)))))))) λg2 h=>rtK h (p1 (gg g2 (kk 5 ee)))
theorem Z7k {x0:Int} {x1:Int} {x2:Int} {r:Int} (h:Zsa x0 x1 x2=some r):Zt Tryz.prog Mo (Z7f x0 x1 x2 r):=
 Zs Tryz.func240 (bnK h λr2 Z8 h=>itK h (λg1 h=>Zi [] 5 (rr (Zgw Z8) (gg g1 (kk 6 ee))) (Zp2 h)) λg1 h=>itK h (λg2 h=>Zi [] 5 (rr (Zgw Z8) (gg g1 (kk 2 (gg g2 (kk 3 ee))))) (Zp2 h)) λg2 h=>bnK h λr3 Y0 h=>Zi [] 5 (rr (Zgw Z8) (gg g1 (kk 2 (gg g2 (kk 1 (rr (Zum Y0) (kk 2 ee))))))) (Zp2 h))
abbrev Z2w (x0:Int) (x1:Int) (x2:Int) (r:List Int):Y:=(188,[il x0,il x1,il x2],.own 3 (r.map Ze),[.undef,.undef,.undef])
theorem Z6w {x0:Int} {x1:Int} {x2:Int} {r:List Int}:∀{m:Nat} {v0:Int} {v1:List Int} {v2:Int} {v3:Int},Zgi x0 x1 x2 m v0 v1 v2 v3=some r->CS (Z2w x0 x1 x2 r) Tryz.f188 [1,1,0,1,0] [(0,il v0),(1,il x1),(2,il x2),(7,.sl (1,1) 0 (v1.map Ze).length),(11,il v2),(12,il v3)] [rx 1 3 (v1.map Ze)]:=by
 intro m
 induction m with
 | zero=>intro v0 v1 v2 v3 h;cases h
 | succ m ih=>exactλ{v0} {v1} {v2} {v3} h=>itK h (λg1 h=>bnK h λr0 Zn h=>itK h (λg2 h=>rtK h (gg g1 (rr (Z7k Zn) (gg g2 ee)))) λg2 h=>bnK h λz0 X9 h=>Zi [((1,1),(5,3072))] 20 (gg g1 (rr (Z7k Zn) (gg g2 (ta Ze [v0] z0 (kk 1 (oa 1 Zaf v0 (ox Ze X9 (ln Ze z0 (oe Ze z0 ee))))))))) (ih h)) λg1 h=>rtK h (gg g1 (kk 1 (oe Ze v1 ee)))
theorem Z2v {x0:Int} {x1:Int} {x2:Int} {r:List Int} (h:Zhv x0 x1 x2=some r):Zt Tryz.prog Mo (Z2w x0 x1 x2 r):=
 Zs Tryz.func188 (bnK h λr1 Zz h=>Zi [((1,1),(2,0))] 8 (rr (Zum Zz) (tp (.num ([].map Ze).length 0 0 []) (ob (show 0=([].map Ze).length from rfl) ee))) (Z6w h))
abbrev Z90 (x0:Int) (x1:Int) (x2:Int) (r:Bool):Y:=(117,[il x0,il x1,il x2],bl r,[.undef,.undef,.undef])
theorem Ye5 {x0:Int} {x1:Int} {x2:Int} {r:Bool}:∀{m:Nat} {v0:List Int} {v1:Int} {v2:Int},Zlj x0 x1 x2 m v0 v1 v2=some r->CS (Z90 x0 x1 x2 r) Tryz.f117 [1,1,0,1,0] [(7,.sl (1,1) 0 (v0.map Ze).length),(14,.sl (1,1) 0 (v0.map Ze).length),(15,il v1),(16,il v2)] [rx 1 3 (v0.map Ze)]:=by
 intro m
 induction m with
 | zero=>intro v0 v1 v2 h;cases h
 | succ m ih=>exactλ{v0} {v1} {v2} h=>itK h (λg1 h=>bnK h λa0 Z2 h=>bnK h λa1 Y4 h=>itK h (λg2 h=>rtK h (gg g1 (xd Ze Z2 (kk 1 (xd Ze Y4 (kk 1 (gg g2 ee))))))) λg2 h=>Zi [((1,1),(1,1))] 16 (gg g1 (xd Ze Z2 (kk 1 (xd Ze Y4 (kk 1 (gg g2 (ln Ze v0 (ln Ze v0 ee)))))))) (ih h)) λg1 h=>rtK h (gg g1 (lr Ze v0 ee))
theorem Z11 {x0:Int} {x1:Int} {x2:Int} {r:Bool} (h:Ztw x0 x1 x2=some r):Zt Tryz.prog Mo (Z90 x0 x1 x2 r):=
 Zs Tryz.func117 (bnK h λr0 Zn h=>Zi [((1,1),(2,3072))] 8 (rr (Z2v Zn) (lr Ze r0 (ln Ze r0 (ln Ze r0 ee)))) (Ye5 h))
abbrev Yr0 (x0:Int) (r:Int):Y:=(190,[il x0],il r,[.undef])
theorem Yav {x0:Int} {r:Int} (h:Zoy x0=some r):Zt Tryz.prog Mo (Yr0 x0 r):=
 Zs Tryz.func190 (bnK h λr0 Zn h=>itK h (λg1 h=>rtK h (rr (Zck Zn) (gg g1 ee))) λg1 h=>bnK h λr1 Zz h=>bnK h λn0 hn0 h=>rtK h (rr (Zck Zn) (gg g1 (rr (Zck Zz) (tp (.obl) (ob (nn0 hn0) ee))))))
abbrev Ywn (x0:Int) (x1:Int) (r:Bool):Y:=(120,[il x0,il x1],bl r,[.undef,.undef])
theorem Zl4 {x0:Int} {x1:Int} {r:Bool} (h:Zdz x0 x1=some r):Zt Tryz.prog Mo (Ywn x0 x1 r):=
 Zs Tryz.func120 (bnK h λr0 Zn h=>bnK h λr1 Zz h=>rtK h (rr (Yav Zn) (rr (Yg Zz) ee)))
abbrev Yrv (x0:Int) (x1:Zb) (r:Bool):Y:=(119,[il x0,.rp true (Zb.enc x1) 0],bl r,[.undef,.undef])
theorem Yab {x0:Int} {x1:Zb} {r:Bool} (h:Zua x0 x1=some r):Zt Tryz.prog Mo (Yrv x0 x1 r):=
 Zs Tryz.func119 (bnK h λr0 Zn h=>rtK h (rr (Zl4 Zn) ee))
abbrev Zci (x0:List Int) (x1c0:Zb) (r:Int):Y:=(189,[.tr (x0.map Ze),.fn 119 [.rp true (Zb.enc x1c0) 0]],il r,[.undef,.undef])
theorem Zh7 {x0:List Int} {x1c0:Zb} {r:Int}:∀{m:Nat} {v0:Int},Q3 x0 x1c0 m v0=some r->CS (Zci x0 x1c0 r) Tryz.f189 [1,0,1,0] [(0,.tr (x0.map Ze)),(1,.fn 119 [.rp true (Zb.enc x1c0) 0]),(7,il (x0.length:Int)),(8,il v0)] []:=by
 intro m
 induction m with
 | zero=>intro v0 h;cases h
 | succ m ih=>exactλ{v0} h=>itK h (λg1 h=>bnK h λa0 Z2 h=>bnK h λr0 Zn h=>itK h (λg2 h=>rtK h (gg g1 (xb Ze Z2 (rr (Yab Zn) (gg g2 ee))))) λg2 h=>Zi [] 16 (gg g1 (xb Ze Z2 (rr (Yab Zn) (gg g2 ee)))) (ih h)) λg1 h=>rtK h (gg g1 ee)
theorem Zlx {x0:List Int} {x1c0:Zb} {r:Int} (h:Kw x0 x1c0=some r):Zt Tryz.prog Mo (Zci x0 x1c0 r):=
 Zs Tryz.func189 (Zi [] 6 (lr Ze x0 ee) (Zh7 h))
abbrev Zi8 (x0:List Int) (x1c0:Zb) (r:Bool):Y:=(118,[.tr (x0.map Ze),.fn 119 [.rp true (Zb.enc x1c0) 0]],bl r,[.undef,.undef])
theorem Zjp {x0:List Int} {x1c0:Zb} {r:Bool} (h:Wo x0 x1c0=some r):Zt Tryz.prog Mo (Zi8 x0 x1c0 r):=
 Zs Tryz.func118 (bnK h λr0 Zn h=>rtK h (rr (Zlx Zn) ee))
abbrev Yh7 (x0:Zb) (r:Bool):Y:=(52,[.agg (Zb.enc x0)],bl r,[.undef])
theorem Z5j {x0:Zb} {r:Bool} {v0:Int} (h:Zpj x0 v0=some r):CS (Yh7 x0 r) Tryz.f52 [1,1,1] [(1,.ptr (1,1) 0 0),(3,il v0)] [bx 1 (Zb.enc x0)]:=
 bnK h λr0 Zn h=>itK h (λg1 h=>itK h (λg2 h=>bnK h λr1 Zz h=>rtK h (rr (Z11 Zn) (gg g1 (kk 2 (lr Ze x0.data_ (kk 3 (gg g2 (kk 3 (rr (Zjp Zz) (kk 2 ee)))))))))) λg2 h=>rtK h (rr (Z11 Zn) (gg g1 (kk 2 (lr Ze x0.data_ (kk 3 (gg g2 (kk 5 ee)))))))) λg1 h=>rtK h (rr (Z11 Zn) (gg g1 (kk 11 ee)))
theorem Z0z {x0:Zb} {r:Bool} (h:Zqi x0=some r):Zt Tryz.prog Mo (Yh7 x0 r):=
 Zs Tryz.func52 (itK h (λg1 h=>bnK h λr2 Z8 h=>Zi [((1,1),(1,0))] 9 (gg g1 (rr (Zum Z8) ee)) (Z5j h)) λg1 h=>Zi [((1,1),(1,0))] 9 (gg g1 ee) (Z5j h))
abbrev Ytx (x0:Zb) (r:Bool):Y:=(51,[.agg (Zb.enc x0)],bl r,[.undef])
theorem Yfg {x0:Zb} {r:Bool} (h:Zwv x0=some r):Zt Tryz.prog Mo (Ytx x0 r):=
 Zs Tryz.func51 (bnK h λr0 Zn h=>rtK h (rr (Z0z Zn) ee))
abbrev Zcw (x0:List Zb) (r:Int):Y:=(115,[.tr (x0.map Zb.enc),.fn 51 []],il r,[.undef,.undef])
theorem Zjm {x0:List Zb} {r:Int}:∀{m:Nat} {v0:Int},Wp x0 m v0=some r->CS (Zcw x0 r) Tryz.f115 [1,0,1,0] [(0,.tr (x0.map Zb.enc)),(1,.fn 51 []),(7,il (x0.length:Int)),(8,il v0)] []:=by
 intro m
 induction m with
 | zero=>intro v0 h;cases h
 | succ m ih=>exactλ{v0} h=>itK h (λg1 h=>bnK h λa0 Z2 h=>bnK h λr0 Zn h=>itK h (λg2 h=>rtK h (gg g1 (xb Zb.enc Z2 (rr (Yfg Zn) (gg g2 ee))))) λg2 h=>Zi [] 16 (gg g1 (xb Zb.enc Z2 (rr (Yfg Zn) (gg g2 ee)))) (ih h)) λg1 h=>rtK h (gg g1 ee)
theorem Zmj {x0:List Zb} {r:Int} (h:Jb x0=some r):Zt Tryz.prog Mo (Zcw x0 r):=
 Zs Tryz.func115 (Zi [] 6 (lr Zb.enc x0 ee) (Zjm h))
abbrev Zj0 (x0:List Zb) (r:Bool):Y:=(50,[.tr (x0.map Zb.enc),.fn 51 []],bl r,[.undef,.undef])
theorem Zj1 {x0:List Zb} {r:Bool} (h:Kk x0=some r):Zt Tryz.prog Mo (Zj0 x0 r):=
 Zs Tryz.func50 (bnK h λr0 Zn h=>rtK h (rr (Zmj Zn) ee))
abbrev Zo4 (x0:List Int) (r:List Int):Y:=(159,[.tr (x0.map Ze)],.own 3 (r.map Ze),[.undef])
theorem Wq {x0:List Int} {r:List Int} (h:Y5 x0=some r):Zt Tryz.prog Mo (Zo4 x0 r):=by
 refine Zs Tryz.func159 ?_;unfold Y5 at h;cases x0 with
 | nil=>
  obtain rfl:[]=r:=(Z4l h);have hn:CS (Zo4 [] []) Tryz.f159 [1,0,0] [(0,.tr [])] []:=Z4x Mo fOk (k:=at_ [1,0,1] (Qw Tryz.f159) []) (x0:=.tmp 0) (d0:=3) (d1:=4) (t:=45) (e:=3) (y:=.const (.slice none 0 0)) (by kernel_rfl) (by kernel_rfl) rfl rfl λb=>by
   cases b with
   | true=>exact rtQ rfl [.k] tt
   | false=>exact rtQ rfl [.k,.app [] true [] 0,.k] (aa (Eq.refl ([]:List (List V))) (aa (Eq.refl true) (aa (Eq.refl true) (aa (Eq.refl 0) (aa (apz 8) (aa (Eq.refl ([]:List (List V))) (aa (Eq.refl 0) (aa (Eq.refl 0) tt))))))))
  exact cutQ [] 4 [] tt hn
 | cons a l=>
  exact rtQ rfl [.k,.app ((a::l).map Ze) true (r.map Ze) (r.map Ze).length,.k] (aa (Vdg (Ze a) (l.map Ze)) (aa (Eq.refl ((a::l).map Ze)) (aa (ltr Zpx (a::l)) (aa (alr 1 Zaf (a::l)) (aa (Eq.refl 0) (aa (apl Ze h) (aa (apm0 Ze h) (aa (Z68 Ze r) (aa (Z68 Ze r) tt)))))))))
abbrev Ytj (x0:Zb) (r:Zb):Y:=(214,[.agg (Zb.enc x0)],.agg [bl r.write,il r.addr,il r.size,il r.burst,bl r.lock,.own 3 (r.data_.map Ze)],[.undef])
theorem Z4h {x0:Zb} {r:Zb} (h:Zir x0=some r):Zt Tryz.prog Mo (Ytj x0 r):=
 Zs Tryz.func214 (bnK h λr0 Zn h=>rtK h (rr (Wq Zn) (kk 1 (oe Ze r0 ee))))
abbrev Ydl (x0:Zd) (r:Zd):Y:=(157,[.agg (Zd.enc x0)],.agg [.own 104 (r.queue.map Zb.enc),il r.beat,il r.done,il r.tries,bl r.parted,bl r.broken],[.undef])
theorem Yg5 {x0:Zd} {r:Zd}:∀{m:Nat} {v0:List Zb} {v1:Int},Zn7 x0 m v0 v1=some r->CS (Ydl x0 r) Tryz.f157 [1,1,0,1,0] [(1,.ptr (1,1) 0 0),(2,.ptr (1,2) 0 0),(3,.sl (1,4) 0 (v0.map Zb.enc).length),(8,.tr (x0.queue.map Zb.enc)),(9,il (x0.queue.length:Int)),(10,il v1)] [bx 1 (Zd.enc x0),rx 3 104 ([].map Zb.enc),bx 2 [.sl (1,3) 0 ([].map Zb.enc).length,il 0,il 0,il 0,bl false,bl false],rx 4 104 (v0.map Zb.enc)]:=by
 intro m
 induction m with
 | zero=>intro v0 v1 h;cases h
 | succ m ih=>exactλ{v0} {v1} h=>itK h (λg1 h=>bnK h λa0 Z2 h=>bnK h λr0 Zn h=>bnK h λz0 X9 h=>Zi (ffi 1 3++[((1,4),(4,4096))]) 13 (gg g1 (xb Zb.enc Z2 (rr (Z4h Zn) (kk 1 (ta Zb.enc [r0] z0 (kk 1 (oe Ze r0.data_ (oa 6 Zb.enc_len r0 (ox Zb.enc X9 (ln Zb.enc z0 (oe Zb.enc z0 (ln Zb.enc [] ee)))))))))))) (ih h)) λg1 h=>rtK h (gg g1 (kk 1 (oe Zb.enc v0 ee)))
theorem Zgh {x0:Zd} {r:Zd} (h:Zf3 x0=some r):Zt Tryz.prog Mo (Ydl x0 r):=
 Zs Tryz.func157 (Zi [((1,1),(1,0)),((1,2),(1,1024)),((1,4),(2,0))] 8 (lr Zb.enc x0.queue (tp (.num ([].map Zb.enc).length 0 0 []) (ob (show 0=([].map Zb.enc).length from rfl) ee))) (Yg5 h))
abbrev Zhh (x0:List Zk) (r:List Zk):Y:=(158,[.tr (x0.map Zk.enc)],.own 158 (r.map Zk.enc),[.undef])
theorem Zs8 {x0:List Zk} {r:List Zk} (h:Jj x0=some r):Zt Tryz.prog Mo (Zhh x0 r):=by
 refine Zs Tryz.func158 ?_;unfold Jj at h;cases x0 with
 | nil=>
  obtain rfl:[]=r:=(Z4l h);have hn:CS (Zhh [] []) Tryz.f158 [1,0,0] [(0,.tr [])] []:=Z4x Mo fOk (k:=at_ [1,0,1] (Qw Tryz.f158) []) (x0:=.tmp 0) (d0:=3) (d1:=4) (t:=52) (e:=158) (y:=.const (.slice none 0 0)) (by kernel_rfl) (by kernel_rfl) rfl rfl λb=>by
   cases b with
   | true=>exact rtQ rfl [.k] tt
   | false=>exact rtQ rfl [.k,.app [] true [] 0,.k] (aa (Eq.refl ([]:List (List V))) (aa (Eq.refl true) (aa (Eq.refl true) (aa (Eq.refl 0) (aa (apz 16) (aa (Eq.refl ([]:List (List V))) (aa (Eq.refl 0) (aa (Eq.refl 0) tt))))))))
  exact cutQ [] 4 [] tt hn
 | cons a l=>
  exact rtQ rfl [.k,.app ((a::l).map Zk.enc) true (r.map Zk.enc) (r.map Zk.enc).length,.k] (aa (Vdg (Zk.enc a) (l.map Zk.enc)) (aa (Eq.refl ((a::l).map Zk.enc)) (aa (ltr Zk.enc_lit (a::l)) (aa (alr 2 Zk.enc_len (a::l)) (aa (Eq.refl 0) (aa (apl Zk.enc h) (aa (apm0 Zk.enc h) (aa (Z68 Zk.enc r) (aa (Z68 Zk.enc r) tt)))))))))
abbrev Yt4 (x0:Zl) (r:Zl):Y:=(215,[.agg (Zl.enc x0)],.agg (Zl.ow r),[.undef])
theorem Yd5 {x0:Zl} {r:Zl} (h:Zrf x0=some r):Zt Tryz.prog Mo (Yt4 x0 r):=
 Zs Tryz.func215 (bnK h λr0 Zn h=>bnK h λr1 Zz h=>rtK h (rr (Wq Zn) (rr (Wq Zz) (kk 2 (oe Ze r0 (oe Ze r1 ee))))))
abbrev Yln (x0:Zj) (r:Zj):Y:=(160,[.agg (Zj.enc x0)],.agg (Zj.ow r),[.undef])
theorem Zx8 {x0:Zj} {r:Zj} (h:Zhq x0=some r):Zt Tryz.prog Mo (Yln x0 r):=
 Zs Tryz.func160 (bnK h λr0 Zn h=>bnK h λr1 Zz h=>rtK h (rr (Wq Zn) (rr (Yd5 Zz) (kk 3 (oe Ze r0 (Zl.so r1 ee))))))
abbrev Zmn (x0:List Zm) (r:List Zm):Y:=(161,[.tr (x0.map Zm.enc)],.own 113 (r.map Zm.enc),[.undef])
theorem Zyf {x0:List Zm} {r:List Zm} (h:Za4 x0=some r):Zt Tryz.prog Mo (Zmn x0 r):=by
 refine Zs Tryz.func161 ?_;unfold Za4 at h;cases x0 with
 | nil=>
  obtain rfl:[]=r:=(Z4l h);have hn:CS (Zmn [] []) Tryz.f161 [1,0,0] [(0,.tr [])] []:=Z4x Mo fOk (k:=at_ [1,0,1] (Qw Tryz.f161) []) (x0:=.tmp 0) (d0:=3) (d1:=4) (t:=28) (e:=113) (y:=.const (.slice none 0 0)) (by kernel_rfl) (by kernel_rfl) rfl rfl λb=>by
   cases b with
   | true=>exact rtQ rfl [.k] tt
   | false=>exact rtQ rfl [.k,.app [] true [] 0,.k] (aa (Eq.refl ([]:List (List V))) (aa (Eq.refl true) (aa (Eq.refl true) (aa (Eq.refl 0) (aa (apz 56) (aa (Eq.refl ([]:List (List V))) (aa (Eq.refl 0) (aa (Eq.refl 0) tt))))))))
  exact cutQ [] 4 [] tt hn
 | cons a l=>
  exact rtQ rfl [.k,.app ((a::l).map Zm.enc) true (r.map Zm.enc) (r.map Zm.enc).length,.k] (aa (Vdg (Zm.enc a) (l.map Zm.enc)) (aa (Eq.refl ((a::l).map Zm.enc)) (aa (ltr Zm.enc_lit (a::l)) (aa (alr 7 Zm.enc_len (a::l)) (aa (Eq.refl 0) (aa (apl Zm.enc h) (aa (apm0 Zm.enc h) (aa (Z68 Zm.enc r) (aa (Z68 Zm.enc r) tt)))))))))
abbrev Ydt (x0:Za) (r:Za):Y:=(95,[.agg (Za.enc x0)],.agg (Za.ow r),[.undef])
theorem Yg1 {x0:Za} {r:Za}:∀{m:Nat} {vb0:Za} {v0:List Zd} {v1:Int},Zhp x0 m vb0 v0 v1=some r->CS (Ydt x0 r) Tryz.f95 [1,1,1,0,1,0] [(1,.ptr (1,1) 0 0),(2,.ptr (1,3) 0 0),(3,.sl (1,12) 0 (v0.map Zd.enc).length),(12,.tr (x0.m.map Zd.enc)),(13,il (x0.m.length:Int)),(14,il v1)] ([rx 2 150 (vb0.conf.masters.map Zc.enc),bx 1 [.sl (1,2) 0 (vb0.conf.masters.map Zc.enc).length,il vb0.conf.quantum,il vb0.conf.maxWait,il vb0.conf.maxRetry,il vb0.conf.maxSplit,il vb0.conf.lockMost,il vb0.now,.tr (vb0.m.map Zd.enc),il vb0.arb.at_,il vb0.arb.credit,.tr (vb0.buckets.map Zk.enc),.tr (vb0.splits.map Ze),il vb0.holder,il vb0.held,il vb0.last,bl vb0.addr.live,il vb0.addr.who,il vb0.addr.beat,bl vb0.addr.first,il vb0.addr.by_,il vb0.addr.left,il vb0.addr.resp,bl vb0.addr.second,bl vb0.data_.live,il vb0.data_.who,il vb0.data_.beat,bl vb0.data_.first,il vb0.data_.by_,il vb0.data_.left,il vb0.data_.resp,bl vb0.data_.second,.tr (vb0.model.mem.map Ze),.tr (vb0.model.dev.regs.map Ze),il vb0.model.dev.timer,.tr (vb0.model.dev.fifo.map Ze),il vb0.picks,.tr (vb0.log.map Zm.enc)]]++Za.bk Za.z0 4++[bx 3 (Za.rl Za.z0 4),rx 12 156 (v0.map Zd.enc)]):=by
 intro m
 induction m with
 | zero=>intro vb0 v0 v1 h;cases h
 | succ m ih=>exactλ{vb0} {v0} {v1} h=>itK h (λg1 h=>bnK h λa0 Z2 h=>bnK h λr0 Zn h=>bnK h λz0 X9 h=>Zi (ffi 1 11++[((1,12),(4,4096))]) 13 (gg g1 (xb Zd.enc Z2 (rr (Zgh Zn) (kk 1 (ta Zd.enc [r0] z0 (kk 1 (oe Zb.enc r0.queue (oa 6 Zd.enc_len r0 (ox Zd.enc X9 (ln Zd.enc z0 (oe Zd.enc z0 (ln Zc.enc vb0.conf.masters (Za.sc Za.z0 ee))))))))))))) (ih h)) λg1 h=>bnK h λr1 Zz h=>bnK h λr2 Z8 h=>bnK h λr3 Y0 h=>bnK h λr4 Kv h=>rtK h (gg g1 (rr (Zs8 Zz) (rr (Wq Z8) (rr (Zx8 Y0) (rr (Zyf Kv) (kk 8 (oe Zc.enc vb0.conf.masters (oe Zd.enc v0 (oe Zk.enc r1 (oe Ze r2 (Zj.so r3 (oe Zm.enc r4 ee))))))))))))
theorem Z44 {x0:Za} {r:Za} (h:Zr9 x0=some r):Zt Tryz.prog Mo (Ydt x0 r):=
 Zs Tryz.func95 (bnK h λr5 hr5 h=>Zi [((1,1),(1,0)),((1,2),(2,2048)),((1,3),(1,1024)),((1,12),(3,0))] 10 (rr (Z9n hr5) (lr Zd.enc x0.m (tp (.num ([].map Zd.enc).length 0 0 []) (ob (show 0=([].map Zd.enc).length from rfl) (ln Zc.enc r5.masters ee))))) (Yg1 h))
abbrev Z7e (x0:Zb) (r:Bool):Y:=(248,[.agg (Zb.enc x0)],bl r,[.undef])
theorem Zu0 {x0:Zb} {r:Bool} (h:Zft x0=some r):Zt Tryz.prog Mo (Z7e x0 r):=
 Zs Tryz.func248 (bnK h λr0 Zn h=>rtK h (rr (Z0z Zn) ee))
abbrev J7 (x0:List Zb) (r:Int):Y:=(115,[.tr (x0.map Zb.enc),.fn 248 []],il r,[.undef,.undef])
theorem Zes {x0:List Zb} {r:Int}:∀{m:Nat} {v0:Int},Ww x0 m v0=some r->CS (J7 x0 r) Tryz.f115 [1,0,1,0] [(0,.tr (x0.map Zb.enc)),(1,.fn 248 []),(7,il (x0.length:Int)),(8,il v0)] []:=by
 intro m
 induction m with
 | zero=>intro v0 h;cases h
 | succ m ih=>exactλ{v0} h=>itK h (λg1 h=>bnK h λa0 Z2 h=>bnK h λr0 Zn h=>itK h (λg2 h=>rtK h (gg g1 (xb Zb.enc Z2 (rr (Zu0 Zn) (gg g2 ee))))) λg2 h=>Zi [] 16 (gg g1 (xb Zb.enc Z2 (rr (Zu0 Zn) (gg g2 ee)))) (ih h)) λg1 h=>rtK h (gg g1 ee)
theorem Zgm {x0:List Zb} {r:Int} (h:Qj x0=some r):Zt Tryz.prog Mo (J7 x0 r):=
 Zs Tryz.func115 (Zi [] 6 (lr Zb.enc x0 ee) (Zes h))
abbrev Ze3 (x0:List Zb) (r:Bool):Y:=(50,[.tr (x0.map Zb.enc),.fn 248 []],bl r,[.undef,.undef])
theorem Ze7 {x0:List Zb} {r:Bool} (h:Xv x0=some r):Zt Tryz.prog Mo (Ze3 x0 r):=
 Zs Tryz.func50 (bnK h λr0 Zn h=>rtK h (rr (Zgm Zn) ee))
abbrev Yjj (x0:Zd) (r:Int):Y:=(224,[.rp true (Zd.enc x0) 0],il r,[.undef])
theorem Zdg {x0:Zd} {r:Int} (h:Zbo x0=some r):Zt Tryz.prog Mo (Yjj x0 r):=
 Zs Tryz.func224 (itK h (λg1 h=>rtK h (lr Zb.enc x0.queue (gg g1 ee))) λg1 h=>bnK h λa0 Z2 h=>bnK h λr0 Zn h=>rtK h (lr Zb.enc x0.queue (gg g1 (xb Zb.enc Z2 (rr (Zum Zn) ee)))))
abbrev Zyg (x0:Zd) (r:Bool):Y:=(216,[.agg (Zd.enc x0)],bl r,[.undef])
theorem Zij {x0:Zd} {r:Bool} {v0:Bool} (h:Wn x0 v0=some r):CS (Zyg x0 r) Tryz.f216 [1,0,1] [(1,.ptr (1,1) 0 0),(16,bl v0)] [bx 1 (Zd.enc x0)]:=
 itK h (λg1 h=>rtK h (gg g1 ee)) λg1 h=>have p1 {q p} (k:Scr q p):=(gg g1 (lr Zb.enc x0.queue k));itK h (λg2 h=>itK h (λg3 h=>itK h (λg4 h=>have p2 {q p} (k:Scr q p):=(p1 (gg g2 (gg g3 (kk 3 (gg g4 (kk 3 k))))));itK h (λg5 h=>itK h (λg6 h=>rtK h (p2 (gg g5 (kk 3 (gg g6 (kk 3 ee)))))) λg6 h=>rtK h (p2 (gg g5 (kk 3 (gg g6 (kk 3 ee)))))) λg5 h=>rtK h (p2 (gg g5 (kk 7 ee)))) λg4 h=>rtK h (p1 (gg g2 (gg g3 (kk 3 (gg g4 (kk 11 ee))))))) λg3 h=>rtK h (p1 (gg g2 (gg g3 (kk 15 ee))))) λg2 h=>bnK h λr0 Zn h=>bnK h λr1 Zz h=>itK h (λg3 h=>bnK h λr2 Z8 h=>bnK h λr3 Y0 h=>rtK h (p1 (gg g2 (rr (Zdg Zn) (rr (Yg Zz) (gg g3 (kk 7 (rr (Zdg Z8) (kk 2 (rr (Yg Y0) (kk 1 ee))))))))))) λg3 h=>rtK h (p1 (gg g2 (rr (Zdg Zn) (rr (Yg Zz) (gg g3 (kk 10 ee))))))
theorem Ql {x0:Zd} {r:Bool} (h:Kg x0=some r):Zt Tryz.prog Mo (Zyg x0 r):=
 Zs Tryz.func216 (itK h (λg1 h=>Zi [((1,1),(1,0))] 5 (lr Zb.enc x0.queue (gg g1 (kk 7 ee))) (Zij h)) λg1 h=>itK h (λg2 h=>Zi [((1,1),(1,0))] 5 (lr Zb.enc x0.queue (gg g1 (kk 3 (gg g2 (kk 3 ee))))) (Zij h)) λg2 h=>bnK h λr4 Kv h=>Zi [((1,1),(1,0))] 5 (lr Zb.enc x0.queue (gg g1 (kk 3 (gg g2 (kk 2 (rr (Ze7 Kv) (kk 1 ee))))))) (Zij h))
abbrev Yk3 (x0:Zk) (x1:Zc) (r:Bool):Y:=(217,[.agg (Zk.enc x0),.agg (Zc.enc x1)],bl r,[.undef,.undef])
theorem Z7g {x0:Zk} {x1:Zc} {r:Bool} (h:Zl6 x0 x1=some r):Zt Tryz.prog Mo (Yk3 x0 x1 r):=
 Zs Tryz.func217 (itK h (λg1 h=>rtK h (gg g1 ee)) λg1 h=>bnK h λr0 Zn h=>itK h (λg2 h=>itK h (λg3 h=>rtK h (gg g1 (rr (Yg Zn) (gg g2 (kk 3 (gg g3 (kk 5 ee))))))) λg3 h=>rtK h (gg g1 (rr (Yg Zn) (gg g2 (kk 3 (gg g3 (kk 5 ee))))))) λg2 h=>rtK h (gg g1 (rr (Yg Zn) (gg g2 (kk 9 ee)))))
abbrev Zmh (x0:Za) (r:Bool):Y:=(162,[.rp true (Za.enc x0) 0],bl r,[.undef])
theorem Z1x {x0:Za} {r:Bool}:∀{m:Nat} {v0:Int},Zgq x0 m v0=some r->CS (Zmh x0 r) Tryz.f162 [1,1,1,0,1,0] [(0,.rp true (Za.enc x0) 0),(40,.tr (x0.m.map Zd.enc)),(41,il (x0.m.length:Int)),(42,il v0)] []:=by
 intro m
 induction m with
 | zero=>intro v0 h;cases h
 | succ m ih=>exactλ{v0} h=>itK h (λg1 h=>bnK h λa0 Z2 h=>bnK h λr0 Zn h=>have p1 {q p} (k:Scr q p):=(gg g1 (xb Zd.enc Z2 (rr (Ql Zn) k)));itK h (λg2 h=>rtK h (p1 (gg g2 (kk 42 ee)))) λg2 h=>itK h (λg3 h=>rtK h (p1 (gg g2 (kk 8 (gg g3 (kk 33 ee)))))) λg3 h=>bnK h λa1 Y4 h=>bnK h λa2 Ka h=>bnK h λr1 Zz h=>have p2 {q p} (k:Scr q p):=(p1 (gg g2 (kk 8 (gg g3 (kk 5 (xb Zk.enc Y4 (kk 8 (xb Zc.enc Ka (kk 2 (rr (Z7g Zz) (kk 2 k)))))))))));itK h (λg4 h=>rtK h (p2 (gg g4 (kk 15 ee)))) λg4 h=>bnK h λa3 ha3 h=>bnK h λr2 Z8 h=>have p3 {q p} (k:Scr q p):=(p2 (gg g4 (kk 5 (xb Ze ha3 (kk 7 (rr (Yg Z8) (kk 2 k)))))));itK h (λg5 h=>rtK h (p3 (gg g5 ee))) λg5 h=>Zi [] 16 (p3 (gg g5 ee)) (ih h)) λg1 h=>rtK h (gg g1 ee)
theorem Zgs {x0:Za} {r:Bool} {v1:Bool} (h:Qm x0 v1=some r):CS (Zmh x0 r) Tryz.f162 [1,1,0,1] [(0,.rp true (Za.enc x0) 0),(36,bl v1)] []:=
 itK h (λg1 h=>rtK h (gg g1 ee)) λg1 h=>Zi [] 6 (gg g1 (lr Zd.enc x0.m ee)) (Z1x h)
theorem Z63 {x0:Za} {r:Bool} (h:Zfz x0=some r):Zt Tryz.prog Mo (Zmh x0 r):=
 Zs Tryz.func162 (have p1 {q p} (k:Scr q p):=(lr Zc.enc x0.conf.masters (lr Zd.enc x0.m k));itK h (λg1 h=>Zi [] 7 (p1 (gg g1 (kk 15 ee))) (Zgs h)) λg1 h=>itK h (λg2 h=>Zi [] 7 (p1 (gg g1 (kk 4 (lr Zk.enc x0.buckets (kk 3 (gg g2 (kk 7 ee))))))) (Zgs h)) λg2 h=>Zi [] 7 (p1 (gg g1 (kk 4 (lr Zk.enc x0.buckets (kk 3 (gg g2 (kk 4 (lr Ze x0.splits (kk 3 ee))))))))) (Zgs h))
abbrev Ylz (x0:Zh) (x1:Int) (r:Bool):Y:=(124,[.agg (Zh.enc x0),il x1],bl r,[.undef,.undef])
theorem Zep {x0:Zh} {x1:Int} {r:Bool} (h:K0 x0 x1=some r):Zt Tryz.prog Mo (Ylz x0 x1 r):=
 Zs Tryz.func124 (bnK h λr0 Zn h=>rtK h (lr Zc.enc x0.masters (rr (Yg Zn) ee)))
abbrev Yej (x0:Zh) (x1:Int) (r:Int):Y:=(218,[.agg (Zh.enc x0),il x1],il r,[.undef,.undef])
theorem Z2t {x0:Zh} {x1:Int} {r:Int} {v0:Bool} (h:Zs9 x0 x1 v0=some r):CS (Yej x0 x1 r) Tryz.f218 [1,0,1] [(1,il x1),(2,.ptr (1,1) 0 0),(13,bl v0)] [bx 1 (Zh.enc x0)]:=
 itK h (λg1 h=>rtK h (gg g1 ee)) λg1 h=>bnK h λa0 Z2 h=>rtK h (gg g1 (xb Zc.enc Z2 ee))
theorem Z38 {x0:Zh} {x1:Int} {r:Int} (h:Zni x0 x1=some r):Zt Tryz.prog Mo (Yej x0 x1 r):=
 Zs Tryz.func218 (bnK h λr0 Zn h=>itK h (λg1 h=>Zi [((1,1),(1,0))] 5 (rr (Zin Zn) (gg g1 (kk 4 ee))) (Z2t h)) λg1 h=>bnK h λr1 Zz h=>Zi [((1,1),(1,0))] 5 (rr (Zin Zn) (gg g1 (kk 2 (rr (Zep Zz) (kk 2 ee))))) (Z2t h))
abbrev Yys (x0:Z6) (x1:Zh) (r:Bool):Y:=(163,[.agg (Z6.enc x0),.agg (Zh.enc x1)],bl r,[.undef,.undef])
theorem Zux {x0:Z6} {x1:Zh} {r:Bool} (h:Zl3 x0 x1=some r):Zt Tryz.prog Mo (Yys x0 x1 r):=
 Zs Tryz.func163 (bnK h λr0 Zn h=>itK h (λg1 h=>bnK h λr1 Zz h=>have p1 {q p} (k:Scr q p):=(rr (Zin Zn) (gg g1 (kk 3 (rr (Zep Zz) (kk 1 k)))));itK h (λg2 h=>bnK h λr2 Z8 h=>bnK h λr3 Y0 h=>rtK h (p1 (gg g2 (kk 5 (rr (Z38 Z8) (kk 1 (rr (Yg Y0) (kk 1 ee)))))))) λg2 h=>rtK h (p1 (gg g2 (kk 7 ee)))) λg1 h=>rtK h (rr (Zin Zn) (gg g1 (kk 12 ee))))
abbrev Yua (x0:Int) (r:Bool):Y:=(249,[il x0],bl r,[.undef])
theorem Yc7 {x0:Int} {r:Bool} (h:Zwp x0=some r):Zt Tryz.prog Mo (Yua x0 r):=
 Zs Tryz.func249 (bnK h λr0 Zn h=>rtK h (rr (Yg Zn) ee))
abbrev Zcy (x0:List Int) (r:Int):Y:=(189,[.tr (x0.map Ze),.fn 249 []],il r,[.undef,.undef])
theorem Zis {x0:List Int} {r:Int}:∀{m:Nat} {v0:Int},Ki x0 m v0=some r->CS (Zcy x0 r) Tryz.f189 [1,0,1,0] [(0,.tr (x0.map Ze)),(1,.fn 249 []),(7,il (x0.length:Int)),(8,il v0)] []:=by
 intro m
 induction m with
 | zero=>intro v0 h;cases h
 | succ m ih=>exactλ{v0} h=>itK h (λg1 h=>bnK h λa0 Z2 h=>bnK h λr0 Zn h=>itK h (λg2 h=>rtK h (gg g1 (xb Ze Z2 (rr (Yc7 Zn) (gg g2 ee))))) λg2 h=>Zi [] 16 (gg g1 (xb Ze Z2 (rr (Yc7 Zn) (gg g2 ee)))) (ih h)) λg1 h=>rtK h (gg g1 ee)
theorem Zmy {x0:List Int} {r:Int} (h:K6 x0=some r):Zt Tryz.prog Mo (Zcy x0 r):=
 Zs Tryz.func189 (Zi [] 6 (lr Ze x0 ee) (Zis h))
abbrev Zj4 (x0:List Int) (r:Bool):Y:=(118,[.tr (x0.map Ze),.fn 249 []],bl r,[.undef,.undef])
theorem Zju {x0:List Int} {r:Bool} (h:Wv x0=some r):Zt Tryz.prog Mo (Zj4 x0 r):=
 Zs Tryz.func118 (bnK h λr0 Zn h=>rtK h (rr (Zmy Zn) ee))
abbrev Yzz (x0:List Int) (x1:Int) (x2:Int) (r:Bool):Y:=(219,[.tr (x0.map Ze),il x1,il x2],bl r,[.undef,.undef,.undef])
theorem Ztc {x0:List Int} {x1:Int} {x2:Int} {r:Bool} (h:Ztj x0 x1 x2=some r):Zt Tryz.prog Mo (Yzz x0 x1 x2 r):=
 Zs Tryz.func219 (itK h (λg1 h=>bnK h λr0 Zn h=>have p1 {q p} (k:Scr q p):=(lr Ze x0 (gg g1 (kk 1 (rr (Zju Zn) (kk 2 k)))));itK h (λg2 h=>bnK h λr1 Zz h=>itK h (λg3 h=>bnK h λr2 Z8 h=>rtK h (p1 (gg g2 (kk 2 (rr (Zgw Zz) (kk 1 (gg g3 (kk 2 (lr Ze x0 (kk 2 (rr (Zck Z8) (kk 3 ee)))))))))))) λg3 h=>rtK h (p1 (gg g2 (kk 2 (rr (Zgw Zz) (kk 1 (gg g3 (kk 7 ee)))))))) λg2 h=>rtK h (p1 (gg g2 (kk 11 ee)))) λg1 h=>rtK h (lr Ze x0 (gg g1 (kk 15 ee))))
abbrev Ypr (x0:Int) (r:Bool):Y:=(250,[il x0],bl r,[.undef])
theorem Z9w {x0:Int} {r:Bool} (h:Ztz x0=some r):Zt Tryz.prog Mo (Ypr x0 r):=
 Zs Tryz.func250 (bnK h λr0 Zn h=>rtK h (rr (Zl4 Zn) ee))
abbrev Zcj (x0:List Int) (r:Int):Y:=(189,[.tr (x0.map Ze),.fn 250 []],il r,[.undef,.undef])
theorem Zh9 {x0:List Int} {r:Int}:∀{m:Nat} {v0:Int},Q4 x0 m v0=some r->CS (Zcj x0 r) Tryz.f189 [1,0,1,0] [(0,.tr (x0.map Ze)),(1,.fn 250 []),(7,il (x0.length:Int)),(8,il v0)] []:=by
 intro m
 induction m with
 | zero=>intro v0 h;cases h
 | succ m ih=>exactλ{v0} h=>itK h (λg1 h=>bnK h λa0 Z2 h=>bnK h λr0 Zn h=>itK h (λg2 h=>rtK h (gg g1 (xb Ze Z2 (rr (Z9w Zn) (gg g2 ee))))) λg2 h=>Zi [] 16 (gg g1 (xb Ze Z2 (rr (Z9w Zn) (gg g2 ee)))) (ih h)) λg1 h=>rtK h (gg g1 ee)
theorem Zlw {x0:List Int} {r:Int} (h:Ky x0=some r):Zt Tryz.prog Mo (Zcj x0 r):=
 Zs Tryz.func189 (Zi [] 6 (lr Ze x0 ee) (Zh9 h))
abbrev Zjn (x0:List Int) (r:Bool):Y:=(118,[.tr (x0.map Ze),.fn 250 []],bl r,[.undef,.undef])
theorem Zbc {x0:List Int} {r:Bool} (h:Xr x0=some r):Zt Tryz.prog Mo (Zjn x0 r):=
 Zs Tryz.func118 (bnK h λr0 Zn h=>rtK h (rr (Zlw Zn) ee))
abbrev Ywc (x0:Zl) (r:Bool):Y:=(220,[.agg (Zl.enc x0)],bl r,[.undef])
theorem Yh6 {x0:Zl} {r:Bool} (h:Zu5 x0=some r):Zt Tryz.prog Mo (Ywc x0 r):=
 Zs Tryz.func220 (itK h (λg1 h=>have p1 {q p} (k:Scr q p):=(lr Ze x0.regs (gg g1 (kk 2 (lr Ze x0.fifo (kk 2 k)))));itK h (λg2 h=>bnK h λr0 Zn h=>have p2 {q p} (k:Scr q p):=(p1 (gg g2 (kk 3 (rr (Zbc Zn) (kk 2 k)))));itK h (λg3 h=>bnK h λr1 Zz h=>have p3 {q p} (k:Scr q p):=(p2 (gg g3 (kk 3 (rr (Zbc Zz) (kk 2 k)))));itK h (λg4 h=>bnK h λr2 Z8 h=>rtK h (p3 (gg g4 (kk 2 (rr (Zl4 Z8) (kk 1 ee)))))) λg4 h=>rtK h (p3 (gg g4 (kk 3 ee)))) λg3 h=>rtK h (p2 (gg g3 (kk 9 ee)))) λg2 h=>rtK h (p1 (gg g2 (kk 15 ee)))) λg1 h=>rtK h (lr Ze x0.regs (gg g1 (kk 20 ee))))
abbrev Yrk (x0:Zj) (r:Bool):Y:=(164,[.agg (Zj.enc x0)],bl r,[.undef])
theorem Z1c {x0:Zj} {r:Bool} (h:Zgy x0=some r):Zt Tryz.prog Mo (Yrk x0 r):=
 Zs Tryz.func164 (itK h (λg1 h=>bnK h λr0 Zn h=>itK h (λg2 h=>bnK h λr1 Zz h=>rtK h (lr Ze x0.mem (gg g1 (kk 2 (rr (Ztc Zn) (kk 1 (gg g2 (kk 2 (rr (Yh6 Zz) (kk 1 ee)))))))))) λg2 h=>rtK h (lr Ze x0.mem (gg g1 (kk 2 (rr (Ztc Zn) (kk 1 (gg g2 (kk 3 ee)))))))) λg1 h=>rtK h (lr Ze x0.mem (gg g1 (kk 7 ee))))
abbrev Yg4 (x0:Zf) (r:Bool):Y:=(252,[.agg (Zf.enc x0)],bl r,[.undef])
theorem Zth {x0:Zf} {r:Bool} (h:Zn5 x0=some r):Zt Tryz.prog Mo (Yg4 x0 r):=
 Zs Tryz.func252 (rtK h ee)
abbrev Zal (x0:List Zf) (r:Int):Y:=(264,[.tr (x0.map Zf.enc),.fn 252 []],il r,[.undef,.undef])
theorem Ze9 {x0:List Zf} {r:Int}:∀{m:Nat} {v0:Int},W8 x0 m v0=some r->CS (Zal x0 r) Tryz.f264 [1,0,1,0] [(0,.tr (x0.map Zf.enc)),(1,.fn 252 []),(7,il (x0.length:Int)),(8,il v0)] []:=by
 intro m
 induction m with
 | zero=>intro v0 h;cases h
 | succ m ih=>exactλ{v0} h=>itK h (λg1 h=>bnK h λa0 Z2 h=>bnK h λr0 Zn h=>itK h (λg2 h=>rtK h (gg g1 (xb Zf.enc Z2 (rr (Zth Zn) (gg g2 ee))))) λg2 h=>Zi [] 16 (gg g1 (xb Zf.enc Z2 (rr (Zth Zn) (gg g2 ee)))) (ih h)) λg1 h=>rtK h (gg g1 ee)
theorem Zhr {x0:List Zf} {r:Int} (h:Qu x0=some r):Zt Tryz.prog Mo (Zal x0 r):=
 Zs Tryz.func264 (Zi [] 6 (lr Zf.enc x0 ee) (Ze9 h))
abbrev Zad (x0:List Zf) (r:List Zf):Y:=(251,[.own 54 (x0.map Zf.enc),.fn 252 []],.own 54 (r.map Zf.enc),[.undef,.undef])
theorem Ze4 {x0:List Zf} {r:List Zf}:∀{m:Nat} {v0:List Zf} {v1:Int} {v2:Int},W3 x0 m v0 v1 v2=some r->CS (Zad x0 r) Tryz.f251 [1,1,1,0,1,0] [(0,.sl (1,1) 0 (v0.map Zf.enc).length),(1,.fn 252 []),(5,il v1),(6,il v2)] [rx 1 54 (v0.map Zf.enc)]:=by
 intro m
 induction m with
 | zero=>intro v0 v1 v2 h;cases h
 | succ m ih=>exactλ{v0} {v1} {v2} h=>itK h (λg1 h=>bnK h λa0 Z2 h=>bnK h λr0 Zn h=>have p1 {q p} (k:Scr q p):=(lr Zf.enc v0 (gg g1 (xd Zf.enc Z2 (rr (Zth Zn) k))));itK h (λg2 h=>bnK h λa1 Y4 h=>bnK h λy0 W0 h=>Zi [((1,1),(1,1))] 18 (p1 (gg g2 (xp Zf.enc Y4 W0 (tp (.num (y0.map Zf.enc).length 0 0 []) (ob (Q5 Zf.enc W0) ee))))) (ih h)) λg2 h=>Zi [((1,1),(1,1))] 16 (p1 (gg g2 (ln Zf.enc v0 ee))) (ih h)) λg1 h=>bnK h λs0 hs0 h=>bnK h λy1 hy1 h=>bnK h λs1 hs1 h=>rtK h (lr Zf.enc v0 (gg g1 (tp (.num (v1:Int).toNat ((v0.length:Int):Int).toNat (((v0.length:Int):Int).toNat - (v1:Int).toNat) []) (kk 1 (tp (.app (y1.map Zf.enc) true [] 0) (tp (.num (0:Int).toNat (v1:Int).toNat ((v1:Int).toNat - (0:Int).toNat) []) (kk 1 (tp (.mk 0 (s1.map Zf.enc)) (oe Zf.enc v0 (ob (sln hs0).1 (ob (Yg3 Zf.enc v0) (ob (sll Zf.enc hs0) (ob (alr 8 Zf.enc_len v0) (ob (Eq.refl (((v0.length:Int):Int).toNat - (v1:Int).toNat)) (ob (clrl Zf.enc hy1) (ob (clrr Zf.enc hy1) (ob (clrs Zf.enc hy1) (ob (Eq.refl 0) (ob (sln hs1).2 (ob (sll Zf.enc hs1) (ob (alr 8 Zf.enc_len y1) (ob (Eq.refl ((v1:Int).toNat - (0:Int).toNat)) (ob (sla Zf.enc hs1) (ob (slr Zf.enc hs1) ee))))))))))))))))))))))))
theorem Zg2 {x0:List Zf} {r:List Zf} (h:We x0=some r):Zt Tryz.prog Mo (Zad x0 r):=
 Zs Tryz.func251 (bnK h λr1 Zz h=>have p1 {q p} (k:Scr q p):=(kk 1 (oe Zf.enc x0 (rr (Zhr Zz) k)));itK h (λg1 h=>rtK h (p1 (gg g1 (kk 1 (oe Zf.enc x0 ee))))) λg1 h=>Zi [((1,1),(0,0))] 13 (p1 (gg g1 (ln Zf.enc x0 ee))) (Ze4 h))
abbrev Yla (x0:Za) (r:List Zf):Y:=(221,[.rp true (Za.enc x0) 0],.own 54 (r.map Zf.enc),[.undef])
theorem Ynf {x0:Za} {r:List Zf} (h:Zst x0=some r):Zt Tryz.prog Mo (Yla x0 r):=
 Zs Tryz.func221 (bnK h λr0 Zn h=>rtK h (kk 1 (ob (show 2=([x0.addr,x0.data_].map Zf.enc).length from rfl) (rr (Zg2 Zn) (kk 1 (oe Zf.enc r0 ee))))))
abbrev Kf (x0:Za) (r:Bool):Y:=(165,[.rp true (Za.enc x0) 0],bl r,[.undef])
theorem Zio {x0:Za} {r:Bool} {k_L1:(List Int)->(List Zf)->Int->Int->Option Bool} (i_L1:∀{v0:List Int} {v1:List Zf} {v2:Int} {v3:Int},k_L1 v0 v1 v2 v3=some r->CS (Kf x0 r) Tryz.f165 [1,1,0,1,0] [(0,.rp true (Za.enc x0) 0),(3,.sl (1,1) 0 (v0.map Ze).length),(18,.sl (1,2) 0 (v1.map Zf.enc).length),(19,il v2),(20,il v3)] [rx 1 3 (v0.map Ze),rx 2 54 (v1.map Zf.enc)]) {vb0:Zf} {v0:List Int} {v1:List Zf} {v2:Int} {v3:Int} {v4:Bool} (h:Kc x0 k_L1 vb0 v0 v1 v2 v3 v4=some r):CS (Kf x0 r) Tryz.f165 [1,1,0,1,0,0,1,1,0,0,1,0,1] [(0,.rp true (Za.enc x0) 0),(3,.sl (1,2) 0 (v0.map Ze).length),(5,.ptr (1,1) 0 0),(18,.sl (1,3) 0 (v1.map Zf.enc).length),(19,il v2),(20,il v3),(48,bl v4)] [bx 1 (Zf.enc vb0),rx 2 3 (v0.map Ze),rx 3 54 (v1.map Zf.enc)]:=
 itK h (λg1 h=>rtK h (gg g1 ee)) λg1 h=>bnK h λa0 Z2 h=>bnK h λy0 W0 h=>Zi [((1,1),(1,2)),((1,2),(1,3))] 5 (gg g1 (xd Ze Z2 (xp Ze Z2 W0 (tp (.num (y0.map Ze).length 0 0 []) (ob (Q5 Ze W0) (ln Zf.enc v1 ee)))))) (i_L1 h)
theorem Zil {x0:Za} {r:Bool} {v5:Bool} (h:Qh x0 v5=some r):CS (Kf x0 r) Tryz.f165 [1,1,1,1,1,1,1,1,0,0,1,1,1,1,1] [(0,.rp true (Za.enc x0) 0),(9,.ptr (1,1) 0 0),(179,bl v5)] [bx 1 (Zf.enc x0.data_)]:=
 itK h (λg1 h=>rtK h (gg g1 ee)) λg1 h=>itK h (λg2 h=>rtK h (gg g1 (gg g2 (kk 7 ee)))) λg2 h=>itK h (λg3 h=>itK h (λg4 h=>rtK h (gg g1 (gg g2 (kk 3 (gg g3 (kk 5 (gg g4 (kk 8 ee)))))))) λg4 h=>rtK h (gg g1 (gg g2 (kk 3 (gg g3 (kk 5 (gg g4 (kk 8 ee)))))))) λg3 h=>rtK h (gg g1 (gg g2 (kk 3 (gg g3 (kk 14 ee)))))
theorem Zrs {x0:Za} {r:Bool} {vb1:Zd} {v6:Bool} (h:Zbd x0 vb1 v6=some r):CS (Kf x0 r) Tryz.f165 [1,1,1,1,1,1,1,1,0,0,1,1,1] [(0,.rp true (Za.enc x0) 0),(9,.ptr (1,1) 0 0),(10,.ptr (1,2) 0 0),(165,bl v6)] [bx 1 (Zf.enc x0.data_),bx 2 (Zd.enc vb1)]:=
 itK h (λg1 h=>rtK h (gg g1 ee)) λg1 h=>itK h (λg2 h=>itK h (λg3 h=>Zi [((1,1),(1,1))] 3 (gg g1 (gg g2 (kk 2 (gg g3 (kk 9 ee))))) (Zil h)) λg3 h=>Zi [((1,1),(1,1))] 3 (gg g1 (gg g2 (kk 2 (gg g3 (kk 9 ee))))) (Zil h)) λg2 h=>Zi [((1,1),(1,1))] 3 (gg g1 (gg g2 (kk 4 ee))) (Zil h)
theorem Zjb {x0:Za} {r:Bool} {vb1:Zd} {v7:Bool} (h:Jn x0 vb1 v7=some r):CS (Kf x0 r) Tryz.f165 [1,1,1,1,1,1,1,1,0,0,1] [(0,.rp true (Za.enc x0) 0),(9,.ptr (1,1) 0 0),(10,.ptr (1,2) 0 0),(141,bl v7)] [bx 1 (Zf.enc x0.data_),bx 2 (Zd.enc vb1)]:=
 itK h (λg1 h=>rtK h (gg g1 ee)) λg1 h=>itK h (λg2 h=>Zi [((1,1),(1,1)),((1,2),(1,2))] 3 (gg g1 (gg g2 (kk 8 ee))) (Zrs h)) λg2 h=>Zi [((1,1),(1,1)),((1,2),(1,2))] 3 (gg g1 (gg g2 (kk 8 ee))) (Zrs h)
theorem Qg {x0:Za} {r:Bool} {v8:Bool} (h:Y8 x0 v8=some r):CS (Kf x0 r) Tryz.f165 [1,1,1,1,0,1,1] [(0,.rp true (Za.enc x0) 0),(122,bl v8)] []:=
 itK h (λg1 h=>rtK h (gg g1 ee)) λg1 h=>itK h (λg2 h=>rtK h (gg g1 (gg g2 ee))) λg2 h=>bnK h λa1 Y4 h=>have p1 {q p} (k:Scr q p):=(gg g1 (gg g2 (xb Zd.enc Y4 k)));itK h (λg3 h=>Zi [((1,1),(2,4096)),((1,2),(4,8192))] 15 (p1 (gg g3 (kk 15 ee))) (Zjb h)) λg3 h=>bnK h λr0 Zn h=>itK h (λg4 h=>Zi [((1,1),(2,4096)),((1,2),(4,8192))] 15 (p1 (gg g3 (kk 8 (rr (Yg Zn) (kk 2 (gg g4 (kk 4 ee))))))) (Zjb h)) λg4 h=>bnK h λr1 Zz h=>Zi [((1,1),(2,4096)),((1,2),(4,8192))] 15 (p1 (gg g3 (kk 8 (rr (Yg Zn) (kk 2 (gg g4 (kk 2 (rr (Yg Zz) (kk 2 ee))))))))) (Zjb h)
end Go.Proofs.YtagdmghmblplbaaGreat.Ev
