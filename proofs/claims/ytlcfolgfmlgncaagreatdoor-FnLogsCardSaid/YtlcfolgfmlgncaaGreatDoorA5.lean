/- A part of the proof of FnLogs: see the text YtlcfolgfmlgncaaGreatDoorLawFnLogs for what is proved and its conditions. Conditions here: those in each line. -/
import Derived.Test.YtlcfolgfmlgncaaGreatDoorA4
namespace Go.Proofs.YtlcfolgfmlgncaaGreatDoor.Ev
open Go Go.Proofs
set_option linter.unusedVariables false
set_option linter.unusedSimpArgs false
set_option linter.unusedSectionVars false
variable [Anchor] [ExtOk]
theorem Zk9 {x0:GBus} {r:GBus} {k_L2:GBus→GBeat→(List Bool)→Int→Option GBus} (i_L2:∀{vb0:GBus} {vb1:GBeat} {v0:List Bool} {v1:Int},k_L2 vb0 vb1 v0 v1=some r→CS (Yt x0 r) Tryz.f168 [1,1,1,1,1,0,1,0] [(1,.ptr (1,1) 0 0),(2,.ptr (1,10) 0 0),(3,.sl (1,20) 0 (v0.map encB).length),(5,.ptr (1,19) 0 0),(6,il v1)] (GBus.bk vb0 2++[bx 1 (GBus.rl vb0 2)]++GBus.bk GBus.z0 11++[bx 10 (GBus.rl GBus.z0 11),bx 19 (GBeat.enc vb1),rx 20 4 (v0.map encB)])) {vb0:GBus} {vb1:GBeat} {v0:List Bool} {v1:Int} {v5:Bool} (h:W4 x0 k_L2 vb0 vb1 v0 v1 v5=some r):CS (Yt x0 r) Tryz.f168 [1,1,1,1,1,0,1,0,0,0,1] [(1,.ptr (1,1) 0 0),(2,.ptr (1,10) 0 0),(3,.sl (1,20) 0 (v0.map encB).length),(5,.ptr (1,19) 0 0),(6,il v1),(69,bl v5)] (GBus.bk vb0 2++[bx 1 (GBus.rl vb0 2)]++GBus.bk GBus.z0 11++[bx 10 (GBus.rl GBus.z0 11),bx 19 (GBeat.enc vb1),rx 20 4 (v0.map encB)]):=
 itK h (fun g1 h=>bnK h fun a5 ha5 h=>itK h (fun g2 h=>bnK h fun a6 ha6 h=>cutX (ffi 1 20) 6 (gg g1 (xd encB ha5 (gg g2 (kk 3 (tp (.row (v1:Int).toNat (GBucket.enc a6)) (kk 2 (tp (.cell (GBucket.enc a6)) (kk 2 (tp (.num (v0.map encB).length 0 0 []) (ob (ixn ha6) (ob (ixl GBucket.enc ha6) (ob (ixr GBucket.enc ha6) (ob (ixr GBucket.enc ha6) (oe encB v0 (GBus.sc vb0 (GBus.sc GBus.z0 ee)))))))))))))))) (Zkq i_L2 h)) fun g2 h=>cutX (ffi 1 20) 6 (gg g1 (xd encB ha5 (gg g2 (kk 7 (ln encB v0 (GBus.sc vb0 (GBus.sc GBus.z0 ee))))))) (Zkq i_L2 h)) fun g1 h=>itK h (fun g2 h=>cutX (ffi 1 20) 8 (gg g1 (gg g2 (kk 3 (ln encB v0 (GBus.sc vb0 (GBus.sc GBus.z0 ee)))))) (Zk3 h)) fun g2 h=>cutX (ffi 1 20) 8 (gg g1 (gg g2 (kk 3 (ln encB v0 (GBus.sc vb0 (GBus.sc GBus.z0 ee)))))) (Zk3 h)
theorem Zsu {x0:GBus} {r:GBus}:∀{m:Nat} {vb0:GBus} {vb1:GBeat} {v0:List Bool} {v1:Int},X7 x0 m vb0 vb1 v0 v1=some r→CS (Yt x0 r) Tryz.f168 [1,1,1,1,1,0,1,0] [(1,.ptr (1,1) 0 0),(2,.ptr (1,10) 0 0),(3,.sl (1,20) 0 (v0.map encB).length),(5,.ptr (1,19) 0 0),(6,il v1)] (GBus.bk vb0 2++[bx 1 (GBus.rl vb0 2)]++GBus.bk GBus.z0 11++[bx 10 (GBus.rl GBus.z0 11),bx 19 (GBeat.enc vb1),rx 20 4 (v0.map encB)]):=by
 intro m
 induction m with
 | zero=>intro vb0 vb1 v0 v1 h;cases h
 | succ m ih=>exact fun {vb0} {vb1} {v0} {v1} h=>itK h (fun g1 h=>cutX (ffi 1 20) 4 (lr GMst.enc vb0.m (gg g1 (kk 3 (ln encB v0 (GBus.sc vb0 (GBus.sc GBus.z0 ee)))))) (Zk9 ih h)) fun g1 h=>cutX (ffi 1 20) 4 (lr GMst.enc vb0.m (gg g1 (kk 3 (ln encB v0 (GBus.sc vb0 (GBus.sc GBus.z0 ee)))))) (Zk9 ih h)
theorem Zkd {x0:GBus} {r:GBus} {vb1:GBeat} {v0:List Bool} (h:Zap x0 vb1 v0=some r):CS (Yt x0 r) Tryz.f168 [1,1,1,1,1] [(1,.ptr (1,1) 0 0),(2,.ptr (1,10) 0 0),(3,.sl (1,20) 0 (v0.map encB).length),(5,.ptr (1,19) 0 0)] (GBus.bk x0 2++[bx 1 (GBus.rl x0 2)]++GBus.bk GBus.z0 11++[bx 10 (GBus.rl GBus.z0 11),bx 19 (GBeat.enc vb1),rx 20 4 (v0.map encB)]):=
 cutX (ffi 1 20) 4 (ln encB v0 (GBus.sc x0 (GBus.sc GBus.z0 ee))) (Zsu h)
theorem Zk2 {x0:GBus} {r:GBus} {v0:List Bool} {v6:Bool} (h:Zam x0 v0 v6=some r):CS (Yt x0 r) Tryz.f168 [1,1,1,1,0,1] [(1,.ptr (1,1) 0 0),(2,.ptr (1,10) 0 0),(3,.sl (1,20) 0 (v0.map encB).length),(5,.ptr (1,19) 0 0),(56,bl v6)] (GBus.bk x0 2++[bx 1 (GBus.rl x0 2)]++GBus.bk GBus.z0 11++[bx 10 (GBus.rl GBus.z0 11),bx 19 (GBeat.enc (GBeat.mk false (-1) 0 false 0 0 0 false)),rx 20 4 (v0.map encB)]):=
 itK h (fun g1 h=>cutX (ffi 1 20) 2 (gg g1 (ln encB v0 (GBus.sc x0 (GBus.sc GBus.z0 ee)))) (Zkd h)) fun g1 h=>cutX (ffi 1 20) 2 (gg g1 (ln encB v0 (GBus.sc x0 (GBus.sc GBus.z0 ee)))) (Zkd h)
theorem Zsn {x0:GBus} {r:GBus}:∀{m:Nat} {v0:List Bool} {v7:Int},Zan x0 m v0 v7=some r→CS (Yt x0 r) Tryz.f168 [1,1,0,1,0] [(1,.ptr (1,1) 0 0),(2,.ptr (1,10) 0 0),(3,.sl (1,19) 0 (v0.map encB).length),(4,il v7)] (GBus.bk x0 2++[bx 1 (GBus.rl x0 2)]++GBus.bk GBus.z0 11++[bx 10 (GBus.rl GBus.z0 11),rx 19 4 (v0.map encB)]):=by
 intro m
 induction m with
 | zero=>intro v0 v7 h;cases h
 | succ m ih=>exact fun {v0} {v7} h=>have p1 {q p} (k:Scr q p):=(lr GMst.enc x0.m k);itK h (fun g1 h=>bnK h fun a7 ha7 h=>bnK h fun r3 hr3 h=>have p2 {q p} (k:Scr q p):=(p1 (gg g1 (xd GMst.enc ha7 (rr (Zle hr3) k))));itK h (fun g2 h=>bnK h fun a8 ha8 h=>have p3 {q p} (k:Scr q p):=(p2 (gg g2 (kk 3 (tp (.row (v7:Int).toNat (encI a8)) (kk 1 (tp (.cell (encI a8)) (kk 2 k)))))));itK h (fun g3 h=>itK h (fun g4 h=>bnK h fun z0 hz0 h=>cutX (ffi 1 18++[((1,19),(3,27648))]) 11 (p3 (tp (.t true) (kk 3 (tp (.t true) (kk 6 (ta encB [true] z0 (kk 1 (tp (.num (z0.map encB).length 0 0 []) (ob (ixn ha8) (ob (ixl encI ha8) (ob (ixr encI ha8) (ob (ixr encI ha8) (ob g3 (ob g4 (oa 1 Zn4 true (ox encB hz0 (oe encB z0 (oe encB z0 (GBus.sc x0 (GBus.sc GBus.z0 ee)))))))))))))))))))) (ih h)) fun g4 h=>bnK h fun z0 hz0 h=>cutX (ffi 1 18++[((1,19),(3,27648))]) 11 (p3 (tp (.t true) (kk 3 (tp (.t false) (kk 6 (ta encB [decide (x0.holder=v7)] z0 (kk 1 (tp (.num (z0.map encB).length 0 0 []) (ob (ixn ha8) (ob (ixl encI ha8) (ob (ixr encI ha8) (ob (ixr encI ha8) (ob g3 (ob g4 (oa 1 Zn4 (decide (x0.holder=v7)) (ox encB hz0 (oe encB z0 (oe encB z0 (GBus.sc x0 (GBus.sc GBus.z0 ee)))))))))))))))))))) (ih h)) fun g3 h=>bnK h fun z0 hz0 h=>cutX (ffi 1 18++[((1,19),(3,27648))]) 11 (p3 (tp (.t false) (kk 5 (ta encB [false] z0 (kk 1 (tp (.num (z0.map encB).length 0 0 []) (ob (ixn ha8) (ob (ixl encI ha8) (ob (ixr encI ha8) (ob (ixr encI ha8) (ob g3 (oa 1 Zn4 false (ox encB hz0 (oe encB z0 (oe encB z0 (GBus.sc x0 (GBus.sc GBus.z0 ee))))))))))))))))) (ih h)) fun g2 h=>bnK h fun z0 hz0 h=>cutX (ffi 1 18++[((1,19),(3,27648))]) 11 (p2 (gg g2 (kk 12 (ta encB [false] z0 (kk 1 (oa 1 Zn4 false (ox encB hz0 (ln encB z0 (oe encB z0 (GBus.sc x0 (GBus.sc GBus.z0 ee))))))))))) (ih h)) fun g1 h=>itK h (fun g2 h=>bnK h fun a9 ha9 h=>cutX (ffi 1 18++[((1,19),(3,1024)),((1,20),(1,19))]) 14 (p1 (gg g1 (gg g2 (kk 3 (tp (.row (x0.holder:Int).toNat (encB a9)) (kk 1 (tp (.cell (encB a9)) (kk 1 (tp (.num (v0.map encB).length 0 0 []) (ob (ixn ha9) (ob (ixl encB ha9) (ob (ixr encB ha9) (ob (ixr encB ha9) (oe encB v0 (GBus.sc x0 (GBus.sc GBus.z0 ee)))))))))))))))) (Zk2 h)) fun g2 h=>cutX (ffi 1 18++[((1,19),(3,1024)),((1,20),(1,19))]) 14 (p1 (gg g1 (gg g2 (kk 5 (ln encB v0 (GBus.sc x0 (GBus.sc GBus.z0 ee))))))) (Zk2 h)
theorem Z0a {x0:GBus} {r:GBus} (h:Zgu x0=some r):Fine Tryz.prog Mo (Yt x0 r):=
 Zd Tryz.func168 (cutX ([((1,1),(1,0))]++GBus.ff 2 0 0++[((1,10),(1,1024)),((1,19),(2,0))]) 8 (tp (.num ([].map encB).length 0 0 []) (ob (show 0=([].map encB).length from rfl) (GBus.sc x0 ee))) (Zsn h))
abbrev Wh (x0:GBus) (x1:GScript) (r:GBus×GWave):Y:=(124,[.agg (GBus.enc x0),.agg (GScript.enc x1)],.tup [.agg (GBus.ow r.1),.agg (GWave.enc r.2)],[.undef,.undef])
theorem Zgn {x0:GBus} {x1:GScript} {r:GBus×GWave} {vb0:GBus} {vb1:GWave} (h:Qr x0 x1 vb0 vb1=some r):CS (Wh x0 x1 r) Tryz.f124 [1,1,1,1,1,1,1,1,1] [(2,.ptr (1,1) 0 0),(4,.ptr (1,10) 0 0),(5,.ptr (1,19) 0 0),(6,.ptr (1,20) 0 0)] (GBus.bk vb0 2++[bx 1 (GBus.rl vb0 2)]++GBus.bk GBus.z0 11++[bx 10 (GBus.rl GBus.z0 11),bx 19 (GWave.enc GWave.z0),bx 20 (GWave.enc vb1)]):=
 rtK h (kk 8 (GBus.so vb0 ee))
theorem Zma {x0:GBus} {x1:GScript} {r:GBus×GWave} {vb0:GBus} {vb2:GWave} (h:Qs x0 x1 vb0 vb2=some r):CS (Wh x0 x1 r) Tryz.f124 [1,1,1,1,1,1,1,1,0,1,0,1] [(2,.ptr (1,1) 0 0),(3,.ptr (1,10) 0 0),(4,.ptr (1,11) 0 0),(5,.ptr (1,20) 0 0),(6,.ptr (1,21) 0 0)] (GBus.bk vb0 2++[bx 1 (GBus.rl vb0 2),bx 10 (GScript.enc x1)]++GBus.bk GBus.z0 12++[bx 11 (GBus.rl GBus.z0 12),bx 20 (GWave.enc GWave.z0),bx 21 (GWave.enc vb2)]):=
 bnK h fun r0 hr0 h=>bnK h fun r1 hr1 h=>have p1 {q p} (k:Scr q p):=(kk 8 (GBus.so vb0 (rr (Zzf hr0) (kk 8 (GBus.so r0 (rr (Z0a hr1) k))))));itK h (fun g1 h=>cutX ([((1,1),(1,1))]++GBus.ff 2 2 3072++[((1,10),(1,11)),((1,11),(1,12)),((1,12),(1,13)),((1,13),(1,14)),((1,14),(1,15)),((1,15),(1,16)),((1,16),(1,17)),((1,17),(1,18)),((1,18),(1,19)),((1,19),(1,20)),((1,20),(1,21))]) 6 (p1 (gg g1 (GBus.sc r1 (GBus.sc GBus.z0 ee)))) (Zgn h)) fun g1 h=>cutX ([((1,1),(1,1))]++GBus.ff 2 2 3072++[((1,10),(1,11)),((1,11),(1,12)),((1,12),(1,13)),((1,13),(1,14)),((1,14),(1,15)),((1,15),(1,16)),((1,16),(1,17)),((1,17),(1,18)),((1,18),(1,19)),((1,19),(1,20)),((1,20),(1,21))]) 6 (p1 (gg g1 (GBus.sc r1 (GBus.sc GBus.z0 ee)))) (Zgn h)
theorem Zl3 {x0:GBus} {x1:GScript} {r:GBus×GWave} {vb0:GBus} {vb2:GWave} {v0:Bool} (h:X0 x0 x1 vb0 vb2 v0=some r):CS (Wh x0 x1 r) Tryz.f124 [1,1,1,1,1,1,1,1,0,1,0,0,1] [(2,.ptr (1,1) 0 0),(3,.ptr (1,10) 0 0),(4,.ptr (1,11) 0 0),(5,.ptr (1,20) 0 0),(6,.ptr (1,21) 0 0),(182,bl v0)] (GBus.bk vb0 2++[bx 1 (GBus.rl vb0 2),bx 10 (GScript.enc x1)]++GBus.bk GBus.z0 12++[bx 11 (GBus.rl GBus.z0 12),bx 20 (GWave.enc GWave.z0),bx 21 (GWave.enc vb2)]):=
 itK h (fun g1 h=>bnK h fun a0 ha0 h=>bnK h fun y0 hy0 h=>cutX (ffi 1 21) 6 (gg g1 (xp GMst.enc ha0 hy0 (tq (GBus.nm {vb0 with m:=y0,holder:=(-1),held:=0}) (oe GMConf.enc vb0.conf.masters (ob (setl GMst.enc hy0) (oe GBucket.enc vb0.buckets (oe encI vb0.splits (GModel.so vb0.model (oe GDone.enc vb0.log (GBus.sc GBus.z0 ee)))))))))) (Zma h)) fun g1 h=>cutX (ffi 1 21) 2 (gg g1 (GBus.sc vb0 (GBus.sc GBus.z0 ee))) (Zma h)
theorem Kx {x0:GBus} {x1:GScript} {r:GBus×GWave} {vb0:GBus} {vb2:GWave} (h:Y2 x0 x1 vb0 vb2=some r):CS (Wh x0 x1 r) Tryz.f124 [1,1,1,1,1,1,1,1] [(2,.ptr (1,1) 0 0),(3,.ptr (1,10) 0 0),(4,.ptr (1,11) 0 0),(5,.ptr (1,20) 0 0),(6,.ptr (1,21) 0 0)] (GBus.bk vb0 2++[bx 1 (GBus.rl vb0 2),bx 10 (GScript.enc x1)]++GBus.bk GBus.z0 12++[bx 11 (GBus.rl GBus.z0 12),bx 20 (GWave.enc GWave.z0),bx 21 (GWave.enc vb2)]):=
 itK h (fun g1 h=>itK h (fun g2 h=>cutX (ffi 1 21) 7 (gg g1 (gg g2 (kk 6 (GBus.sc vb0 (GBus.sc GBus.z0 ee))))) (Zl3 h)) fun g2 h=>cutX (ffi 1 21) 7 (gg g1 (gg g2 (kk 6 (GBus.sc vb0 (GBus.sc GBus.z0 ee))))) (Zl3 h)) fun g1 h=>cutX (ffi 1 9++[((1,10),(1,11)),((1,11),(1,12)),((1,12),(1,13)),((1,13),(1,14)),((1,14),(1,15)),((1,15),(1,16)),((1,16),(1,17)),((1,17),(1,18)),((1,18),(1,19)),((1,19),(1,20)),((1,20),(1,21))]) 5 (gg g1 (GBus.sc vb0 (GBus.sc GBus.z0 ee))) (Zgn h)
theorem Zgh {x0:GBus} {x1:GScript} {r:GBus×GWave} {vb0:GBus} {vb2:GWave} {v1:Bool} (h:Xy x0 x1 vb0 vb2 v1=some r):CS (Wh x0 x1 r) Tryz.f124 [1,1,1,1,1,1,1,0,0,1,1,1] [(2,.ptr (1,1) 0 0),(3,.ptr (1,10) 0 0),(4,.ptr (1,11) 0 0),(5,.ptr (1,20) 0 0),(6,.ptr (1,21) 0 0),(126,bl v1)] (GBus.bk vb0 2++[bx 1 (GBus.rl vb0 2),bx 10 (GScript.enc x1)]++GBus.bk GBus.z0 12++[bx 11 (GBus.rl GBus.z0 12),bx 20 (GWave.enc GWave.z0),bx 21 (GWave.enc vb2)]):=
 itK h (fun g1 h=>itK h (fun g2 h=>bnK h fun r2 hr2 h=>cutX ([((1,1),(1,1))]++GBus.ff 2 8 2048++ffi 10 12) 16 (gg g1 (gg g2 (kk 8 (GBus.so vb0 (rr (Zm0 hr2) (GBus.sc r2 (GBus.sc GBus.z0 ee))))))) (Kx h)) fun g2 h=>cutX (ffi 1 21) 12 (gg g1 (gg g2 (GBus.sc {vb0 with data_:={vb0.data_ with second:=true}} (GBus.sc GBus.z0 ee)))) (Kx h)) fun g1 h=>itK h (fun g2 h=>bnK h fun r3 hr3 h=>cutX ([((1,1),(1,1))]++GBus.ff 2 4 2048++ffi 10 12) 8 (gg g1 (gg g2 (kk 8 (GBus.so vb0 (rr (Zx8 hr3) (GBus.sc r3 (GBus.sc GBus.z0 ee))))))) (Kx h)) fun g2 h=>cutX (ffi 1 21) 6 (gg g1 (gg g2 (GBus.sc vb0 (GBus.sc GBus.z0 ee)))) (Kx h)
theorem Zl1 {x0:GBus} {x1:GScript} {r:GBus×GWave} {vb0:GBus} {vb2:GWave} {v2:Bool} (h:Zbr x0 x1 vb0 vb2 v2=some r):CS (Wh x0 x1 r) Tryz.f124 [1,1,1,1,1,1,1,0,0,1] [(2,.ptr (1,1) 0 0),(3,.ptr (1,10) 0 0),(4,.ptr (1,11) 0 0),(5,.ptr (1,20) 0 0),(6,.ptr (1,21) 0 0),(109,bl v2)] (GBus.bk vb0 2++[bx 1 (GBus.rl vb0 2),bx 10 (GScript.enc x1)]++GBus.bk GBus.z0 12++[bx 11 (GBus.rl GBus.z0 12),bx 20 (GWave.enc GWave.z0),bx 21 (GWave.enc vb2)]):=
 itK h (fun g1 h=>cutX (ffi 1 21) 5 (gg g1 (GBus.sc {vb0 with data_:={vb0.data_ with left:=(subW vb0.data_.left 1)}} (GBus.sc GBus.z0 ee))) (Kx h)) fun g1 h=>itK h (fun g2 h=>itK h (fun g3 h=>cutX (ffi 1 21) 3 (gg g1 (gg g2 (kk 4 (gg g3 (kk 4 (GBus.sc vb0 (GBus.sc GBus.z0 ee))))))) (Zgh h)) fun g3 h=>cutX (ffi 1 21) 3 (gg g1 (gg g2 (kk 4 (gg g3 (kk 4 (GBus.sc vb0 (GBus.sc GBus.z0 ee))))))) (Zgh h)) fun g2 h=>cutX (ffi 1 21) 3 (gg g1 (gg g2 (kk 9 (GBus.sc vb0 (GBus.sc GBus.z0 ee))))) (Zgh h)
theorem Zmn {x0:GBus} {x1:GScript} {r:GBus×GWave} {vb0:GBus} {vb2:GWave} (h:Xz x0 x1 vb0 vb2=some r):CS (Wh x0 x1 r) Tryz.f124 [1,1,1,1,1,1,1] [(2,.ptr (1,1) 0 0),(3,.ptr (1,10) 0 0),(4,.ptr (1,11) 0 0),(5,.ptr (1,20) 0 0),(6,.ptr (1,21) 0 0)] (GBus.bk vb0 2++[bx 1 (GBus.rl vb0 2),bx 10 (GScript.enc x1)]++GBus.bk GBus.z0 12++[bx 11 (GBus.rl GBus.z0 12),bx 20 (GWave.enc GWave.z0),bx 21 (GWave.enc vb2)]):=
 itK h (fun g1 h=>cutX (ffi 1 21) 4 (gg g1 (kk 4 (GBus.sc vb0 (GBus.sc GBus.z0 ee)))) (Zl1 h)) fun g1 h=>cutX (ffi 1 21) 4 (gg g1 (kk 4 (GBus.sc vb0 (GBus.sc GBus.z0 ee)))) (Zl1 h)
theorem Zs8 {x0:GBus} {x1:GScript} {r:GBus×GWave}:∀{m:Nat} {vb0:GBus} {vb2:GWave} {v3:Int},Wq x0 x1 m vb0 vb2 v3=some r→CS (Wh x0 x1 r) Tryz.f124 [1,1,1,1,1,0,1,0] [(2,.ptr (1,1) 0 0),(3,.ptr (1,10) 0 0),(4,.ptr (1,11) 0 0),(5,.ptr (1,20) 0 0),(6,.ptr (1,21) 0 0),(11,il v3)] (GBus.bk vb0 2++[bx 1 (GBus.rl vb0 2),bx 10 (GScript.enc x1)]++GBus.bk GBus.z0 12++[bx 11 (GBus.rl GBus.z0 12),bx 20 (GWave.enc GWave.z0),bx 21 (GWave.enc vb2)]):=by
 intro m
 induction m with
 | zero=>intro vb0 vb2 v3 h;cases h
 | succ m ih=>exact fun {vb0} {vb2} {v3} h=>itK h (fun g1 h=>bnK h fun a1 ha1 h=>bnK h fun y1 hy1 h=>bnK h fun a2 ha2 h=>bnK h fun a3 ha3 h=>bnK h fun r4 hr4 h=>bnK h fun y2 hy2 h=>cutX (ffi 1 21) 13 (lr GMst.enc vb0.m (gg g1 (xd encI ha1 (xp encI ha1 hy1 (xd GBucket.enc ha2 (xd GMConf.enc ha3 (rr (Zwc hr4) (xp GBucket.enc ha2 hy2 (tq (GBus.nm {vb0 with buckets:=y2,splits:=y1}) (oe GMConf.enc vb0.conf.masters (oe GMst.enc vb0.m (ob (setl GBucket.enc hy2) (ob (setl encI hy1) (GModel.so vb0.model (oe GDone.enc vb0.log (GBus.sc GBus.z0 ee)))))))))))))))) (ih h)) fun g1 h=>itK h (fun g2 h=>cutX (ffi 1 21) 14 (lr GMst.enc vb0.m (gg g1 (gg g2 (GBus.sc {vb0 with held:=(minI vb0.conf.lockMost (addW vb0.held 1))} (GBus.sc GBus.z0 ee))))) (Zmn h)) fun g2 h=>cutX (ffi 1 21) 14 (lr GMst.enc vb0.m (gg g1 (gg g2 (GBus.sc vb0 (GBus.sc GBus.z0 ee))))) (Zmn h)
theorem Zti {x0:GBus} {x1:GScript} {r:GBus×GWave}:∀{m:Nat} {vb0:GBus} {vb2:GWave} {v4:List GPost} {v5:Int},Jd x0 x1 m vb0 vb2 v4 v5=some r→CS (Wh x0 x1 r) Tryz.f124 [1,1,1,1,0,1,0] [(2,.ptr (1,1) 0 0),(3,.ptr (1,10) 0 0),(4,.ptr (1,11) 0 0),(5,.ptr (1,20) 0 0),(6,.ptr (1,21) 0 0),(7,.sl (1,22) 0 (v4.map GPost.enc).length),(8,il v5)] (GBus.bk vb0 2++[bx 1 (GBus.rl vb0 2),bx 10 (GScript.enc x1)]++GBus.bk GBus.z0 12++[bx 11 (GBus.rl GBus.z0 12),bx 20 (GWave.enc GWave.z0),bx 21 (GWave.enc vb2),rx 22 73 (v4.map GPost.enc)]):=by
 intro m
 induction m with
 | zero=>intro vb0 vb2 v4 v5 h;cases h
 | succ m ih=>exact fun {vb0} {vb2} {v4} {v5} h=>itK h (fun g1 h=>bnK h fun a4 ha4 h=>bnK h fun r5 hr5 h=>have p1 {q p} (k:Scr q p):=(lr GPost.enc v4 (gg g1 (xd GPost.enc ha4 (lr GMst.enc vb0.m (rr (Zi hr5) k)))));itK h (fun g2 h=>bnK h fun a5 ha5 h=>bnK h fun r6 hr6 h=>bnK h fun y3 hy3 h=>cutX (ffi 1 22) 16 (p1 (gg g2 (xd GPost.enc ha4 (xd GMst.enc ha5 (xd GPost.enc ha4 (rr (Z2t hr6) (xd GPost.enc ha4 (xq GMst.enc ha5 y3 (kk 1 (oe GReq.enc r6.1.queue (ob (seto GMst.enc hy3) (ln GPost.enc v4 (tq (GBus.nm {vb0 with m:=y3}) (oe GMConf.enc vb0.conf.masters (ob (setl GMst.enc hy3) (oe GBucket.enc vb0.buckets (oe encI vb0.splits (GModel.so vb0.model (oe GDone.enc vb0.log (GBus.sc GBus.z0 ee)))))))))))))))))))) (ih h)) fun g2 h=>cutX (ffi 1 22) 14 (p1 (gg g2 (ln GPost.enc v4 (GBus.sc vb0 (GBus.sc GBus.z0 ee))))) (ih h)) fun g1 h=>cutX (ffi 1 21) 13 (lr GPost.enc v4 (gg g1 (GBus.sc vb0 (GBus.sc GBus.z0 ee)))) (Zs8 h)
theorem Z1i {x0:GBus} {x1:GScript} {r:GBus×GWave} (h:Zhl x0 x1=some r):Fine Tryz.prog Mo (Wh x0 x1 r):=
 Zd Tryz.func124 (bnK h fun r7 hr7 h=>bnK h fun r8 hr8 h=>bnK h fun r9 hr9 h=>cutX ([((1,1),(1,0))]++GBus.ff 2 2 1024++[((1,10),(1,1024)),((1,11),(1,2048)),((1,20),(1,3072)),((1,21),(3,2048)),((1,22),(4,3072))]) 12 (rr (Z2r hr7) (kk 8 (GBus.so r7 (rr (Z2c hr8) (rr (Z1d hr9) (ln GPost.enc r9 (GBus.sc r7 ee))))))) (Zti h))
abbrev Zoq (x0:GL1Cur) (r:GBus×GScript×GL1Cur):Y:=(75,[.agg [.tr (x0.b.map encU),il x0.i,il x0.h]],.tup [.agg (GBus.ow r.1),.agg (GScript.ow r.2.1)],[.agg [.tr (r.2.2.b.map encU),il r.2.2.i,il r.2.2.h]])
theorem Zvt {x0:GL1Cur} {r:GBus×GScript×GL1Cur}:∀{m:Nat} {vb0:GL1Cur} {vb1:GScript} {vb2:GBus} {v0:Int},Kd x0 m vb0 vb1 vb2 v0=some r→CS (Zoq x0 r) Tryz.f75 [1,1,1,1,0,1,0] [(2,.ptr (1,1) 0 0),(3,.ptr (1,10) 0 0),(5,.ptr (1,14) 0 0),(6,.ptr (1,18) 0 0),(8,il v0)] ([((0,63),⟨true,true,true,0,[(GL1Cur.enc vb0)]⟩)]++GBus.bk GBus.z0 2++[bx 1 (GBus.rl GBus.z0 2)]++GScript.bk GScript.z0 11++[bx 10 (GScript.rl GScript.z0 11)]++GScript.bk vb1 15++[bx 14 (GScript.rl vb1 15)]++GBus.bk vb2 19++[bx 18 (GBus.rl vb2 19)]):=by
 intro m
 induction m with
 | zero=>intro vb0 vb1 vb2 v0 h;cases h
 | succ m ih=>exact fun {vb0} {vb1} {vb2} {v0} h=>itK h (fun g1 h=>bnK h fun r0 hr0 h=>cutX (ffi 1 18++GBus.ff 19 3 2048) 11 (gg g1 (kk 11 (GBus.so vb2 (GScript.so vb1 (rr (Z1i hr0) (GBus.sc GBus.z0 (GScript.sc GScript.z0 (GScript.sc vb1 (GBus.sc r0.1 ee))))))))) (ih h)) fun g1 h=>rtK h (gg g1 (kk 11 (GBus.so vb2 (GScript.so vb1 ee))))
theorem Znm {x0:GL1Cur} {r:GBus×GScript×GL1Cur} {vb0:GL1Cur} {vb1:GConf} {vb3:GScript} (h:Zeb x0 vb0 vb1 vb3=some r):CS (Zoq x0 r) Tryz.f75 [1,1,1] [(0,.ptr (0,63) 0 0),(2,.ptr (1,1) 0 0),(3,.ptr (1,10) 0 0),(4,.ptr (1,14) 0 0),(5,.ptr (1,16) 0 0)] ([((0,63),⟨true,true,true,0,[(GL1Cur.enc vb0)]⟩)]++GBus.bk GBus.z0 2++[bx 1 (GBus.rl GBus.z0 2)]++GScript.bk GScript.z0 11++[bx 10 (GScript.rl GScript.z0 11),rx 15 162 (vb1.masters.map GMConf.enc),bx 14 [.sl (1,15) 0 (vb1.masters.map GMConf.enc).length,il vb1.quantum,il vb1.maxWait,il vb1.maxRetry,il vb1.maxSplit,il vb1.lockMost]]++GScript.bk vb3 17++[bx 16 (GScript.rl vb3 17)]):=
 bnK h fun r1 hr1 h=>bnK h fun r2 hr2 h=>cutX (ffi 1 13++[((1,14),(1,16))]++GScript.ff 15 1 17++[((1,18),(2,5120))]++GBus.ff 19 2 1024) 6 (kk 1 (oe GMConf.enc vb1.masters (rr (Z52 hr1) (rr (Zn hr2) (GBus.sc GBus.z0 (GScript.sc GScript.z0 (GScript.sc vb3 (GBus.sc r1.1 ee)))))))) (Zvt h)
theorem Z4i {x0:GL1Cur} {r:GBus×GScript×GL1Cur} (h:Zjc x0=some r):Fine Tryz.prog Mo (Zoq x0 r):=
 Zd Tryz.func75 (bnK h fun r3 hr3 h=>itK h (fun g1 h=>bnK h fun r4 hr4 h=>cutX ([((1,1),(1,0)),((1,10),(1,1024)),((1,14),(2,2048)),((1,15),(2,1024)),((1,16),(3,3072))]++GScript.ff 17 3 2048) 6 (rr (Zs6 hr3) (tp (.t true) (ob (lz GMConf.enc g1) (rr (Zzy hr4) (tp (.t true) (ob (lz GMConf.enc g1) (ln GMConf.enc r3.1.masters (GScript.sc r4.1 ee)))))))) (Znm h)) fun g1 h=>bnK h fun r4 hr4 h=>bnK h fun q0 hq0 h=>cutX ([((1,1),(1,0)),((1,10),(1,1024)),((1,14),(2,2048)),((1,15),(2,1024)),((1,16),(3,3072))]++GScript.ff 17 3 2048) 6 (rr (Zs6 hr3) (tp (.t false) (kk 1 (ob (lnz GMConf.enc g1) (oe GMConf.enc r3.1.masters (rr (Zxl hr4) (tp (.t false) (tp (.num (r4.2.2.masters.map GMConf.enc).length 0 0 []) (ob (lnz GMConf.enc g1) (ob (lenq GMConf.enc hq0) (GScript.sc r4.1 ee))))))))))) (Znm h))
abbrev Zvb (x0:GL1Cur) (r:List GDone×GL1Cur):Y:=(32,[.agg [.tr (x0.b.map encU),il x0.i,il x0.h]],.own 56 (r.1.map GDone.enc),[.agg [.tr (r.2.b.map encU),il r.2.i,il r.2.h]])
theorem Zn3 {x0:GL1Cur} {r:List GDone×GL1Cur} {vb0:GL1Cur} {v0:List GDone} {v1:Bool} (h:J2 x0 vb0 v0 v1=some r):CS (Zvb x0 r) Tryz.f32 [1,1,1,0,1] [(0,.ptr (0,63) 0 0),(5,.sl (1,1) 0 (v0.map GDone.enc).length),(22,bl v1)] [((0,63),⟨true,true,true,0,[(GL1Cur.enc vb0)]⟩),rx 1 56 (v0.map GDone.enc)]:=
 itK h (fun g1 h=>bnK h fun r0 hr0 h=>bnK h fun r1 hr1 h=>have p1 {q p} (k:Scr q p):=(gg g1 (lr GDone.enc v0 (rr (Zn hr0) (rr (Zn hr1) k))));itK h (fun g2 h=>bnK h fun a0 ha0 h=>bnK h fun y0 hy0 h=>rtK h (p1 (gg g2 (xd GDone.enc ha0 (xp GDone.enc ha0 hy0 (kk 1 (ob (setl GDone.enc hy0) ee))))))) fun g2 h=>itK h (fun g3 h=>bnK h fun r2 hr2 h=>bnK h fun a1 ha1 h=>bnK h fun y1 hy1 h=>rtK h (p1 (gg g2 (gg g3 (rr (Zn hr2) (xp GDone.enc ha1 hy1 (kk 1 (ob (setl GDone.enc hy1) ee)))))))) fun g3 h=>itK h (fun g4 h=>bnK h fun r3 hr3 h=>bnK h fun a2 ha2 h=>bnK h fun y2 hy2 h=>rtK h (p1 (gg g2 (gg g3 (gg g4 (kk 1 (ob (show 5=([0,4,200,300,(-1)].map encI).length from rfl) (rr (Qu hr3) (xp GDone.enc ha2 hy2 (kk 1 (ob (setl GDone.enc hy2) ee))))))))))) fun g4 h=>bnK h fun r4 hr4 h=>bnK h fun a3 ha3 h=>bnK h fun y3 hy3 h=>rtK h (p1 (gg g2 (gg g3 (gg g4 (rr (Zn hr4) (xp GDone.enc ha3 hy3 (kk 1 (ob (setl GDone.enc hy3) ee))))))))) fun g1 h=>rtK h (gg g1 (kk 1 (oe GDone.enc v0 ee)))
theorem Z5l {x0:GL1Cur} {r:List GDone×GL1Cur} (h:Zji x0=some r):Fine Tryz.prog Mo (Zvb x0 r):=
 Zd Tryz.func32 (bnK h fun r5 hr5 h=>bnK h fun z0 hz0 h=>have p1 {q p} (k:Scr q p):=(rr (Z4i hr5) (ta GDone.enc r5.1.log z0 (kk 1 (oe GDone.enc r5.1.log (ol 7 GDone.enc_len GDone.enc_lit r5.1.log (ob (apl GDone.enc hz0) (ob (apm GDone.enc hz0) (oe GDone.enc z0 (lr GDone.enc z0 k)))))))));itK h (fun g1 h=>bnK h fun r6 hr6 h=>cutX [((1,1),(3,3072))] 9 (p1 (gg g1 (kk 1 (rr (Zfw hr6) (kk 1 (ln GDone.enc z0 ee)))))) (Zn3 h)) fun g1 h=>cutX [((1,1),(3,3072))] 9 (p1 (gg g1 (kk 2 (ln GDone.enc z0 ee)))) (Zn3 h))
abbrev Zvd (x0:List Int) (r:List GDone):Y:=(7,[.tr (x0.map encU)],.own 56 (r.map GDone.enc),[.undef])
theorem Zvy {x0:List Int} {r:List GDone} (h:Zdz x0=some r):Fine Tryz.prog Mo (Zvd x0 r):=
 Zd Tryz.func7 (bnK h fun r0 hr0 h=>bnK h fun r1 hr1 h=>rtK h (rr (Z66 hr0) (rr (Z5l hr1) (kk 1 (oe GDone.enc r1.1 ee)))))
abbrev Z6e  (r:GDev):Y:=(78,[],.agg (GDev.ow r),[])
theorem Z5q  {r:GDev} (h:Zux  = some r):Fine Tryz.prog Mo (Z6e  r):=
 Zd Tryz.func78 (bnK h fun m0 hm0 h=>rtK h (tp (.mk (4:Int).toNat (m0.map encI)) (kk 1 (ob (mkn hm0) (ob (mkn hm0) (ob (mkl hm0) (ob (mkr encI hm0) (oe encI m0 ee))))))))
abbrev Zza  (r:GModel):Y:=(34,[],.agg (GModel.ow r),[])
theorem Zym  {r:GModel} (h:Zfp  = some r):Fine Tryz.prog Mo (Zza  r):=
 Zd Tryz.func34 (bnK h fun m0 hm0 h=>bnK h fun r0 hr0 h=>rtK h (tp (.mk (192:Int).toNat (m0.map encI)) (ob (mkn hm0) (ob (mkn hm0) (ob (mkl hm0) (ob (mkr encI hm0) (rr (Z5q hr0) (kk 3 (oe encI m0 (GDev.so r0 ee))))))))))
abbrev Zef (x0:List Int) (r:List Int):Y:=(125,[.tr (x0.map encI)],.own 3 (r.map encI),[.undef])
theorem Xf {x0:List Int} {r:List Int} (h:Z6 x0=some r):Fine Tryz.prog Mo (Zef x0 r):=by
 refine Zd Tryz.func125 ?_
 unfold Z6 at h
 cases x0 with
 | nil=>
  obtain rfl:[]=r:=(Z0p h)
  have hn:CS (Zef [] []) Tryz.f125 [1,0,0] [(0,.tr [])] []:=Zzz Mo fOk (k:=at_ [1,0,1] (Zp6 Tryz.f125) []) (x0:=.tmp 0) (d0:=3) (d1:=4) (t:=26) (e:=3) (y:=.const (.slice none 0 0)) (by kernel_rfl) (by kernel_rfl) rfl rfl fun b=>by
   cases b with
   | true=>exact rtQ rfl [.k] tt
   | false=>exact rtQ rfl [.k,.app [] true [] 0,.k] (aa (Eq.refl ([]:List (List V))) (aa (Eq.refl true) (aa (Eq.refl true) (aa (Eq.refl 0) (aa (apz 8) (aa (Eq.refl ([]:List (List V))) (aa (Eq.refl 0) (aa (Eq.refl 0) tt))))))))
  exact cutQ [] 4 [] tt hn
 | cons a l=>
  exact rtQ rfl [.k,.app ((a::l).map encI) true (r.map encI) (r.map encI).length,.k] (aa (List.cons_ne_nil (encI a) (l.map encI)) (aa (Eq.refl ((a::l).map encI)) (aa (ltr Ze9 (a::l)) (aa (alr 1 Xv (a::l)) (aa (Eq.refl 0) (aa (apl encI h) (aa (apm0 encI h) (aa (lene encI r) (aa (lene encI r) tt)))))))))
abbrev Z44 (x0:GDev) (r:GDev):Y:=(126,[.agg (GDev.enc x0)],.agg (GDev.ow r),[.undef])
theorem Zu0 {x0:GDev} {r:GDev} (h:Zfo x0=some r):Fine Tryz.prog Mo (Z44 x0 r):=
 Zd Tryz.func126 (bnK h fun r0 hr0 h=>bnK h fun r1 hr1 h=>rtK h (rr (Xf hr0) (rr (Xf hr1) (kk 2 (oe encI r0 (oe encI r1 ee))))))
abbrev Zzi (x0:GModel) (r:GModel):Y:=(79,[.agg (GModel.enc x0)],.agg (GModel.ow r),[.undef])
theorem Zp9 {x0:GModel} {r:GModel} (h:Zdd x0=some r):Fine Tryz.prog Mo (Zzi x0 r):=
 Zd Tryz.func79 (bnK h fun r0 hr0 h=>bnK h fun r1 hr1 h=>rtK h (rr (Xf hr0) (rr (Zu0 hr1) (kk 3 (oe encI r0 (GDev.so r1 ee))))))
abbrev Z5v (x0:Int) (x1:Int) (x2:Int) (r:Bool):Y:=(129,[il x0,il x1,il x2],bl r,[.undef,.undef,.undef])
theorem Q5 {x0:Int} {x1:Int} {x2:Int} {r:Bool} (h:Yb x0 x1 x2=some r):Fine Tryz.prog Mo (Z5v x0 x1 x2 r):=
 Zd Tryz.func129 (itK h (fun g1 h=>rtK h (gg g1 (kk 3 ee))) fun g1 h=>rtK h (gg g1 (kk 3 ee)))
abbrev Z5e (x0:Int) (r:Bool):Y:=(170,[il x0],bl r,[.undef])
theorem Zup {x0:Int} {r:Bool} (h:Zjg x0=some r):Fine Tryz.prog Mo (Z5e x0 r):=
 Zd Tryz.func170 (bnK h fun r0 hr0 h=>rtK h (rr (Q5 hr0) ee))
abbrev Qm (x0:List Int) (r:Int):Y:=(181,[.tr (x0.map encI),.fn 170 []],il r,[.undef,.undef])
theorem Zal {x0:List Int} {r:Int}:∀{m:Nat} {v0:Int},Xc x0 m v0=some r→CS (Qm x0 r) Tryz.f181 [1,0,1,0] [(0,.tr (x0.map encI)),(1,.fn 170 []),(7,il (x0.length:Int)),(8,il v0)] []:=by
 intro m
 induction m with
 | zero=>intro v0 h;cases h
 | succ m ih=>exact fun {v0} h=>itK h (fun g1 h=>bnK h fun a0 ha0 h=>bnK h fun r0 hr0 h=>itK h (fun g2 h=>rtK h (gg g1 (xb encI ha0 (rr (Zup hr0) (gg g2 ee))))) fun g2 h=>cutX [] 16 (gg g1 (xb encI ha0 (rr (Zup hr0) (gg g2 ee)))) (ih h)) fun g1 h=>rtK h (gg g1 ee)
theorem Zc1 {x0:List Int} {r:Int} (h:Xn x0=some r):Fine Tryz.prog Mo (Qm x0 r):=
 Zd Tryz.func181 (cutX [] 6 (lr encI x0 ee) (Zal h))
abbrev Zbf (x0:List Int) (r:Bool):Y:=(146,[.tr (x0.map encI),.fn 170 []],bl r,[.undef,.undef])
theorem Za9 {x0:List Int} {r:Bool} (h:Yh x0=some r):Fine Tryz.prog Mo (Zbf x0 r):=
 Zd Tryz.func146 (bnK h fun r0 hr0 h=>rtK h (rr (Zc1 hr0) ee))
abbrev Z1g (x0:Int) (r:Int):Y:=(130,[il x0],il r,[.undef])
theorem Jl {x0:Int} {r:Int} (h:Qf x0=some r):Fine Tryz.prog Mo (Z1g x0 r):=
 Zd Tryz.func130 (bnK h fun r0 hr0 h=>itK h (fun g1 h=>rtK h (rr (Q5 hr0) (gg g1 ee))) fun g1 h=>bnK h fun n0 hn0 h=>rtK h (rr (Q5 hr0) (gg g1 (tp (.obl) (ob (nn0 hn0) ee)))))
abbrev Z2l (x0:Int) (x1:Int) (r:Bool):Y:=(81,[il x0,il x1],bl r,[.undef,.undef])
theorem Zmu {x0:Int} {x1:Int} {r:Bool} (h:Zek x0 x1=some r):Fine Tryz.prog Mo (Z2l x0 x1 r):=
 Zd Tryz.func81 (bnK h fun r0 hr0 h=>itK h (fun g1 h=>itK h (fun g2 h=>bnK h fun r1 hr1 h=>bnK h fun n0 hn0 h=>rtK h (rr (Q5 hr0) (gg g1 (kk 2 (gg g2 (kk 2 (rr (Jl hr1) (kk 1 (tp (.obl) (kk 2 (ob (nz0 hn0) ee))))))))))) fun g2 h=>rtK h (rr (Q5 hr0) (gg g1 (kk 2 (gg g2 (kk 5 ee)))))) fun g1 h=>rtK h (rr (Q5 hr0) (gg g1 (kk 8 ee))))
abbrev Z9q (x0:List Int) (x1:Int) (x2:Int) (r:Bool):Y:=(127,[.tr (x0.map encI),il x1,il x2],bl r,[.undef,.undef,.undef])
theorem Zg0 {x0:List Int} {x1:Int} {x2:Int} {r:Bool} (h:Zha x0 x1 x2=some r):Fine Tryz.prog Mo (Z9q x0 x1 x2 r):=
 Zd Tryz.func127 (itK h (fun g1 h=>bnK h fun r0 hr0 h=>have p1 {q p} (k:Scr q p):=(lr encI x0 (gg g1 (kk 1 (rr (Za9 hr0) (kk 2 k)))));itK h (fun g2 h=>bnK h fun r1 hr1 h=>itK h (fun g3 h=>bnK h fun r2 hr2 h=>rtK h (p1 (gg g2 (kk 2 (rr (Zmu hr1) (kk 1 (gg g3 (kk 2 (lr encI x0 (kk 2 (rr (Jl hr2) (kk 3 ee)))))))))))) fun g3 h=>rtK h (p1 (gg g2 (kk 2 (rr (Zmu hr1) (kk 1 (gg g3 (kk 7 ee)))))))) fun g2 h=>rtK h (p1 (gg g2 (kk 11 ee)))) fun g1 h=>rtK h (lr encI x0 (gg g1 (kk 15 ee))))
abbrev Z01 (x0:Int) (r:Int):Y:=(131,[il x0],il r,[.undef])
theorem Zsh {x0:Int} {r:Int} (h:Zel x0=some r):Fine Tryz.prog Mo (Z01 x0 r):=
 Zd Tryz.func131 (bnK h fun r0 hr0 h=>itK h (fun g1 h=>rtK h (rr (Jl hr0) (gg g1 ee))) fun g1 h=>bnK h fun r1 hr1 h=>bnK h fun n0 hn0 h=>rtK h (rr (Jl hr0) (gg g1 (rr (Jl hr1) (tp (.obl) (ob (nn0 hn0) ee))))))
abbrev Z8b (x0:Int) (x1:Int) (r:Bool):Y:=(82,[il x0,il x1],bl r,[.undef,.undef])
theorem Zij {x0:Int} {x1:Int} {r:Bool} (h:Zaf x0 x1=some r):Fine Tryz.prog Mo (Z8b x0 x1 r):=
 Zd Tryz.func82 (bnK h fun r0 hr0 h=>bnK h fun r1 hr1 h=>rtK h (rr (Zsh hr0) (rr (Q5 hr1) ee)))
abbrev Z1e (x0:Int) (r:Bool):Y:=(171,[il x0],bl r,[.undef])
theorem Zr7 {x0:Int} {r:Bool} (h:Zh2 x0=some r):Fine Tryz.prog Mo (Z1e x0 r):=
 Zd Tryz.func171 (bnK h fun r0 hr0 h=>rtK h (rr (Zij hr0) ee))
abbrev Qc (x0:List Int) (r:Int):Y:=(181,[.tr (x0.map encI),.fn 171 []],il r,[.undef,.undef])
theorem Zac {x0:List Int} {r:Int}:∀{m:Nat} {v0:Int},Y5 x0 m v0=some r→CS (Qc x0 r) Tryz.f181 [1,0,1,0] [(0,.tr (x0.map encI)),(1,.fn 171 []),(7,il (x0.length:Int)),(8,il v0)] []:=by
 intro m
 induction m with
 | zero=>intro v0 h;cases h
 | succ m ih=>exact fun {v0} h=>itK h (fun g1 h=>bnK h fun a0 ha0 h=>bnK h fun r0 hr0 h=>itK h (fun g2 h=>rtK h (gg g1 (xb encI ha0 (rr (Zr7 hr0) (gg g2 ee))))) fun g2 h=>cutX [] 16 (gg g1 (xb encI ha0 (rr (Zr7 hr0) (gg g2 ee)))) (ih h)) fun g1 h=>rtK h (gg g1 ee)
theorem Zck {x0:List Int} {r:Int} (h:Xl x0=some r):Fine Tryz.prog Mo (Qc x0 r):=
 Zd Tryz.func181 (cutX [] 6 (lr encI x0 ee) (Zac h))
abbrev Zao (x0:List Int) (r:Bool):Y:=(146,[.tr (x0.map encI),.fn 171 []],bl r,[.undef,.undef])
theorem Wo {x0:List Int} {r:Bool} (h:Z0 x0=some r):Fine Tryz.prog Mo (Zao x0 r):=
 Zd Tryz.func146 (bnK h fun r0 hr0 h=>rtK h (rr (Zck hr0) ee))
abbrev Z7q (x0:GDev) (r:Bool):Y:=(128,[.agg (GDev.enc x0)],bl r,[.undef])
theorem Zw6 {x0:GDev} {r:Bool} (h:Zih x0=some r):Fine Tryz.prog Mo (Z7q x0 r):=
 Zd Tryz.func128 (itK h (fun g1 h=>have p1 {q p} (k:Scr q p):=(lr encI x0.regs (gg g1 (kk 2 (lr encI x0.fifo (kk 2 k)))));itK h (fun g2 h=>bnK h fun r0 hr0 h=>have p2 {q p} (k:Scr q p):=(p1 (gg g2 (kk 3 (rr (Wo hr0) (kk 2 k)))));itK h (fun g3 h=>bnK h fun r1 hr1 h=>have p3 {q p} (k:Scr q p):=(p2 (gg g3 (kk 3 (rr (Wo hr1) (kk 2 k)))));itK h (fun g4 h=>bnK h fun r2 hr2 h=>rtK h (p3 (gg g4 (kk 2 (rr (Zij hr2) (kk 1 ee)))))) fun g4 h=>rtK h (p3 (gg g4 (kk 3 ee)))) fun g3 h=>rtK h (p2 (gg g3 (kk 9 ee)))) fun g2 h=>rtK h (p1 (gg g2 (kk 15 ee)))) fun g1 h=>rtK h (lr encI x0.regs (gg g1 (kk 20 ee))))
abbrev Z22 (x0:GModel) (r:Bool):Y:=(80,[.agg (GModel.enc x0)],bl r,[.undef])
theorem Z2a {x0:GModel} {r:Bool} (h:Zh0 x0=some r):Fine Tryz.prog Mo (Z22 x0 r):=
 Zd Tryz.func80 (itK h (fun g1 h=>bnK h fun r0 hr0 h=>itK h (fun g2 h=>bnK h fun r1 hr1 h=>rtK h (lr encI x0.mem (gg g1 (kk 2 (rr (Zg0 hr0) (kk 1 (gg g2 (kk 2 (rr (Zw6 hr1) (kk 1 ee)))))))))) fun g2 h=>rtK h (lr encI x0.mem (gg g1 (kk 2 (rr (Zg0 hr0) (kk 1 (gg g2 (kk 3 ee)))))))) fun g1 h=>rtK h (lr encI x0.mem (gg g1 (kk 7 ee))))
abbrev Zsi (x0:Int) (r:Int):Y:=(83,[il x0],il r,[.undef])
theorem Zmc {x0:Int} {r:Int} {v0:Bool} (h:Zcj x0 v0=some r):CS (Zsi x0 r) Tryz.f83 [1,0,0,1] [(0,il x0),(3,bl v0)] []:=
 itK h (fun g1 h=>rtK h (gg g1 ee)) fun g1 h=>itK h (fun g2 h=>rtK h (gg g1 (gg g2 ee))) fun g2 h=>itK h (fun g3 h=>rtK h (gg g1 (gg g2 (gg g3 ee)))) fun g3 h=>rtK h (gg g1 (gg g2 (gg g3 ee)))
theorem Zrk {x0:Int} {r:Int} (h:Zhq x0=some r):Fine Tryz.prog Mo (Zsi x0 r):=
 Zd Tryz.func83 (itK h (fun g1 h=>cutX [] 6 (gg g1 (kk 2 ee)) (Zmc h)) fun g1 h=>cutX [] 6 (gg g1 (kk 2 ee)) (Zmc h))
abbrev Zfl (x0:GDev) (x1:Bool) (x2:Int) (x3:Int) (r:GDev×Int×Bool):Y:=(84,[.agg (GDev.enc x0),bl x1,il x2,il x3],.tup [.agg (GDev.ow r.1),il r.2.1,bl r.2.2],[.undef,.undef,.undef,.undef])
theorem Zi5 {x0:GDev} {x1:Bool} {x2:Int} {x3:Int} {r:GDev×Int×Bool} {vb0:GDev} {v0:Bool} (h:Za4 x0 x1 x2 x3 vb0 v0=some r):CS (Zfl x0 x1 x2 x3 r) Tryz.f84 [1,1,1,0,0,1,1,1,1,1,1,1,1,1] [(1,bl x1),(2,il x2),(3,il x3),(4,.ptr (1,1) 0 0),(8,.ptr (1,2) 0 0),(11,.ptr (1,5) 0 0),(91,bl v0)] ([bx 1 (GDev.enc x0)]++GDev.bk GDev.z0 3++[bx 2 (GDev.rl GDev.z0 3)]++GDev.bk vb0 6++[bx 5 (GDev.rl vb0 6)]):=
 itK h (fun g1 h=>rtK h (gg g1 (kk 2 (GDev.so vb0 ee)))) fun g1 h=>itK h (fun g2 h=>bnK h fun a0 ha0 h=>bnK h fun y0 hy0 h=>rtK h (gg g1 (gg g2 (kk 1 (xp encI ha0 hy0 (kk 2 (ob (setl encI hy0) (oe encI vb0.fifo ee)))))))) fun g2 h=>bnK h fun a1 ha1 h=>rtK h (gg g1 (gg g2 (kk 1 (xb encI ha1 (kk 2 (GDev.so vb0 ee))))))
theorem Zix {x0:GDev} {x1:Bool} {x2:Int} {x3:Int} {r:GDev×Int×Bool} {vb0:GDev} {v1:Bool} (h:Za8 x0 x1 x2 x3 vb0 v1=some r):CS (Zfl x0 x1 x2 x3 r) Tryz.f84 [1,1,1,0,0,1,1,1,1,1,1,1] [(1,bl x1),(2,il x2),(3,il x3),(4,.ptr (1,1) 0 0),(8,.ptr (1,2) 0 0),(11,.ptr (1,5) 0 0),(69,bl v1)] ([bx 1 (GDev.enc x0)]++GDev.bk GDev.z0 3++[bx 2 (GDev.rl GDev.z0 3)]++GDev.bk vb0 6++[bx 5 (GDev.rl vb0 6)]):=
 itK h (fun g1 h=>bnK h fun a2 ha2 h=>bnK h fun s0 hs0 h=>bnK h fun r0 hr0 h=>rtK h (gg g1 (xb encI ha2 (tp (.num (1:Int).toNat ((x0.fifo.length:Int):Int).toNat 0 (s0.map encI)) (ob (sln hs0).1 (ob (lenr encI x0.fifo) (ob (sll encI hs0) (ob (alr 1 Xv x0.fifo) (ob (slr encI hs0) (rr (Xf hr0) (kk 2 (oe encI vb0.regs (oe encI r0 ee))))))))))))) fun g1 h=>itK h (fun g2 h=>cutX (ffi 1 7) 3 (gg g1 (gg g2 (kk 6 (GDev.sc GDev.z0 (GDev.sc vb0 ee))))) (Zi5 h)) fun g2 h=>itK h (fun g3 h=>cutX (ffi 1 7) 3 (gg g1 (gg g2 (kk 2 (gg g3 (kk 3 (GDev.sc GDev.z0 (GDev.sc vb0 ee))))))) (Zi5 h)) fun g3 h=>cutX (ffi 1 7) 3 (gg g1 (gg g2 (kk 2 (gg g3 (kk 4 (GDev.sc GDev.z0 (GDev.sc vb0 ee))))))) (Zi5 h)
theorem Zi1 {x0:GDev} {x1:Bool} {x2:Int} {x3:Int} {r:GDev×Int×Bool} {vb0:GDev} {v2:Bool} (h:Zbe x0 x1 x2 x3 vb0 v2=some r):CS (Zfl x0 x1 x2 x3 r) Tryz.f84 [1,1,1,0,0,1,1,1,1,1] [(1,bl x1),(2,il x2),(3,il x3),(4,.ptr (1,1) 0 0),(8,.ptr (1,2) 0 0),(11,.ptr (1,5) 0 0),(51,bl v2)] ([bx 1 (GDev.enc x0)]++GDev.bk GDev.z0 3++[bx 2 (GDev.rl GDev.z0 3)]++GDev.bk vb0 6++[bx 5 (GDev.rl vb0 6)]):=
 itK h (fun g1 h=>bnK h fun z0 hz0 h=>rtK h (gg g1 (ta encI [x3] z0 (kk 3 (oa 1 Xv x3 (ox encI hz0 (oe encI z0 (oe encI vb0.regs (oe encI z0 ee))))))))) fun g1 h=>itK h (fun g2 h=>itK h (fun g3 h=>cutX (ffi 1 7) 3 (gg g1 (gg g2 (kk 2 (gg g3 (kk 2 (lr encI x0.fifo (kk 2 (GDev.sc GDev.z0 (GDev.sc vb0 ee))))))))) (Zix h)) fun g3 h=>cutX (ffi 1 7) 3 (gg g1 (gg g2 (kk 2 (gg g3 (kk 4 (GDev.sc GDev.z0 (GDev.sc vb0 ee))))))) (Zix h)) fun g2 h=>cutX (ffi 1 7) 3 (gg g1 (gg g2 (kk 7 (GDev.sc GDev.z0 (GDev.sc vb0 ee))))) (Zix h)
theorem Zpf {x0:GDev} {x1:Bool} {x2:Int} {x3:Int} {r:GDev×Int×Bool} {vb0:GDev} {v3:Bool} (h:Zew x0 x1 x2 x3 vb0 v3=some r):CS (Zfl x0 x1 x2 x3 r) Tryz.f84 [1,1,1,0,0,1] [(1,bl x1),(2,il x2),(3,il x3),(4,.ptr (1,1) 0 0),(8,.ptr (1,2) 0 0),(11,.ptr (1,5) 0 0),(32,bl v3)] ([bx 1 (GDev.enc x0)]++GDev.bk GDev.z0 3++[bx 2 (GDev.rl GDev.z0 3)]++GDev.bk vb0 6++[bx 5 (GDev.rl vb0 6)]):=
 itK h (fun g1 h=>rtK h (gg g1 (kk 2 (GDev.so vb0 ee)))) fun g1 h=>itK h (fun g2 h=>bnK h fun r1 hr1 h=>bnK h fun n0 hn0 h=>rtK h (gg g1 (gg g2 (rr (Zsh hr1) (tp (.obl) (kk 2 (ob (nz0 hn0) (GDev.so vb0 ee)))))))) fun g2 h=>itK h (fun g3 h=>itK h (fun g4 h=>cutX (ffi 1 7) 6 (gg g1 (gg g2 (gg g3 (kk 1 (gg g4 (kk 2 (lr encI x0.fifo (kk 2 (GDev.sc GDev.z0 (GDev.sc vb0 ee)))))))))) (Zi1 h)) fun g4 h=>cutX (ffi 1 7) 6 (gg g1 (gg g2 (gg g3 (kk 1 (gg g4 (kk 4 (GDev.sc GDev.z0 (GDev.sc vb0 ee)))))))) (Zi1 h)) fun g3 h=>cutX (ffi 1 7) 6 (gg g1 (gg g2 (gg g3 (kk 6 (GDev.sc GDev.z0 (GDev.sc vb0 ee)))))) (Zi1 h)
theorem Zi0 {x0:GDev} {x1:Bool} {x2:Int} {x3:Int} {r:GDev×Int×Bool} {vb0:GDev} {v4:Bool} (h:Qw x0 x1 x2 x3 vb0 v4=some r):CS (Zfl x0 x1 x2 x3 r) Tryz.f84 [1,1,0,1] [(1,bl x1),(2,il x2),(3,il x3),(4,.ptr (1,1) 0 0),(8,.ptr (1,2) 0 0),(11,.ptr (1,5) 0 0),(24,bl v4)] ([bx 1 (GDev.enc x0)]++GDev.bk GDev.z0 3++[bx 2 (GDev.rl GDev.z0 3)]++GDev.bk vb0 6++[bx 5 (GDev.rl vb0 6)]):=
 itK h (fun g1 h=>rtK h (gg g1 (kk 2 (GDev.so vb0 ee)))) fun g1 h=>itK h (fun g2 h=>cutX (ffi 1 7) 6 (gg g1 (gg g2 (kk 1 (GDev.sc GDev.z0 (GDev.sc vb0 ee))))) (Zpf h)) fun g2 h=>cutX (ffi 1 7) 6 (gg g1 (gg g2 (kk 1 (GDev.sc GDev.z0 (GDev.sc vb0 ee))))) (Zpf h)
theorem Z7j {x0:GDev} {x1:Bool} {x2:Int} {x3:Int} {r:GDev×Int×Bool} (h:Zml x0 x1 x2 x3=some r):Fine Tryz.prog Mo (Zfl x0 x1 x2 x3 r):=
 Zd Tryz.func84 (bnK h fun r2 hr2 h=>bnK h fun r3 hr3 h=>have p1 {q p} (k:Scr q p):=(rr (Zu0 hr2) (rr (Zw6 hr3) k));itK h (fun g1 h=>cutX ([((1,1),(1,0)),((1,2),(1,1024)),((1,5),(2,2048))]++GDev.ff 6 2 1024) 7 (p1 (gg g1 (kk 3 (GDev.sc r2 ee)))) (Zi0 h)) fun g1 h=>itK h (fun g2 h=>bnK h fun r4 hr4 h=>cutX ([((1,1),(1,0)),((1,2),(1,1024)),((1,5),(2,2048))]++GDev.ff 6 2 1024) 7 (p1 (gg g1 (kk 1 (gg g2 (kk 1 (rr (Zij hr4) (kk 4 (GDev.sc r2 ee)))))))) (Zi0 h)) fun g2 h=>cutX ([((1,1),(1,0)),((1,2),(1,1024)),((1,5),(2,2048))]++GDev.ff 6 2 1024) 7 (p1 (gg g1 (kk 1 (gg g2 (kk 5 (GDev.sc r2 ee)))))) (Zi0 h))
abbrev Zov (x0:List Int) (x1:Int) (x2:Int) (x3:Int) (r:List Int×Bool):Y:=(85,[.tr (x0.map encI),il x1,il x2,il x3],.tup [.own 3 (r.1.map encI),bl r.2],[.undef,.undef,.undef,.undef])
theorem Zv7 {x0:List Int} {x1:Int} {x2:Int} {x3:Int} {r:List Int×Bool}:∀{m:Nat} {v0:List Int} {v1:Int} {v2:Int},Zdt x0 x1 x2 x3 m v0 v1 v2=some r→CS (Zov x0 x1 x2 x3 r) Tryz.f85 [1,1,1,0,1,0] [(1,il x1),(3,il x3),(10,.sl (1,1) 0 (v0.map encI).length),(27,il v1),(28,il v2)] [rx 1 3 (v0.map encI)]:=by
 intro m
 induction m with
 | zero=>intro v0 v1 v2 h;cases h
 | succ m ih=>exact fun {v0} {v1} {v2} h=>itK h (fun g1 h=>bnK h fun n0 hn0 h=>bnK h fun a0 ha0 h=>bnK h fun y0 hy0 h=>cutX [((1,1),(1,1))] 13 (gg g1 (tp (.obl) (ob (nn0 hn0) (xp encI ha0 hy0 (tp (.num (y0.map encI).length 0 0 []) (ob (setl encI hy0) ee)))))) (ih h)) fun g1 h=>rtK h (gg g1 (kk 1 (oe encI v0 ee)))
theorem Znc {x0:List Int} {x1:Int} {x2:Int} {x3:Int} {r:List Int×Bool} {v0:List Int} {v3:Bool} (h:Zdp x0 x1 x2 x3 v0 v3=some r):CS (Zov x0 x1 x2 x3 r) Tryz.f85 [1,1,0,1] [(1,il x1),(2,il x2),(3,il x3),(10,.sl (1,1) 0 (v0.map encI).length),(24,bl v3)] [rx 1 3 (v0.map encI)]:=
 itK h (fun g1 h=>rtK h (gg g1 (kk 1 (oe encI v0 ee)))) fun g1 h=>bnK h fun r0 hr0 h=>cutX [((1,1),(1,1))] 6 (gg g1 (rr (Jl hr0) (ln encI v0 ee))) (Zv7 h)
theorem Z4d {x0:List Int} {x1:Int} {x2:Int} {x3:Int} {r:List Int×Bool} (h:Zje x0 x1 x2 x3=some r):Fine Tryz.prog Mo (Zov x0 x1 x2 x3 r):=
 Zd Tryz.func85 (bnK h fun r1 hr1 h=>bnK h fun r2 hr2 h=>itK h (fun g1 h=>cutX [((1,1),(2,1024))] 7 (rr (Xf hr1) (rr (Zg0 hr2) (gg g1 (kk 4 (ln encI r1 ee))))) (Znc h)) fun g1 h=>bnK h fun r3 hr3 h=>cutX [((1,1),(2,1024))] 7 (rr (Xf hr1) (rr (Zg0 hr2) (gg g1 (kk 2 (rr (Zij hr3) (kk 2 (ln encI r1 ee))))))) (Znc h))
abbrev Zto (x0:List Int) (x1:Int) (x2:Int) (r:Int×Bool):Y:=(86,[.tr (x0.map encI),il x1,il x2],.tup [il r.1,bl r.2],[.undef,.undef,.undef])
theorem Zvg {x0:List Int} {x1:Int} {x2:Int} {r:Int×Bool}:∀{m:Nat} {v0:Int} {v1:Int} {v2:Int},Zd4 x0 x1 x2 m v0 v1 v2=some r→CS (Zto x0 x1 x2 r) Tryz.f86 [1,1,1,0,1,0] [(0,.tr (x0.map encI)),(1,il x1),(8,il v0),(16,il v1),(17,il v2)] []:=by
 intro m
 induction m with
 | zero=>intro v0 v1 v2 h;cases h
 | succ m ih=>exact fun {v0} {v1} {v2} h=>itK h (fun g1 h=>bnK h fun a0 ha0 h=>bnK h fun n0 hn0 h=>cutX [] 13 (gg g1 (xb encI ha0 (tp (.obl) (ob (nn0 hn0) ee)))) (ih h)) fun g1 h=>rtK h (gg g1 ee)
theorem Z4a {x0:List Int} {x1:Int} {x2:Int} {r:Int×Bool} (h:Zj5 x0 x1 x2=some r):Fine Tryz.prog Mo (Zto x0 x1 x2 r):=
 Zd Tryz.func86 (bnK h fun r0 hr0 h=>itK h (fun g1 h=>rtK h (rr (Zg0 hr0) (gg g1 ee))) fun g1 h=>bnK h fun r1 hr1 h=>cutX [] 13 (rr (Zg0 hr0) (gg g1 (rr (Jl hr1) ee))) (Zvg h))
abbrev Zem (x0:GModel) (x1:Bool) (x2:Int) (x3:Int) (x4:Int) (r:GModel×Int×Int):Y:=(35,[.agg (GModel.enc x0),bl x1,il x2,il x3,il x4],.tup [.agg (GModel.ow r.1),il r.2.1,il r.2.2],[.undef,.undef,.undef,.undef,.undef])
theorem Zb5 {x0:GModel} {x1:Bool} {x2:Int} {x3:Int} {x4:Int} {r:GModel×Int×Int} {vb0:GModel} {v0:Int} {v1:Bool} (h:Qt x0 x1 x2 x3 x4 vb0 v0 v1=some r):CS (Zem x0 x1 x2 x3 x4 r) Tryz.f35 [1,1,1,1,1] [(4,il v0),(5,.ptr (1,1) 0 0),(10,.ptr (1,2) 0 0),(13,.ptr (1,6) 0 0),(14,bl v1)] ([bx 1 (GModel.enc x0)]++GModel.bk GModel.z0 3++[bx 2 (GModel.rl GModel.z0 3)]++GModel.bk vb0 7++[bx 6 (GModel.rl vb0 7)]):=
 itK h (fun g1 h=>bnK h fun r0 hr0 h=>rtK h (gg g1 (rr (Zp9 hr0) (kk 3 (GModel.so r0 ee))))) fun g1 h=>rtK h (gg g1 (kk 3 (GModel.so vb0 ee)))
theorem Zmj {x0:GModel} {x1:Bool} {x2:Int} {x3:Int} {x4:Int} {r:GModel×Int×Int} {vb0:GModel} {v2:Bool} (h:Zb6 x0 x1 x2 x3 x4 vb0 v2=some r):CS (Zem x0 x1 x2 x3 x4 r) Tryz.f35 [1,1,1,1,0,1,0,1,1,1] [(1,bl x1),(2,il x2),(3,il x3),(4,il x4),(5,.ptr (1,1) 0 0),(10,.ptr (1,2) 0 0),(13,.ptr (1,6) 0 0),(14,bl false),(58,bl v2)] ([bx 1 (GModel.enc x0)]++GModel.bk GModel.z0 3++[bx 2 (GModel.rl GModel.z0 3)]++GModel.bk vb0 7++[bx 6 (GModel.rl vb0 7)]):=
 itK h (fun g1 h=>itK h (fun g2 h=>bnK h fun r1 hr1 h=>cutX (ffi 1 6++[((1,7),(3,5120)),((1,8),(1,8)),((1,9),(1,9))]) 6 (gg g1 (gg g2 (rr (Z4d hr1) (GModel.sc GModel.z0 (GModel.sc (GModel.mk r1.1 vb0.dev) ee))))) (Zb5 h)) fun g2 h=>bnK h fun r2 hr2 h=>cutX (ffi 1 9) 6 (gg g1 (gg g2 (rr (Z4a hr2) (GModel.sc GModel.z0 (GModel.sc vb0 ee))))) (Zb5 h)) fun g1 h=>cutX (ffi 1 9) 3 (gg g1 (GModel.sc GModel.z0 (GModel.sc vb0 ee))) (Zb5 h)
theorem Zlu {x0:GModel} {x1:Bool} {x2:Int} {x3:Int} {x4:Int} {r:GModel×Int×Int} {vb0:GModel} {v3:Int} {v4:Bool} (h:Zbz x0 x1 x2 x3 x4 vb0 v3 v4=some r):CS (Zem x0 x1 x2 x3 x4 r) Tryz.f35 [1,1,1,1,0,1,0,1] [(1,bl x1),(2,il x2),(3,il x3),(4,il x4),(5,.ptr (1,1) 0 0),(10,.ptr (1,2) 0 0),(13,.ptr (1,6) 0 0),(14,bl false),(15,il v3),(39,bl v4)] ([bx 1 (GModel.enc x0)]++GModel.bk GModel.z0 3++[bx 2 (GModel.rl GModel.z0 3)]++GModel.bk vb0 7++[bx 6 (GModel.rl vb0 7)]):=
 itK h (fun g1 h=>bnK h fun r3 hr3 h=>cutX (ffi 1 7++[((1,8),(2,6144)),((1,9),(2,6146))]) 3 (gg g1 (rr (Z7j hr3) (GModel.sc GModel.z0 (GModel.sc (GModel.mk vb0.mem r3.1) ee)))) (Zb5 h)) fun g1 h=>itK h (fun g2 h=>cutX (ffi 1 9) 3 (gg g1 (gg g2 (kk 2 (GModel.sc GModel.z0 (GModel.sc vb0 ee))))) (Zmj h)) fun g2 h=>cutX (ffi 1 9) 3 (gg g1 (gg g2 (kk 2 (GModel.sc GModel.z0 (GModel.sc vb0 ee))))) (Zmj h)
theorem Zb9 {x0:GModel} {x1:Bool} {x2:Int} {x3:Int} {x4:Int} {r:GModel×Int×Int} {vb0:GModel} {v5:Bool} (h:Xj x0 x1 x2 x3 x4 vb0 v5=some r):CS (Zem x0 x1 x2 x3 x4 r) Tryz.f35 [1,1,0,1] [(1,bl x1),(2,il x2),(3,il x3),(4,il x4),(5,.ptr (1,1) 0 0),(10,.ptr (1,2) 0 0),(13,.ptr (1,6) 0 0),(35,bl v5)] ([bx 1 (GModel.enc x0)]++GModel.bk GModel.z0 3++[bx 2 (GModel.rl GModel.z0 3)]++GModel.bk vb0 7++[bx 6 (GModel.rl vb0 7)]):=
 itK h (fun g1 h=>rtK h (gg g1 (kk 3 (GModel.so vb0 ee)))) fun g1 h=>bnK h fun r4 hr4 h=>itK h (fun g2 h=>cutX (ffi 1 9) 10 (gg g1 (rr (Zrk hr4) (gg g2 (kk 2 (GModel.sc GModel.z0 (GModel.sc vb0 ee)))))) (Zlu h)) fun g2 h=>cutX (ffi 1 9) 10 (gg g1 (rr (Zrk hr4) (gg g2 (kk 2 (GModel.sc GModel.z0 (GModel.sc vb0 ee)))))) (Zlu h)
theorem Z1r {x0:GModel} {x1:Bool} {x2:Int} {x3:Int} {x4:Int} {r:GModel×Int×Int} (h:Zhw x0 x1 x2 x3 x4=some r):Fine Tryz.prog Mo (Zem x0 x1 x2 x3 x4 r):=
 Zd Tryz.func35 (bnK h fun r5 hr5 h=>bnK h fun r6 hr6 h=>have p1 {q p} (k:Scr q p):=(rr (Zp9 hr5) (rr (Z2a hr6) k));itK h (fun g1 h=>cutX ([((1,1),(1,0)),((1,2),(1,1024)),((1,6),(2,2048))]++GModel.ff 7 2 1024) 7 (p1 (gg g1 (kk 8 (GModel.sc r5 ee)))) (Zb9 h)) fun g1 h=>bnK h fun r7 hr7 h=>have p2 {q p} (k:Scr q p):=(p1 (gg g1 (kk 2 (rr (Zmu hr7) (kk 2 k)))));itK h (fun g2 h=>cutX ([((1,1),(1,0)),((1,2),(1,1024)),((1,6),(2,2048))]++GModel.ff 7 2 1024) 7 (p2 (gg g2 (kk 3 (GModel.sc r5 ee)))) (Zb9 h)) fun g2 h=>itK h (fun g3 h=>bnK h fun r8 hr8 h=>cutX ([((1,1),(1,0)),((1,2),(1,1024)),((1,6),(2,2048))]++GModel.ff 7 2 1024) 7 (p2 (gg g2 (kk 1 (gg g3 (kk 2 (rr (Zij hr8) (kk 4 (GModel.sc r5 ee)))))))) (Zb9 h)) fun g3 h=>cutX ([((1,1),(1,0)),((1,2),(1,1024)),((1,6),(2,2048))]++GModel.ff 7 2 1024) 7 (p2 (gg g2 (kk 1 (gg g3 (kk 6 (GModel.sc r5 ee)))))) (Zb9 h))
abbrev Zuf (x0:List GDone) (r:GModel×Int):Y:=(8,[.tr (x0.map GDone.enc)],.tup [.agg (GModel.ow r.1),il r.2],[.undef])
theorem Zv1 {x0:List GDone} {r:GModel×Int}:∀{m:Nat} {vb0:GModel} {v0:Int},Zaa x0 m vb0 v0=some r→CS (Zuf x0 r) Tryz.f8 [1,1,0,1,0] [(2,.ptr (1,1) 0 0),(4,.ptr (1,5) 0 0),(11,.tr (x0.map GDone.enc)),(12,il (x0.length:Int)),(13,il v0)] (GModel.bk GModel.z0 2++[bx 1 (GModel.rl GModel.z0 2)]++GModel.bk vb0 6++[bx 5 (GModel.rl vb0 6)]):=by
 intro m
 induction m with
 | zero=>intro vb0 v0 h;cases h
 | succ m ih=>exact fun {vb0} {v0} h=>itK h (fun g1 h=>bnK h fun a0 ha0 h=>have p1 {q p} (k:Scr q p):=(gg g1 (xb GDone.enc ha0 k));itK h (fun g2 h=>cutX (ffi 1 8) 18 (p1 (gg g2 (GModel.sc GModel.z0 (GModel.sc vb0 ee)))) (ih h)) fun g2 h=>bnK h fun r0 hr0 h=>have p2 {q p} (k:Scr q p):=(p1 (gg g2 (kk 3 (GModel.so vb0 (rr (Z1r hr0) k)))));itK h (fun g3 h=>rtK h (p2 (gg g3 (kk 8 (GModel.so vb0 ee))))) fun g3 h=>itK h (fun g4 h=>rtK h (p2 (gg g3 (kk 4 (gg g4 (kk 3 (GModel.so vb0 ee))))))) fun g4 h=>cutX (ffi 1 5++GModel.ff 6 5 9216) 25 (p2 (gg g3 (kk 4 (gg g4 (GModel.sc GModel.z0 (GModel.sc r0.1 ee)))))) (ih h)) fun g1 h=>rtK h (gg g1 (kk 3 (GModel.so vb0 ee)))
theorem Z5g {x0:List GDone} {r:GModel×Int} (h:Zjk x0=some r):Fine Tryz.prog Mo (Zuf x0 r):=
 Zd Tryz.func8 (bnK h fun r1 hr1 h=>cutX ([((1,1),(1,0)),((1,5),(2,1024))]++GModel.ff 6 2 0) 8 (rr (Zym hr1) (lr GDone.enc x0 (GModel.sc r1 ee))) (Zv1 h))
abbrev Zjp (x0:List GDone) (r:GModel×Int):Y:=(9,[.tr (x0.map GDone.enc)],.tup [.agg (GModel.ow r.1),il r.2],[.undef])
theorem Znn {x0:List GDone} {r:GModel×Int} {k_L1:GModel→Int→Option (GModel×Int)} (i_L1:∀{vb0:GModel} {v0:Int},k_L1 vb0 v0=some r→CS (Zjp x0 r) Tryz.f9 [1,1,0,1,0] [(0,.tr (x0.map GDone.enc)),(2,.ptr (1,1) 0 0),(4,.ptr (1,5) 0 0),(5,il v0)] (GModel.bk GModel.z0 2++[bx 1 (GModel.rl GModel.z0 2)]++GModel.bk vb0 6++[bx 5 (GModel.rl vb0 6)])) {vb0:GModel} {vb1:GModel} {v0:Int} {v1:Bool} (h:Zdq x0 k_L1 vb0 vb1 v0 v1=some r):CS (Zjp x0 r) Tryz.f9 [1,1,0,1,0,0,1,0,0,1,1,0,1] [(0,.tr (x0.map GDone.enc)),(2,.ptr (1,1) 0 0),(4,.ptr (1,5) 0 0),(5,il v0),(6,.ptr (1,9) 0 0),(63,bl v1)] (GModel.bk GModel.z0 2++[bx 1 (GModel.rl GModel.z0 2)]++GModel.bk vb0 6++[bx 5 (GModel.rl vb0 6)]++GModel.bk vb1 10++[bx 9 (GModel.rl vb1 10)]):=
 itK h (fun g1 h=>rtK h (gg g1 (kk 3 (GModel.so vb0 ee)))) fun g1 h=>cutX (ffi 1 5++[((1,6),(1,10)),((1,7),(1,11)),((1,8),(1,12))]) 5 (gg g1 (GModel.sc GModel.z0 (GModel.sc vb1 ee))) (i_L1 h)
theorem Zvs {x0:List GDone} {r:GModel×Int}:∀{m:Nat} {vb0:GModel} {v0:Int},Jz x0 m vb0 v0=some r→CS (Zjp x0 r) Tryz.f9 [1,1,0,1,0] [(0,.tr (x0.map GDone.enc)),(2,.ptr (1,1) 0 0),(4,.ptr (1,5) 0 0),(5,il v0)] (GModel.bk GModel.z0 2++[bx 1 (GModel.rl GModel.z0 2)]++GModel.bk vb0 6++[bx 5 (GModel.rl vb0 6)]):=by
 intro m
 induction m with
 | zero=>intro vb0 v0 h;cases h
 | succ m ih=>exact fun {vb0} {v0} h=>itK h (fun g1 h=>bnK h fun a0 ha0 h=>have p1 {q p} (k:Scr q p):=(lr GDone.enc x0 (gg g1 (xb GDone.enc ha0 k)));itK h (fun g2 h=>cutX (ffi 1 8) 16 (p1 (gg g2 (GModel.sc GModel.z0 (GModel.sc vb0 ee)))) (ih h)) fun g2 h=>bnK h fun r0 hr0 h=>have p2 {q p} (k:Scr q p):=(p1 (gg g2 (xb GDone.enc ha0 (xb GDone.enc ha0 (xb GDone.enc ha0 (xb GDone.enc ha0 (kk 3 (GModel.so vb0 (rr (Zm6 hr0) (xb GDone.enc ha0 k))))))))));itK h (fun g3 h=>cutX (ffi 1 8++[((1,9),(4,26624))]++GModel.ff 10 4 21504) 18 (p2 (gg g3 (kk 7 (GModel.sc GModel.z0 (GModel.sc vb0 (GModel.sc r0.1 ee)))))) (Znn ih h)) fun g3 h=>cutX (ffi 1 8++[((1,9),(4,26624))]++GModel.ff 10 4 21504) 18 (p2 (gg g3 (kk 3 (xb GDone.enc ha0 (kk 4 (GModel.sc GModel.z0 (GModel.sc vb0 (GModel.sc r0.1 ee)))))))) (Znn ih h)) fun g1 h=>rtK h (lr GDone.enc x0 (gg g1 (kk 3 (GModel.so vb0 ee))))
theorem Z6b {x0:List GDone} {r:GModel×Int} (h:Zja x0=some r):Fine Tryz.prog Mo (Zjp x0 r):=
 Zd Tryz.func9 (bnK h fun r1 hr1 h=>cutX ([((1,1),(1,0)),((1,5),(2,1024))]++GModel.ff 6 2 0) 8 (rr (Zqi hr1) (GModel.sc r1 ee)) (Zvs h))
abbrev Zte (x0:List Int) (x1:List Int) (r:Bool):Y:=(38,[.tr (x0.map encI),.tr (x1.map encI)],bl r,[.undef,.undef])
theorem Zvp {x0:List Int} {x1:List Int} {r:Bool}:∀{m:Nat} {v0:Int},Zdi x0 x1 m v0=some r→CS (Zte x0 x1 r) Tryz.f38 [1,1,0,1,0] [(0,.tr (x0.map encI)),(1,.tr (x1.map encI)),(5,il v0)] []:=by
 intro m
 induction m with
 | zero=>intro v0 h;cases h
 | succ m ih=>exact fun {v0} h=>itK h (fun g1 h=>bnK h fun a0 ha0 h=>bnK h fun a1 ha1 h=>itK h (fun g2 h=>rtK h (lr encI x0 (gg g1 (xb encI ha0 (xb encI ha1 (gg g2 ee)))))) fun g2 h=>cutX [] 14 (lr encI x0 (gg g1 (xb encI ha0 (xb encI ha1 (gg g2 ee))))) (ih h)) fun g1 h=>rtK h (lr encI x0 (gg g1 ee))
theorem Zd2 {x0:List Int} {x1:List Int} {r:Bool} (h:Zd7 x0 x1=some r):Fine Tryz.prog Mo (Zte x0 x1 r):=
 Zd Tryz.func38 (itK h (fun g1 h=>rtK h (lr encI x0 (lr encI x1 (gg g1 ee)))) fun g1 h=>cutX [] 11 (lr encI x0 (lr encI x1 (gg g1 ee))) (Zvp h))
abbrev Z02 (x0:GDev) (x1:GDev) (r:Bool):Y:=(39,[.agg (GDev.enc x0),.agg (GDev.enc x1)],bl r,[.undef,.undef])
theorem Z18 {x0:GDev} {x1:GDev} {r:Bool} (h:Zm7 x0 x1=some r):Fine Tryz.prog Mo (Z02 x0 x1 r):=
 Zd Tryz.func39 (bnK h fun r0 hr0 h=>itK h (fun g1 h=>itK h (fun g2 h=>bnK h fun r1 hr1 h=>rtK h (rr (Zd2 hr0) (gg g1 (kk 5 (gg g2 (kk 4 (rr (Zd2 hr1) (kk 1 ee)))))))) fun g2 h=>rtK h (rr (Zd2 hr0) (gg g1 (kk 5 (gg g2 (kk 5 ee)))))) fun g1 h=>rtK h (rr (Zd2 hr0) (gg g1 (kk 11 ee))))
abbrev Zx4 (x0:GModel) (x1:GModel) (r:Bool):Y:=(10,[.agg (GModel.enc x0),.agg (GModel.enc x1)],bl r,[.undef,.undef])
theorem Zxx {x0:GModel} {x1:GModel} {r:Bool} (h:Ze2 x0 x1=some r):Fine Tryz.prog Mo (Zx4 x0 x1 r):=
 Zd Tryz.func10 (bnK h fun r0 hr0 h=>itK h (fun g1 h=>bnK h fun r1 hr1 h=>rtK h (rr (Zd2 hr0) (gg g1 (kk 4 (rr (Z18 hr1) (kk 1 ee)))))) fun g1 h=>rtK h (rr (Zd2 hr0) (gg g1 (kk 5 ee))))
abbrev Zc8 (x0:List GDone) (r:List GDone):Y:=(41,[.tr (x0.map GDone.enc)],.own 56 (r.map GDone.enc),[.undef])
theorem Zkx {x0:List GDone} {r:List GDone} (h:Wm x0=some r):Fine Tryz.prog Mo (Zc8 x0 r):=by
 refine Zd Tryz.func41 ?_
 unfold Wm at h
 cases x0 with
 | nil=>
  obtain rfl:[]=r:=(Z0p h)
  have hn:CS (Zc8 [] []) Tryz.f41 [1,0,0] [(0,.tr [])] []:=Zzz Mo fOk (k:=at_ [1,0,1] (Zp6 Tryz.f41) []) (x0:=.tmp 0) (d0:=3) (d1:=4) (t:=24) (e:=56) (y:=.const (.slice none 0 0)) (by kernel_rfl) (by kernel_rfl) rfl rfl fun b=>by
   cases b with
   | true=>exact rtQ rfl [.k] tt
   | false=>exact rtQ rfl [.k,.app [] true [] 0,.k] (aa (Eq.refl ([]:List (List V))) (aa (Eq.refl true) (aa (Eq.refl true) (aa (Eq.refl 0) (aa (apz 56) (aa (Eq.refl ([]:List (List V))) (aa (Eq.refl 0) (aa (Eq.refl 0) tt))))))))
  exact cutQ [] 4 [] tt hn
 | cons a l=>
  exact rtQ rfl [.k,.app ((a::l).map GDone.enc) true (r.map GDone.enc) (r.map GDone.enc).length,.k] (aa (List.cons_ne_nil (GDone.enc a) (l.map GDone.enc)) (aa (Eq.refl ((a::l).map GDone.enc)) (aa (ltr GDone.enc_lit (a::l)) (aa (alr 7 GDone.enc_len (a::l)) (aa (Eq.refl 0) (aa (apl GDone.enc h) (aa (apm0 GDone.enc h) (aa (lene GDone.enc r) (aa (lene GDone.enc r) tt)))))))))
abbrev Z0k (x0:GDone) (x1:Int) (r:Bool):Y:=(42,[.agg (GDone.enc x0),.rp true [il x1] 0],bl r,[.undef,.undef])
theorem Zkz {x0:GDone} {x1:Int} {r:Bool} (h:Zc2 x0 x1=some r):Fine Tryz.prog Mo (Z0k x0 x1 r):=
 Zd Tryz.func42 (rtK h ee)
abbrev Wr (x0:List GDone) (x1c0:Int) (r:Int):Y:=(97,[.tr (x0.map GDone.enc),.fn 42 [.rp true [il x1c0] 0]],il r,[.undef,.undef])
theorem Jp {x0:List GDone} {x1c0:Int} {r:Int}:∀{m:Nat} {v0:Int},Z5 x0 x1c0 m v0=some r→CS (Wr x0 x1c0 r) Tryz.f97 [1,0,1,0] [(0,.tr (x0.map GDone.enc)),(1,.fn 42 [.rp true [il x1c0] 0]),(7,il (x0.length:Int)),(8,il v0)] []:=by
 intro m
 induction m with
 | zero=>intro v0 h;cases h
 | succ m ih=>exact fun {v0} h=>itK h (fun g1 h=>bnK h fun a0 ha0 h=>bnK h fun r0 hr0 h=>itK h (fun g2 h=>rtK h (gg g1 (xb GDone.enc ha0 (rr (Zkz hr0) (gg g2 ee))))) fun g2 h=>cutX [] 16 (gg g1 (xb GDone.enc ha0 (rr (Zkz hr0) (gg g2 ee)))) (ih h)) fun g1 h=>rtK h (gg g1 ee)
theorem Za1 {x0:List GDone} {x1c0:Int} {r:Int} (h:Y9 x0 x1c0=some r):Fine Tryz.prog Mo (Wr x0 x1c0 r):=
 Zd Tryz.func97 (cutX [] 6 (lr GDone.enc x0 ee) (Jp h))
abbrev Wg (x0:List GDone) (x1c0:Int) (r:List GDone):Y:=(40,[.own 56 (x0.map GDone.enc),.fn 42 [.rp true [il x1c0] 0]],.own 56 (r.map GDone.enc),[.undef,.undef])
theorem K2 {x0:List GDone} {x1c0:Int} {r:List GDone}:∀{m:Nat} {v0:List GDone} {v1:Int} {v2:Int},Z2 x0 x1c0 m v0 v1 v2=some r→CS (Wg x0 x1c0 r) Tryz.f40 [1,1,1,0,1,0] [(0,.sl (1,1) 0 (v0.map GDone.enc).length),(1,.fn 42 [.rp true [il x1c0] 0]),(5,il v1),(6,il v2)] [rx 1 56 (v0.map GDone.enc)]:=by
 intro m
 induction m with
 | zero=>intro v0 v1 v2 h;cases h
 | succ m ih=>exact fun {v0} {v1} {v2} h=>itK h (fun g1 h=>bnK h fun a0 ha0 h=>bnK h fun r0 hr0 h=>have p1 {q p} (k:Scr q p):=(lr GDone.enc v0 (gg g1 (xd GDone.enc ha0 (rr (Zkz hr0) k))));itK h (fun g2 h=>bnK h fun a1 ha1 h=>bnK h fun y0 hy0 h=>cutX [((1,1),(1,1))] 18 (p1 (gg g2 (xp GDone.enc ha1 hy0 (tp (.num (y0.map GDone.enc).length 0 0 []) (ob (setl GDone.enc hy0) ee))))) (ih h)) fun g2 h=>cutX [((1,1),(1,1))] 16 (p1 (gg g2 (ln GDone.enc v0 ee))) (ih h)) fun g1 h=>bnK h fun s0 hs0 h=>bnK h fun y1 hy1 h=>bnK h fun s1 hs1 h=>rtK h (lr GDone.enc v0 (gg g1 (tp (.num (v1:Int).toNat ((v0.length:Int):Int).toNat (((v0.length:Int):Int).toNat - (v1:Int).toNat) []) (kk 1 (tp (.app (y1.map GDone.enc) true [] 0) (tp (.num (0:Int).toNat (v1:Int).toNat ((v1:Int).toNat - (0:Int).toNat) []) (kk 1 (tp (.mk 0 (s1.map GDone.enc)) (oe GDone.enc v0 (ob (sln hs0).1 (ob (lenr GDone.enc v0) (ob (sll GDone.enc hs0) (ob (alr 7 GDone.enc_len v0) (ob (Eq.refl (((v0.length:Int):Int).toNat - (v1:Int).toNat)) (ob (clrl GDone.enc hy1) (ob (clrr GDone.enc hy1) (ob (clrs GDone.enc hy1) (ob (Eq.refl 0) (ob (sln hs1).2 (ob (sll GDone.enc hs1) (ob (alr 7 GDone.enc_len y1) (ob (Eq.refl ((v1:Int).toNat - (0:Int).toNat)) (ob (sla GDone.enc hs1) (ob (slr GDone.enc hs1) ee))))))))))))))))))))))))
theorem Zad {x0:List GDone} {x1c0:Int} {r:List GDone} (h:Y4 x0 x1c0=some r):Fine Tryz.prog Mo (Wg x0 x1c0 r):=
 Zd Tryz.func40 (bnK h fun r1 hr1 h=>have p1 {q p} (k:Scr q p):=(kk 1 (oe GDone.enc x0 (rr (Za1 hr1) k)));itK h (fun g1 h=>rtK h (p1 (gg g1 (kk 1 (oe GDone.enc x0 ee))))) fun g1 h=>cutX [((1,1),(0,0))] 13 (p1 (gg g1 (ln GDone.enc x0 ee))) (K2 h))
abbrev Z6f (x0:List GDone) (x1:Int) (r:List GDone):Y:=(11,[.tr (x0.map GDone.enc),il x1],.own 56 (r.map GDone.enc),[.undef,.undef])
theorem Z5t {x0:List GDone} {x1:Int} {r:List GDone} (h:Zjt x0 x1=some r):Fine Tryz.prog Mo (Z6f x0 x1 r):=
 Zd Tryz.func11 (bnK h fun r0 hr0 h=>bnK h fun r1 hr1 h=>rtK h (rr (Zkx hr0) (kk 1 (oe GDone.enc r0 (rr (Zad hr1) (kk 1 (oe GDone.enc r1 ee)))))))
abbrev Zs7 (x0:List GDone) (x1:Int) (x2:Int) (x3:Int) (r:Int):Y:=(12,[.tr (x0.map GDone.enc),il x1,il x2,il x3],il r,[.undef,.undef,.undef,.undef])
theorem Zvn {x0:List GDone} {x1:Int} {x2:Int} {x3:Int} {r:Int}:∀{m:Nat} {v0:Int} {v1:Int},Zd0 x0 x1 x2 x3 m v0 v1=some r→CS (Zs7 x0 x1 x2 x3 r) Tryz.f12 [1,1,0,1,0] [(1,il x1),(2,il x2),(3,il x3),(9,il v0),(12,.tr (x0.map GDone.enc)),(13,il (x0.length:Int)),(14,il v1)] []:=by
 intro m
 induction m with
 | zero=>intro v0 v1 h;cases h
 | succ m ih=>exact fun {v0} {v1} h=>itK h (fun g1 h=>bnK h fun a0 ha0 h=>have p1 {q p} (k:Scr q p):=(gg g1 (xb GDone.enc ha0 k));itK h (fun g2 h=>itK h (fun g3 h=>itK h (fun g4 h=>cutX [] 16 (p1 (gg g2 (kk 4 (gg g3 (kk 4 (gg g4 ee)))))) (ih h)) fun g4 h=>cutX [] 16 (p1 (gg g2 (kk 4 (gg g3 (kk 4 (gg g4 ee)))))) (ih h)) fun g3 h=>cutX [] 16 (p1 (gg g2 (kk 4 (gg g3 (kk 5 ee))))) (ih h)) fun g2 h=>cutX [] 16 (p1 (gg g2 (kk 10 ee))) (ih h)) fun g1 h=>rtK h (gg g1 ee)
theorem Zu2 {x0:List GDone} {x1:Int} {x2:Int} {x3:Int} {r:Int} (h:Zf7 x0 x1 x2 x3=some r):Fine Tryz.prog Mo (Zs7 x0 x1 x2 x3 r):=
 Zd Tryz.func12 (cutX [] 8 (lr GDone.enc x0 ee) (Zvn h))
abbrev Ztl (x0:List GDone) (x1:Int) (x2:Int) (x3:Int) (r:Int):Y:=(13,[.tr (x0.map GDone.enc),il x1,il x2,il x3],il r,[.undef,.undef,.undef,.undef])
theorem Zvi {x0:List GDone} {x1:Int} {x2:Int} {x3:Int} {r:Int}:∀{m:Nat} {v0:Int} {v1:Int},Zd3 x0 x1 x2 x3 m v0 v1=some r→CS (Ztl x0 x1 x2 x3 r) Tryz.f13 [1,1,0,1,0] [(0,.tr (x0.map GDone.enc)),(1,il x1),(2,il x2),(3,il x3),(9,il v0),(10,il v1)] []:=by
 intro m
 induction m with
 | zero=>intro v0 v1 h;cases h
 | succ m ih=>exact fun {v0} {v1} h=>itK h (fun g1 h=>bnK h fun a0 ha0 h=>have p1 {q p} (k:Scr q p):=(lr GDone.enc x0 (gg g1 (xb GDone.enc ha0 k)));itK h (fun g2 h=>have p2 {q p} (k:Scr q p):=(p1 (gg g2 (kk 2 (xb GDone.enc ha0 (kk 5 k)))));itK h (fun g3 h=>itK h (fun g4 h=>cutX [] 14 (p2 (gg g3 (kk 2 (xb GDone.enc ha0 (kk 5 (gg g4 ee)))))) (ih h)) fun g4 h=>cutX [] 14 (p2 (gg g3 (kk 2 (xb GDone.enc ha0 (kk 5 (gg g4 ee)))))) (ih h)) fun g3 h=>cutX [] 14 (p2 (gg g3 (kk 8 ee))) (ih h)) fun g2 h=>cutX [] 14 (p1 (gg g2 (kk 16 ee))) (ih h)) fun g1 h=>rtK h (lr GDone.enc x0 (gg g1 ee))
theorem Z4s {x0:List GDone} {x1:Int} {x2:Int} {x3:Int} {r:Int} (h:Zju x0 x1 x2 x3=some r):Fine Tryz.prog Mo (Ztl x0 x1 x2 x3 r):=
 Zd Tryz.func13 (cutX [] 8 ee (Zvi h))
abbrev Zpk (x0:List GDone) (x1:Int) (r:Int):Y:=(14,[.tr (x0.map GDone.enc),il x1],il r,[.undef,.undef])
theorem Zrh {x0:List GDone} {x1:Int} {r:Int}:∀{m:Nat} {v0:Int} {v1:Int},Qy x0 x1 m v0 v1=some r→CS (Zpk x0 x1 r) Tryz.f14 [1,1,0,1,0] [(1,il x1),(5,il v0),(8,.tr (x0.map GDone.enc)),(9,il (x0.length:Int)),(10,il v1)] []:=by
 intro m
 induction m with
 | zero=>intro v0 v1 h;cases h
 | succ m ih=>exact fun {v0} {v1} h=>itK h (fun g1 h=>bnK h fun a0 ha0 h=>itK h (fun g2 h=>cutX [] 16 (gg g1 (xb GDone.enc ha0 (gg g2 ee))) (ih h)) fun g2 h=>cutX [] 16 (gg g1 (xb GDone.enc ha0 (gg g2 ee))) (ih h)) fun g1 h=>rtK h (gg g1 ee)
theorem Zxm {x0:List GDone} {x1:Int} {r:Int} (h:Zi2 x0 x1=some r):Fine Tryz.prog Mo (Zpk x0 x1 r):=
 Zd Tryz.func14 (cutX [] 8 (lr GDone.enc x0 ee) (Zrh h))
abbrev Zpc (x0:List GDone) (x1:Int) (r:Int):Y:=(15,[.tr (x0.map GDone.enc),il x1],il r,[.undef,.undef])
theorem Zrf {x0:List GDone} {x1:Int} {r:Int}:∀{m:Nat} {v0:Int} {v1:Int},Q2 x0 x1 m v0 v1=some r→CS (Zpc x0 x1 r) Tryz.f15 [1,1,0,1,0] [(0,.tr (x0.map GDone.enc)),(1,il x1),(5,il v0),(6,il v1)] []:=by
 intro m
 induction m with
 | zero=>intro v0 v1 h;cases h
 | succ m ih=>exact fun {v0} {v1} h=>itK h (fun g1 h=>bnK h fun a0 ha0 h=>itK h (fun g2 h=>cutX [] 14 (lr GDone.enc x0 (gg g1 (xb GDone.enc ha0 (gg g2 (xb GDone.enc ha0 ee))))) (ih h)) fun g2 h=>cutX [] 14 (lr GDone.enc x0 (gg g1 (xb GDone.enc ha0 (gg g2 ee)))) (ih h)) fun g1 h=>rtK h (lr GDone.enc x0 (gg g1 ee))
theorem Zxo {x0:List GDone} {x1:Int} {r:Int} (h:Zi3 x0 x1=some r):Fine Tryz.prog Mo (Zpc x0 x1 r):=
 Zd Tryz.func15 (cutX [] 8 ee (Zrf h))
abbrev Zs9 (x0:List GDone) (x1:Int) (r:List GDone):Y:=(17,[.tr (x0.map GDone.enc),il x1],.own 56 (r.map GDone.enc),[.undef,.undef])
theorem Zv9 {x0:List GDone} {x1:Int} {r:List GDone}:∀{m:Nat} {v0:List GDone} {v1:Int},Zdg x0 x1 m v0 v1=some r→CS (Zs9 x0 x1 r) Tryz.f17 [1,1,0,1,0] [(0,.tr (x0.map GDone.enc)),(1,il x1),(5,.sl (1,1) 0 (v0.map GDone.enc).length),(6,il v1)] [rx 1 56 (v0.map GDone.enc)]:=by
 intro m
 induction m with
 | zero=>intro v0 v1 h;cases h
 | succ m ih=>exact fun {v0} {v1} h=>itK h (fun g1 h=>bnK h fun a0 ha0 h=>itK h (fun g2 h=>bnK h fun z0 hz0 h=>cutX [((1,1),(4,6144))] 14 (lr GDone.enc x0 (gg g1 (xb GDone.enc ha0 (gg g2 (xb GDone.enc ha0 (ta GDone.enc [a0] z0 (kk 1 (oa 7 GDone.enc_len a0 (ox GDone.enc hz0 (ln GDone.enc z0 (oe GDone.enc z0 ee))))))))))) (ih h)) fun g2 h=>cutX [((1,1),(1,1))] 14 (lr GDone.enc x0 (gg g1 (xb GDone.enc ha0 (gg g2 (ln GDone.enc v0 ee))))) (ih h)) fun g1 h=>rtK h (lr GDone.enc x0 (gg g1 (kk 1 (oe GDone.enc v0 ee))))
theorem Z53 {x0:List GDone} {x1:Int} {r:List GDone} (h:Zjl x0 x1=some r):Fine Tryz.prog Mo (Zs9 x0 x1 r):=
 Zd Tryz.func17 (cutX [((1,1),(2,0))] 8 (tp (.num ([].map GDone.enc).length 0 0 []) (ob (show 0=([].map GDone.enc).length from rfl) ee)) (Zv9 h))
abbrev Zsc (x0:List GDone) (x1:List GDone) (r:Bool):Y:=(43,[.tr (x0.map GDone.enc),.tr (x1.map GDone.enc)],bl r,[.undef,.undef])
theorem Zt9 {x0:List GDone} {x1:List GDone} {r:Bool}:∀{m:Nat} {v0:Int},Zb0 x0 x1 m v0=some r→CS (Zsc x0 x1 r) Tryz.f43 [1,1,0,1,0] [(0,.tr (x0.map GDone.enc)),(1,.tr (x1.map GDone.enc)),(5,il v0)] []:=by
 intro m
 induction m with
 | zero=>intro v0 h;cases h
 | succ m ih=>exact fun {v0} h=>itK h (fun g1 h=>bnK h fun a0 ha0 h=>bnK h fun a1 ha1 h=>itK h (fun g2 h=>rtK h (lr GDone.enc x0 (gg g1 (xb GDone.enc ha0 (xb GDone.enc ha1 (gg g2 ee)))))) fun g2 h=>cutX [] 14 (lr GDone.enc x0 (gg g1 (xb GDone.enc ha0 (xb GDone.enc ha1 (gg g2 ee))))) (ih h)) fun g1 h=>rtK h (lr GDone.enc x0 (gg g1 ee))
theorem Z2f {x0:List GDone} {x1:List GDone} {r:Bool} (h:Zhr x0 x1=some r):Fine Tryz.prog Mo (Zsc x0 x1 r):=
 Zd Tryz.func43 (itK h (fun g1 h=>rtK h (lr GDone.enc x0 (lr GDone.enc x1 (gg g1 ee)))) fun g1 h=>cutX [] 11 (lr GDone.enc x0 (lr GDone.enc x1 (gg g1 ee))) (Zt9 h))
abbrev Z2v (x0:List GDone) (x1:List GDone) (r:Bool):Y:=(16,[.tr (x0.map GDone.enc),.tr (x1.map GDone.enc)],bl r,[.undef,.undef])
theorem Z07 {x0:List GDone} {x1:List GDone} {r:Bool} (h:Zhp x0 x1=some r):Fine Tryz.prog Mo (Z2v x0 x1 r):=
 Zd Tryz.func16 (bnK h fun r0 hr0 h=>rtK h (rr (Z2f hr0) ee))
abbrev Zqt (x0:List GDone) (r:List Int):Y:=(18,[.tr (x0.map GDone.enc)],.own 3 (r.map encI),[.undef])
theorem Zst {x0:List GDone} {r:List Int}:∀{m:Nat} {v0:List Int} {v1:Int},Zak x0 m v0 v1=some r→CS (Zqt x0 r) Tryz.f18 [1,1,0,1,0] [(3,.sl (1,1) 0 (v0.map encI).length),(7,.tr (x0.map GDone.enc)),(8,il (x0.length:Int)),(9,il v1)] [rx 1 3 (v0.map encI)]:=by
 intro m
 induction m with
 | zero=>intro v0 v1 h;cases h
 | succ m ih=>exact fun {v0} {v1} h=>itK h (fun g1 h=>bnK h fun a0 ha0 h=>bnK h fun z0 hz0 h=>cutX [((1,1),(4,4096))] 13 (gg g1 (xb GDone.enc ha0 (ta encI [a0.value] z0 (kk 1 (oa 1 Xv a0.value (ox encI hz0 (ln encI z0 (oe encI z0 ee)))))))) (ih h)) fun g1 h=>rtK h (gg g1 (kk 1 (oe encI v0 ee)))
theorem Z0z {x0:List GDone} {r:List Int} (h:Zf6 x0=some r):Fine Tryz.prog Mo (Zqt x0 r):=
 Zd Tryz.func18 (cutX [((1,1),(2,0))] 8 (lr GDone.enc x0 (tp (.num ([].map encI).length 0 0 []) (ob (show 0=([].map encI).length from rfl) ee))) (Zst h))
abbrev Yax (x0:Int) (r:ByteArray):Y:=(63,[il x0],ss r,[.undef])
theorem Zq3 {x0:Int} {r:ByteArray} (h:Zg6 x0=some r):Fine Tryz.prog Mo (Yax x0 r):=
 Zd Tryz.func63 (bnK h fun r0 hr0 h=>rtK h (rr (Zvz hr0) ee))
abbrev Zxi (x0:Bool) (r:ByteArray):Y:=(98,[bl x0],ss r,[.undef])
theorem Zx5 {x0:Bool} {r:ByteArray} (h:Ze5 x0=some r):Fine Tryz.prog Mo (Zxi x0 r):=
 Zd Tryz.func98 (itK h (fun g1 h=>rtK h (gg g1 ee)) fun g1 h=>rtK h (gg g1 ee))
abbrev Z5y (x0:Int) (x1:List ByteArray) (r:ByteArray):Y:=(137,[il x0,.tr (x1.map encS)],ss r,[.undef,.undef])
theorem Z4c {x0:Int} {x1:List ByteArray} {r:ByteArray} (h:Zjv x0 x1=some r):Fine Tryz.prog Mo (Z5y x0 x1 r):=
 Zd Tryz.func137 (bnK h fun r0 hr0 h=>itK h (fun g1 h=>rtK h (lr encS x1 (rr (Q5 hr0) (gg g1 ee)))) fun g1 h=>bnK h fun a0 ha0 h=>rtK h (lr encS x1 (rr (Q5 hr0) (gg g1 (xb encS ha0 ee)))))
abbrev Z0l (x0:Int) (r:ByteArray):Y:=(99,[il x0],ss r,[.undef])
theorem Z0y {x0:Int} {r:ByteArray} (h:Zda x0=some r):Fine Tryz.prog Mo (Z0l x0 r):=
 Zd Tryz.func99 (bnK h fun r0 hr0 h=>rtK h (kk 1 (ob (show 4=([(strL [111,107,97,121]),(strL [101,114,114,111,114]),(strL [114,101,116,114,121]),(strL [115,112,108,105,116])].map encS).length from rfl) (rr (Z4c hr0) ee))))
abbrev Z0w (x0:GDone) (r:ByteArray):Y:=(44,[.agg (GDone.enc x0)],ss r,[.undef])
theorem Z0b {x0:GDone} {r:ByteArray} (h:Zf5 x0=some r):Fine Tryz.prog Mo (Z0w x0 r):=
 Zd Tryz.func44 (bnK h fun r0 hr0 h=>bnK h fun r1 hr1 h=>bnK h fun r2 hr2 h=>bnK h fun r3 hr3 h=>bnK h fun r4 hr4 h=>bnK h fun r5 hr5 h=>bnK h fun r6 hr6 h=>rtK h (rr (Zq3 hr0) (rr (Zq3 hr1) (rr (Zx5 hr2) (rr (Zq3 hr3) (rr (Zq3 hr4) (rr (Z0y hr5) (kk 1 (ob (show 6=([r0,r1,r2,r3,r4,r5].map encS).length from rfl) (rr (Zv3 hr6) ee))))))))))
abbrev Zsa (x0:List GDone) (r:ByteArray):Y:=(19,[.tr (x0.map GDone.enc)],ss r,[.undef])
theorem Zt4 {x0:List GDone} {r:ByteArray}:∀{m:Nat} {v0:ByteArray} {v1:Int},Zb3 x0 m v0 v1=some r→CS (Zsa x0 r) Tryz.f19 [1,1,0,1,0] [(3,ss v0),(6,.tr (x0.map GDone.enc)),(7,il (x0.length:Int)),(8,il v1)] []:=by
 intro m
 induction m with
 | zero=>intro v0 v1 h;cases h
 | succ m ih=>exact fun {v0} {v1} h=>itK h (fun g1 h=>bnK h fun a0 ha0 h=>bnK h fun r0 hr0 h=>bnK h fun n0 hn0 h=>bnK h fun n1 hn1 h=>cutX [] 13 (gg g1 (xb GDone.enc ha0 (rr (Z0b hr0) (tp (.obl) (tp (.obl) (ob (cat0 hn0) (ob (cat0 hn1) ee))))))) (ih h)) fun g1 h=>rtK h (gg g1 ee)
theorem Z16 {x0:List GDone} {r:ByteArray} (h:Zh4 x0=some r):Fine Tryz.prog Mo (Zsa x0 r):=
 Zd Tryz.func19 (cutX [] 8 (lr GDone.enc x0 ee) (Zt4 h))
abbrev Zre (x0:Int) (r:ByteArray):Y:=(69,[il x0],ss r,[.undef])
theorem Zrx {x0:Int} {r:ByteArray} {k_L1:Int→ByteArray→Option ByteArray} (i_L1:∀{v0:Int} {v1:ByteArray},k_L1 v0 v1=some r→CS (Zre x0 r) Tryz.f69 [1,1,1,1,0,0] [(0,il v0),(3,ss v1),(4,bl (decide (x0 < 0)))] []) {v0:Int} {v1:ByteArray} {v2:Int} (h:Zej x0 k_L1 v0 v1 v2=some r):CS (Zre x0 r) Tryz.f69 [1,1,1,1,0,0,0,1,0,1,1] [(0,il v0),(3,ss v1),(4,bl (decide (x0 < 0))),(5,il v2)] []:=
 bnK h fun n0 hn0 h=>cutX [] 4 (kk 1 (tp (.val (.lit (.string (strB [(w8 (addW 48 v2))])))) (tp (.obl) (kk 1 (ob (show 1=([(w8 (addW 48 v2))].map encU).length from rfl) (ob (stx [(w8 (addW 48 v2))]) (ob (cat0 hn0) ee))))))) (i_L1 h)
theorem Z08 {x0:Int} {r:ByteArray}:∀{m:Nat} {v0:Int} {v1:ByteArray},Zbg x0 m v0 v1=some r→CS (Zre x0 r) Tryz.f69 [1,1,1,1,0,0] [(0,il v0),(3,ss v1),(4,bl (decide (x0 < 0)))] []:=by
 intro m
 induction m with
 | zero=>intro v0 v1 h;cases h
 | succ m ih=>exact fun {v0} {v1} h=>itK h (fun g1 h=>itK h (fun g2 h=>cutX [] 14 (gg g1 (kk 1 (gg g2 ee))) (Zrx ih h)) fun g2 h=>cutX [] 14 (gg g1 (kk 1 (gg g2 ee))) (Zrx ih h)) fun g1 h=>itK h (fun g2 h=>bnK h fun n1 hn1 h=>rtK h (gg g1 (gg g2 (tp (.obl) (ob (cat0 hn1) ee))))) fun g2 h=>rtK h (gg g1 (gg g2 ee))
theorem Zrd {x0:Int} {r:ByteArray} (h:Zg3 x0=some r):Fine Tryz.prog Mo (Zre x0 r):=
 Zd Tryz.func69 (itK h (fun g1 h=>rtK h (gg g1 ee)) fun g1 h=>cutX [] 13 (gg g1 ee) (Z08 h))
abbrev Zze (x0:Int) (r:ByteArray):Y:=(100,[il x0],ss r,[.undef])
theorem Z0i {x0:Int} {r:ByteArray} (h:Zcq x0=some r):Fine Tryz.prog Mo (Zze x0 r):=
 Zd Tryz.func100 (bnK h fun r0 hr0 h=>itK h (fun g1 h=>rtK h (rr (Zi hr0) (gg g1 ee))) fun g1 h=>bnK h fun a0 ha0 h=>rtK h (rr (Zi hr0) (gg g1 (xd encS ha0 ee))))
abbrev Zpu (x0:GDone) (r:ByteArray):Y:=(45,[.agg (GDone.enc x0)],ss r,[.undef])
theorem Zkm {x0:GDone} {r:ByteArray} {v0:ByteArray} (h:Km x0 v0=some r):CS (Zpu x0 r) Tryz.f45 [1,1,1] [(1,.ptr (1,1) 0 0),(3,ss v0)] [bx 1 (GDone.enc x0)]:=
 bnK h fun r0 hr0 h=>bnK h fun n0 hn0 h=>bnK h fun r1 hr1 h=>bnK h fun n1 hn1 h=>bnK h fun n2 hn2 h=>bnK h fun n3 hn3 h=>bnK h fun r2 hr2 h=>bnK h fun n4 hn4 h=>bnK h fun n5 hn5 h=>bnK h fun r3 hr3 h=>bnK h fun n6 hn6 h=>bnK h fun n7 hn7 h=>bnK h fun r4 hr4 h=>bnK h fun n8 hn8 h=>rtK h (rr (Zrd hr0) (tp (.obl) (ob (cat0 hn0) (rr (Zrd hr1) (tp (.obl) (tp (.obl) (tp (.obl) (ob (cat0 hn1) (ob (cat0 hn2) (ob (cat0 hn3) (rr (Zrd hr2) (tp (.obl) (tp (.obl) (ob (cat0 hn4) (ob (cat0 hn5) (rr (Zrd hr3) (tp (.obl) (tp (.obl) (ob (cat0 hn6) (ob (cat0 hn7) (rr (Z0i hr4) (tp (.obl) (ob (cat0 hn8) ee)))))))))))))))))))))))
theorem Zzc {x0:GDone} {r:ByteArray} (h:Zgs x0=some r):Fine Tryz.prog Mo (Zpu x0 r):=
 Zd Tryz.func45 (itK h (fun g1 h=>cutX [((1,1),(1,0))] 9 (gg g1 ee) (Zkm h)) fun g1 h=>cutX [((1,1),(1,0))] 9 (gg g1 ee) (Zkm h))
abbrev Zr5 (x0:List GDone) (r:ByteArray):Y:=(20,[.tr (x0.map GDone.enc)],ss r,[.undef])
theorem Ztd {x0:List GDone} {r:ByteArray}:∀{m:Nat} {v0:ByteArray} {v1:Int},Zb2 x0 m v0 v1=some r→CS (Zr5 x0 r) Tryz.f20 [1,1,0,1,0] [(0,.tr (x0.map GDone.enc)),(3,ss v0),(4,il v1)] []:=by
 intro m
 induction m with
 | zero=>intro v0 v1 h;cases h
 | succ m ih=>exact fun {v0} {v1} h=>itK h (fun g1 h=>bnK h fun a0 ha0 h=>bnK h fun r0 hr0 h=>bnK h fun n0 hn0 h=>bnK h fun n1 hn1 h=>cutX [] 11 (lr GDone.enc x0 (gg g1 (xb GDone.enc ha0 (rr (Zzc hr0) (tp (.obl) (tp (.obl) (ob (cat0 hn0) (ob (cat0 hn1) ee)))))))) (ih h)) fun g1 h=>rtK h (lr GDone.enc x0 (gg g1 ee))
theorem Z1f {x0:List GDone} {r:ByteArray} (h:Zhn x0=some r):Fine Tryz.prog Mo (Zr5 x0 r):=
 Zd Tryz.func20 (cutX [] 8 ee (Ztd h))
abbrev Zai (x0:List Int) (r:Bool):Y:=(3,[.tr (x0.map encU)],bl r,[.undef])
theorem Znv {x0:List Int} {r:Bool} {k_L1:(List GDone)→Int→Int→Int→Option Bool} (i_L1:∀{v0:List GDone} {v1:Int} {v2:Int} {v3:Int},k_L1 v0 v1 v2 v3=some r→CS (Zai x0 r) Tryz.f3 [1,1,1,1,1,1,1,0,1,0] [(3,.sl (1,1) 0 (v0.map GDone.enc).length),(5,il v1),(8,il v2),(9,il v3)] [rx 1 56 (v0.map GDone.enc)]) {v0:List GDone} {v1:Int} {v2:Int} {v3:Int} {v4:List GDone} {v5:Bool} (h:J3 x0 k_L1 v0 v1 v2 v3 v4 v5=some r):CS (Zai x0 r) Tryz.f3 [1,1,1,1,1,1,1,0,1,0,0,1,0,0,1,1,0,1] [(3,.sl (1,1) 0 (v0.map GDone.enc).length),(5,il v1),(8,il v2),(9,il v3),(10,.sl (1,2) 0 (v4.map GDone.enc).length),(71,bl v5)] [rx 1 56 (v0.map GDone.enc),rx 2 56 (v4.map GDone.enc)]:=
 itK h (fun g1 h=>rtK h (gg g1 ee)) fun g1 h=>cutX [((1,1),(1,1))] 5 (gg g1 (lr GDone.enc v4 (ln GDone.enc v0 ee))) (i_L1 h)
theorem Znb {x0:List Int} {r:Bool} {k_L1:(List GDone)→Int→Int→Int→Option Bool} (i_L1:∀{v0:List GDone} {v1:Int} {v2:Int} {v3:Int},k_L1 v0 v1 v2 v3=some r→CS (Zai x0 r) Tryz.f3 [1,1,1,1,1,1,1,0,1,0] [(3,.sl (1,1) 0 (v0.map GDone.enc).length),(5,il v1),(8,il v2),(9,il v3)] [rx 1 56 (v0.map GDone.enc)]) {v0:List GDone} {v1:Int} {v2:Int} {v3:Int} {v4:List GDone} {v6:Bool} (h:J1 x0 k_L1 v0 v1 v2 v3 v4 v6=some r):CS (Zai x0 r) Tryz.f3 [1,1,1,1,1,1,1,0,1,0,0,1,0,0,1,0,1] [(3,.sl (1,1) 0 (v0.map GDone.enc).length),(5,il v1),(8,il v2),(9,il v3),(10,.sl (1,2) 0 (v4.map GDone.enc).length),(56,bl v6)] [rx 1 56 (v0.map GDone.enc),rx 2 56 (v4.map GDone.enc)]:=
 itK h (fun g1 h=>rtK h (gg g1 ee)) fun g1 h=>bnK h fun r0 hr0 h=>bnK h fun r1 hr1 h=>have p1 {q p} (k:Scr q p):=(gg g1 (kk 1 (oe GDone.enc v0 (rr (Zxm hr0) (kk 1 (oe GDone.enc v0 (rr (Zxo hr1) k)))))));itK h (fun g2 h=>cutX [((1,1),(1,1)),((1,2),(1,2))] 5 (p1 (gg g2 (kk 6 (ln GDone.enc v0 (ln GDone.enc v4 ee))))) (Znv i_L1 h)) fun g2 h=>bnK h fun r2 hr2 h=>bnK h fun r3 hr3 h=>cutX [((1,1),(1,1)),((1,2),(1,2))] 5 (p1 (gg g2 (kk 4 (oe GDone.enc v0 (rr (Z53 hr2) (kk 3 (oe GDone.enc v4 (oe GDone.enc r2 (rr (Z07 hr3) (kk 2 (ln GDone.enc v0 (ln GDone.enc v4 ee)))))))))))) (Znv i_L1 h)
theorem Zv0 {x0:List Int} {r:Bool}:∀{m:Nat} {v0:List GDone} {v1:Int} {v2:Int} {v3:Int},Zdn x0 m v0 v1 v2 v3=some r→CS (Zai x0 r) Tryz.f3 [1,1,1,1,1,1,1,0,1,0] [(3,.sl (1,1) 0 (v0.map GDone.enc).length),(5,il v1),(8,il v2),(9,il v3)] [rx 1 56 (v0.map GDone.enc)]:=by
 intro m
 induction m with
 | zero=>intro v0 v1 v2 v3 h;cases h
 | succ m ih=>exact fun {v0} {v1} {v2} {v3} h=>itK h (fun g1 h=>bnK h fun r4 hr4 h=>bnK h fun r5 hr5 h=>have p1 {q p} (k:Scr q p):=(gg g1 (kk 1 (oe GDone.enc v0 (rr (Z5t hr4) (lr GDone.enc r4 (kk 1 (oe GDone.enc v0 (rr (Zu2 hr5) k))))))));itK h (fun g2 h=>bnK h fun r6 hr6 h=>bnK h fun r7 hr7 h=>cutX [((1,1),(1,1)),((1,2),(3,2048))] 13 (p1 (gg g2 (kk 3 (oe GDone.enc v0 (rr (Zu2 hr6) (kk 4 (oe GDone.enc v0 (rr (Z4s hr7) (kk 2 (ln GDone.enc v0 (ln GDone.enc r4 ee))))))))))) (Znb ih h)) fun g2 h=>cutX [((1,1),(1,1)),((1,2),(3,2048))] 13 (p1 (gg g2 (kk 7 (ln GDone.enc v0 (ln GDone.enc r4 ee))))) (Znb ih h)) fun g1 h=>bnK h fun r8 hr8 h=>have p2 {q p} (k:Scr q p):=(gg g1 (kk 1 (oe GDone.enc v0 (rr (Z0z hr8) (lr GDone.enc v0 k)))));itK h (fun g2 h=>have p3 {q p} (k:Scr q p):=(p2 (gg g2 (kk 1 (lr encI r8 (kk 2 (lr GDone.enc v0 (kk 2 k)))))));itK h (fun g3 h=>bnK h fun r9 hr9 h=>bnK h fun r10 hr10 h=>have p4 {q p} (k:Scr q p):=(p3 (gg g3 (kk 2 (oe GDone.enc v0 (rr (Z16 hr9) (kk 3 (oe GDone.enc v0 (rr (Z1f hr10) (kk 2 k)))))))));itK h (fun g4 h=>itK h (fun g5 h=>rtK h (p4 (gg g4 (kk 2 (gg g5 (kk 6 ee)))))) fun g5 h=>rtK h (p4 (gg g4 (kk 2 (gg g5 (kk 2 (lr GDone.enc v0 (kk 4 ee)))))))) fun g4 h=>rtK h (p4 (gg g4 (kk 4 ee)))) fun g3 h=>rtK h (p3 (gg g3 (kk 10 ee)))) fun g2 h=>rtK h (p2 (gg g2 (kk 16 ee)))
theorem Znf {x0:List Int} {r:Bool} {v0:List GDone} {v1:Int} {v7:Bool} (h:Zdo x0 v0 v1 v7=some r):CS (Zai x0 r) Tryz.f3 [1,1,1,1,1,0,1] [(3,.sl (1,1) 0 (v0.map GDone.enc).length),(5,il v1),(34,bl v7)] [rx 1 56 (v0.map GDone.enc)]:=
 itK h (fun g1 h=>rtK h (gg g1 ee)) fun g1 h=>cutX [((1,1),(1,1))] 8 (gg g1 (ln GDone.enc v0 ee)) (Zv0 h)
theorem Z4y {x0:List Int} {r:Bool} (h:Zox x0=some r):Fine Tryz.prog Mo (Zai x0 r):=
 Zd Tryz.func3 (bnK h fun r11 hr11 h=>itK h (fun g1 h=>rtK h (rr (Z3m hr11) (gg g1 ee))) fun g1 h=>bnK h fun r12 hr12 h=>bnK h fun r13 hr13 h=>bnK h fun r14 hr14 h=>have p1 {q p} (k:Scr q p):=(rr (Z3m hr11) (gg g1 (rr (Zvy hr12) (kk 1 (oe GDone.enc r12 (rr (Z5g hr13) (kk 1 (oe GDone.enc r12 (rr (Z6b hr14) k)))))))));itK h (fun g2 h=>cutX [((1,1),(3,1024))] 16 (p1 (gg g2 (kk 4 (ln GDone.enc r12 ee)))) (Znf h)) fun g2 h=>bnK h fun r15 hr15 h=>cutX [((1,1),(3,1024))] 16 (p1 (gg g2 (kk 8 (GModel.so r13.1 (GModel.so r14.1 (rr (Zxx hr15) (kk 2 (ln GDone.enc r12 ee)))))))) (Znf h))
end Go.Proofs.YtlcfolgfmlgncaaGreatDoor.Ev
