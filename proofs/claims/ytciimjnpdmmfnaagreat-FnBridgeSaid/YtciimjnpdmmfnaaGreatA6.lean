/- A part of the proof of FnBridge: see the text YtciimjnpdmmfnaaGreatLawFnBridge for what is proved and its conditions. Conditions here: those in each line. -/
import Derived.Test.YtciimjnpdmmfnaaGreatA5
namespace Go.Proofs.YtciimjnpdmmfnaaGreat.Ev
open Go Go.Proofs
set_option linter.unusedVariables false
set_option linter.unusedSimpArgs false
abbrev F_w_at (x0:List Int) (x1:Int) (r:Int):Y:=(42,[.tr (x0.map encU),il x1],il r,[.undef,.undef])
theorem c_w_at {x0:List Int} {x1:Int} {r:Int} (h:p_w_at x0 x1=some r):Fine Tryz.prog Mo (F_w_at x0 x1 r):=
 fineK Tryz.func42 (itK h (fun g1 h=>bnK h fun a0 ha0 h=>rtK h (lr encU x0 (gg g1 (xb encU ha0 ee)))) fun g1 h=>rtK h (lr encU x0 (gg g1 (lr encU x0 (kk 1 ee)))))
abbrev F_i_BusRun (x0:GBus) (x1:GScript) (x2:Int) (r:GBus×List GWave):Y:=(20,[.agg (GBus.enc x0),.agg (GScript.enc x1),il x2],.tup [.agg (GBus.ow r.1),.own 48 (r.2.map GWave.enc)],[.undef,.undef,.undef])
theorem c_i_BusRun__L1 {x0:GBus} {x1:GScript} {x2:Int} {r:GBus×List GWave}:∀{m:Nat} {vb0:GBus} {v0:List GWave} {v1:Int},p_i_BusRun__L1 x0 x1 x2 m vb0 v0 v1=some r→CS (F_i_BusRun x0 x1 x2 r) Tryz.f20 [1,1,1,0,1,0] [(4,.ptr (1,1) 0 0),(6,.ptr (1,2) 0 0),(8,.ptr (1,11) 0 0),(9,.sl (1,20) 0 (v0.map GWave.enc).length),(25,il x2),(26,il v1)] ([bx 1 (GScript.enc x1)]++GBus.bk GBus.z0 3++[bx 2 (GBus.rl GBus.z0 3)]++GBus.bk vb0 12++[bx 11 (GBus.rl vb0 12),rx 20 48 (v0.map GWave.enc)]):=by
 intro m
 induction m with
 | zero=>intro vb0 v0 v1 h;cases h
 | succ m ih=>exact fun {vb0} {v0} {v1} h=>itK h (fun g1 h=>bnK h fun r0 hr0 h=>bnK h fun z0 hz0 h=>cutX (ffi 1 11++GBus.ff 12 3 2560++[((1,20),(3,4096))]) 11 (gg g1 (kk 8 (GBus.so vb0 (rr (c_i_Bus_step hr0) (ta GWave.enc [r0.1] z0 (kk 1 (oa 9 GWave.enc_len r0.1 (ox GWave.enc hz0 (ln GWave.enc z0 (oe GWave.enc z0 (GBus.sc GBus.z0 (GBus.sc r0.2 ee)))))))))))) (ih h)) fun g1 h=>bnK h fun r1 hr1 h=>rtK h (gg g1 (kk 8 (GBus.so vb0 (rr (c_i_ownBus hr1) (kk 9 (GBus.so r1 (oe GWave.enc v0 ee)))))))
theorem c_i_BusRun__J2 {x0:GBus} {x1:GScript} {x2:Int} {r:GBus×List GWave} {vb0:GBus} {v2:Bool} (h:p_i_BusRun__J2 x0 x1 x2 vb0 v2=some r):CS (F_i_BusRun x0 x1 x2 r) Tryz.f20 [1,1,0,1] [(2,il x2),(4,.ptr (1,1) 0 0),(6,.ptr (1,2) 0 0),(8,.ptr (1,11) 0 0),(9,.sl (1,20) 0 ([].map GWave.enc).length),(23,bl v2)] ([bx 1 (GScript.enc x1)]++GBus.bk GBus.z0 3++[bx 2 (GBus.rl GBus.z0 3)]++GBus.bk vb0 12++[bx 11 (GBus.rl vb0 12),rx 20 48 ([].map GWave.enc)]):=
 itK h (fun g1 h=>rtK h (gg g1 (kk 8 (GBus.so vb0 ee)))) fun g1 h=>cutX (ffi 1 20) 6 (gg g1 (ln GWave.enc [] (GBus.sc GBus.z0 (GBus.sc vb0 ee)))) (c_i_BusRun__L1 h)
theorem c_i_BusRun {x0:GBus} {x1:GScript} {x2:Int} {r:GBus×List GWave} (h:p_i_BusRun x0 x1 x2=some r):Fine Tryz.prog Mo (F_i_BusRun x0 x1 x2 r):=
 fineK Tryz.func20 (bnK h fun r2 hr2 h=>bnK h fun r3 hr3 h=>itK h (fun g1 h=>cutX ([((1,1),(1,1024)),((1,2),(1,2048)),((1,11),(2,3072))]++GBus.ff 12 2 1024++[((1,20),(2,2048))]) 7 (rr (c_i_ownBus hr2) (rr (c_i_BusOk hr3) (gg g1 (kk 6 (tp (.num ([].map GWave.enc).length 0 0 []) (ob (show 0=([].map GWave.enc).length from rfl) (GBus.sc r2 ee))))))) (c_i_BusRun__J2 h)) fun g1 h=>bnK h fun r4 hr4 h=>cutX ([((1,1),(1,1024)),((1,2),(1,2048)),((1,11),(2,3072))]++GBus.ff 12 2 1024++[((1,20),(2,2048))]) 7 (rr (c_i_ownBus hr2) (rr (c_i_BusOk hr3) (gg g1 (kk 4 (rr (c_i_within hr4) (kk 2 (tp (.num ([].map GWave.enc).length 0 0 []) (ob (show 0=([].map GWave.enc).length from rfl) (GBus.sc r2 ee))))))))) (c_i_BusRun__J2 h))
abbrev F_i_ApbStart (x0:Int) (r:GApb):Y:=(100,[il x0],.agg (GApb.enc r),[.undef])
theorem c_i_ApbStart {x0:Int} {r:GApb} (h:p_i_ApbStart x0=some r):Fine Tryz.prog Mo (F_i_ApbStart x0 r):=
 fineK Tryz.func100 (bnK h fun r0 hr0 h=>itK h (fun g1 h=>rtK h (rr (c_i_within hr0) (gg g1 ee))) fun g1 h=>rtK h (rr (c_i_within hr0) (gg g1 ee)))
abbrev F_i_ApbOk (x0:GApb) (r:Bool):Y:=(179,[.agg (GApb.enc x0)],bl r,[.undef])
theorem c_i_ApbOk {x0:GApb} {r:Bool} (h:p_i_ApbOk x0=some r):Fine Tryz.prog Mo (F_i_ApbOk x0 r):=
 fineK Tryz.func179 (itK h (fun g1 h=>rtK h (gg g1 ee)) fun g1 h=>itK h (fun g2 h=>bnK h fun r0 hr0 h=>rtK h (gg g1 (gg g2 (gg g2 (rr (c_i_within hr0) ee))))) fun g2 h=>itK h (fun g3 h=>bnK h fun r0 hr0 h=>rtK h (gg g1 (gg g2 (gg g3 (rr (c_i_within hr0) ee))))) fun g3 h=>rtK h (gg g1 (gg g2 (gg g3 ee))))
abbrev F_i_ApbTick (x0:GApb) (r:GApb×Bool):Y:=(101,[.agg (GApb.enc x0)],.tup [.agg (GApb.enc r.1),bl r.2],[.undef])
theorem c_i_ApbTick__J1 {x0:GApb} {r:GApb×Bool} {v0:Bool} (h:p_i_ApbTick__J1 x0 v0=some r):CS (F_i_ApbTick x0 r) Tryz.f101 [1,0,0,1] [(1,.ptr (1,1) 0 0),(2,.ptr (1,2) 0 0),(4,bl v0)] [bx 1 (GApb.enc x0),bx 2 (GApb.enc GApb.z0)]:=
 itK h (fun g1 h=>rtK h (gg g1 ee)) fun g1 h=>itK h (fun g2 h=>rtK h (gg g1 (gg g2 ee))) fun g2 h=>itK h (fun g3 h=>rtK h (gg g1 (gg g2 (gg g3 ee)))) fun g3 h=>rtK h (gg g1 (gg g2 (gg g3 ee)))
theorem c_i_ApbTick {x0:GApb} {r:GApb×Bool} (h:p_i_ApbTick x0=some r):Fine Tryz.prog Mo (F_i_ApbTick x0 r):=
 fineK Tryz.func101 (bnK h fun r0 hr0 h=>itK h (fun g1 h=>cutX [((1,1),(1,0)),((1,2),(1,1024))] 6 (rr (c_i_ApbOk hr0) (gg g1 (kk 3 ee))) (c_i_ApbTick__J1 h)) fun g1 h=>cutX [((1,1),(1,0)),((1,2),(1,1024))] 6 (rr (c_i_ApbOk hr0) (gg g1 (kk 3 ee))) (c_i_ApbTick__J1 h))
abbrev F_i_ApbStates (x0:Int) (r:List Int):Y:=(44,[il x0],.own 3 (r.map encI),[.undef])
theorem c_i_ApbStates__L1 {x0:Int} {r:List Int}:∀{m:Nat} {vb0:GApb} {v0:List Int},p_i_ApbStates__L1 x0 m vb0 v0=some r→CS (F_i_ApbStates x0 r) Tryz.f44 [1,1,0,1,0] [(3,.sl (1,2) 0 (v0.map encI).length),(4,.ptr (1,1) 0 0)] [bx 1 (GApb.enc vb0),rx 2 3 (v0.map encI)]:=by
 intro m
 induction m with
 | zero=>intro vb0 v0 h;cases h
 | succ m ih=>exact fun {vb0} {v0} h=>itK h (fun g1 h=>bnK h fun z0 hz0 h=>bnK h fun r0 hr0 h=>cutX [((1,1),(5,0)),((1,2),(3,4096))] 15 (gg g1 (ta encI [vb0.state] z0 (kk 1 (oa 1 encI_len vb0.state (ox encI hz0 (oe encI z0 (rr (c_i_ApbTick hr0) (ln encI z0 ee)))))))) (ih h)) fun g1 h=>rtK h (gg g1 (kk 1 (oe encI v0 ee)))
theorem c_i_ApbStates {x0:Int} {r:List Int} (h:p_i_ApbStates x0=some r):Fine Tryz.prog Mo (F_i_ApbStates x0 r):=
 fineK Tryz.func44 (bnK h fun r1 hr1 h=>cutX [((1,1),(3,2048)),((1,2),(2,0))] 8 (rr (c_i_ApbStart hr1) (tp (.num ([].map encI).length 0 0 []) (ob (show 0=([].map encI).length from rfl) ee))) (c_i_ApbStates__L1 h))
abbrev F_i_WaitsOf_1 (x0:GWave) (r:Bool):Y:=(86,[.agg (GWave.enc x0)],bl r,[.undef])
theorem c_i_WaitsOf_1 {x0:GWave} {r:Bool} (h:p_i_WaitsOf_1 x0=some r):Fine Tryz.prog Mo (F_i_WaitsOf_1 x0 r):=
 fineK Tryz.func86 (itK h (fun g1 h=>rtK h (gg g1 (kk 3 ee))) fun g1 h=>rtK h (gg g1 (kk 3 ee)))
abbrev F_i_countOf__i_WaitsOf_1 (x0:List GWave) (r:Int):Y:=(82,[.tr (x0.map GWave.enc),.fn 86 []],il r,[.undef,.undef])
theorem c_i_countOf__i_WaitsOf_1__L1 {x0:List GWave} {r:Int}:∀{m:Nat} {v0:Int} {v1:Int},p_i_countOf__i_WaitsOf_1__L1 x0 m v0 v1=some r→CS (F_i_countOf__i_WaitsOf_1 x0 r) Tryz.f82 [1,1,0,1,0] [(1,.fn 86 []),(5,il v0),(8,.tr (x0.map GWave.enc)),(9,il (x0.length:Int)),(10,il v1)] []:=by
 intro m
 induction m with
 | zero=>intro v0 v1 h;cases h
 | succ m ih=>exact fun {v0} {v1} h=>itK h (fun g1 h=>bnK h fun a0 ha0 h=>bnK h fun r0 hr0 h=>itK h (fun g2 h=>cutX [] 16 (gg g1 (xb GWave.enc ha0 (rr (c_i_WaitsOf_1 hr0) (gg g2 ee)))) (ih h)) fun g2 h=>cutX [] 16 (gg g1 (xb GWave.enc ha0 (rr (c_i_WaitsOf_1 hr0) (gg g2 ee)))) (ih h)) fun g1 h=>rtK h (gg g1 ee)
theorem c_i_countOf__i_WaitsOf_1 {x0:List GWave} {r:Int} (h:p_i_countOf__i_WaitsOf_1 x0=some r):Fine Tryz.prog Mo (F_i_countOf__i_WaitsOf_1 x0 r):=
 fineK Tryz.func82 (cutX [] 8 (lr GWave.enc x0 ee) (c_i_countOf__i_WaitsOf_1__L1 h))
abbrev F_i_WaitsOf (x0:List GWave) (r:Int):Y:=(26,[.tr (x0.map GWave.enc)],il r,[.undef])
theorem c_i_WaitsOf {x0:List GWave} {r:Int} (h:p_i_WaitsOf x0=some r):Fine Tryz.prog Mo (F_i_WaitsOf x0 r):=
 fineK Tryz.func26 (bnK h fun r0 hr0 h=>rtK h (rr (c_i_countOf__i_WaitsOf_1 hr0) ee))
abbrev F_i_BusyOf_1 (x0:GWave) (r:Bool):Y:=(85,[.agg (GWave.enc x0)],bl r,[.undef])
theorem c_i_BusyOf_1 {x0:GWave} {r:Bool} (h:p_i_BusyOf_1 x0=some r):Fine Tryz.prog Mo (F_i_BusyOf_1 x0 r):=
 fineK Tryz.func85 (rtK h ee)
abbrev F_i_countOf__i_BusyOf_1 (x0:List GWave) (r:Int):Y:=(82,[.tr (x0.map GWave.enc),.fn 85 []],il r,[.undef,.undef])
theorem c_i_countOf__i_BusyOf_1__L1 {x0:List GWave} {r:Int}:∀{m:Nat} {v0:Int} {v1:Int},p_i_countOf__i_BusyOf_1__L1 x0 m v0 v1=some r→CS (F_i_countOf__i_BusyOf_1 x0 r) Tryz.f82 [1,1,0,1,0] [(1,.fn 85 []),(5,il v0),(8,.tr (x0.map GWave.enc)),(9,il (x0.length:Int)),(10,il v1)] []:=by
 intro m
 induction m with
 | zero=>intro v0 v1 h;cases h
 | succ m ih=>exact fun {v0} {v1} h=>itK h (fun g1 h=>bnK h fun a0 ha0 h=>bnK h fun r0 hr0 h=>itK h (fun g2 h=>cutX [] 16 (gg g1 (xb GWave.enc ha0 (rr (c_i_BusyOf_1 hr0) (gg g2 ee)))) (ih h)) fun g2 h=>cutX [] 16 (gg g1 (xb GWave.enc ha0 (rr (c_i_BusyOf_1 hr0) (gg g2 ee)))) (ih h)) fun g1 h=>rtK h (gg g1 ee)
theorem c_i_countOf__i_BusyOf_1 {x0:List GWave} {r:Int} (h:p_i_countOf__i_BusyOf_1 x0=some r):Fine Tryz.prog Mo (F_i_countOf__i_BusyOf_1 x0 r):=
 fineK Tryz.func82 (cutX [] 8 (lr GWave.enc x0 ee) (c_i_countOf__i_BusyOf_1__L1 h))
abbrev F_i_BusyOf (x0:List GWave) (r:Int):Y:=(25,[.tr (x0.map GWave.enc)],il r,[.undef])
theorem c_i_BusyOf {x0:List GWave} {r:Int} (h:p_i_BusyOf x0=some r):Fine Tryz.prog Mo (F_i_BusyOf x0 r):=
 fineK Tryz.func25 (bnK h fun r0 hr0 h=>rtK h (rr (c_i_countOf__i_BusyOf_1 hr0) ee))
abbrev F_i_CountResp_1 (x0:GWave) (x1:Int) (r:Bool):Y:=(83,[.agg (GWave.enc x0),.rp true [il x1] 0],bl r,[.undef,.undef])
theorem c_i_CountResp_1 {x0:GWave} {x1:Int} {r:Bool} (h:p_i_CountResp_1 x0 x1=some r):Fine Tryz.prog Mo (F_i_CountResp_1 x0 x1 r):=
 fineK Tryz.func83 (itK h (fun g1 h=>itK h (fun g2 h=>rtK h (gg g1 (kk 3 (gg g2 (kk 4 ee))))) fun g2 h=>rtK h (gg g1 (kk 3 (gg g2 (kk 4 ee))))) fun g1 h=>rtK h (gg g1 (kk 8 ee)))
abbrev F_i_countOf__i_CountResp_1 (x0:List GWave) (x1c0:Int) (r:Int):Y:=(82,[.tr (x0.map GWave.enc),.fn 83 [.rp true [il x1c0] 0]],il r,[.undef,.undef])
end Go.Proofs.YtciimjnpdmmfnaaGreat.Ev
