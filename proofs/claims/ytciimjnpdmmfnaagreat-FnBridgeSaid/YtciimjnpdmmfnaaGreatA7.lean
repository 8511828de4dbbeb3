/- A part of the proof of FnBridge: see the text YtciimjnpdmmfnaaGreatLawFnBridge for what is proved and its conditions. Conditions here: those in each line. -/
import Derived.Test.YtciimjnpdmmfnaaGreatA6
namespace Go.Proofs.YtciimjnpdmmfnaaGreat.Ev
open Go Go.Proofs
set_option linter.unusedVariables false
set_option linter.unusedSimpArgs false
theorem c_i_countOf__i_CountResp_1__L1 {x0:List GWave} {x1c0:Int} {r:Int}:∀{m:Nat} {v0:Int} {v1:Int},p_i_countOf__i_CountResp_1__L1 x0 x1c0 m v0 v1=some r→CS (F_i_countOf__i_CountResp_1 x0 x1c0 r) Tryz.f82 [1,1,0,1,0] [(1,.fn 83 [.rp true [il x1c0] 0]),(5,il v0),(8,.tr (x0.map GWave.enc)),(9,il (x0.length:Int)),(10,il v1)] []:=by
 intro m
 induction m with
 | zero=>intro v0 v1 h;cases h
 | succ m ih=>exact fun {v0} {v1} h=>itK h (fun g1 h=>bnK h fun a0 ha0 h=>bnK h fun r0 hr0 h=>itK h (fun g2 h=>cutX [] 16 (gg g1 (xb GWave.enc ha0 (rr (c_i_CountResp_1 hr0) (gg g2 ee)))) (ih h)) fun g2 h=>cutX [] 16 (gg g1 (xb GWave.enc ha0 (rr (c_i_CountResp_1 hr0) (gg g2 ee)))) (ih h)) fun g1 h=>rtK h (gg g1 ee)
theorem c_i_countOf__i_CountResp_1 {x0:List GWave} {x1c0:Int} {r:Int} (h:p_i_countOf__i_CountResp_1 x0 x1c0=some r):Fine Tryz.prog Mo (F_i_countOf__i_CountResp_1 x0 x1c0 r):=
 fineK Tryz.func82 (cutX [] 8 (lr GWave.enc x0 ee) (c_i_countOf__i_CountResp_1__L1 h))
abbrev F_i_CountResp (x0:List GWave) (x1:Int) (r:Int):Y:=(23,[.tr (x0.map GWave.enc),il x1],il r,[.undef,.undef])
theorem c_i_CountResp {x0:List GWave} {x1:Int} {r:Int} (h:p_i_CountResp x0 x1=some r):Fine Tryz.prog Mo (F_i_CountResp x0 x1 r):=
 fineK Tryz.func23 (bnK h fun r0 hr0 h=>rtK h (rr (c_i_countOf__i_CountResp_1 hr0) ee))
abbrev F_w_FnBridge (x0:List Int) (r:Bool):Y:=(9,[.tr (x0.map encU)],bl r,[.undef])
theorem c_w_FnBridge {x0:List Int} {r:Bool} (h:p_w_FnBridge x0=some r):Fine Tryz.prog Mo (F_w_FnBridge x0 r):=
 fineK Tryz.func9 (bnK h fun r0 hr0 h=>have p1 {q p} (k:Scr q p):=(rr (c_w_big hr0) k);itK h (fun g1 h=>rtK h (p1 (gg g1 ee))) fun g1 h=>bnK h fun r1 hr1 h=>bnK h fun r2 hr2 h=>bnK h fun r3 hr3 h=>bnK h fun r4 hr4 h=>bnK h fun a0 ha0 h=>bnK h fun y0 hy0 h=>bnK h fun r5 hr5 h=>bnK h fun r6 hr6 h=>bnK h fun r7 hr7 h=>have p2 {q p} (k:Scr q p):=(p1 (gg g1 (rr (c_w_at hr1) (kk 2 (ob (show 1=([(GMConf.mk 1 false 0 0)].map GMConf.enc).length from rfl) (rr (c_s_BusNew hr2) (kk 10 (GBus.so r2.1 (ob (show 1=([(GPost.mk 0 0 (GReq.mk false 192 2 0 false []))].map GPost.enc).length from rfl) (ob (show 1=([(remW r1 4)].map encI).length from rfl) (rr (c_i_BusRun hr3) (rr (c_w_at hr4) (kk 1 (xp GPost.enc ha0 hy0 (kk 10 (GBus.so r2.1 (ob (show 1=(y0.map GPost.enc).length from (setl GPost.enc hy0)) (ob (show 1=([(remW r1 4)].map encI).length from rfl) (rr (c_i_BusRun hr5) (rr (c_i_ApbStates hr6) (kk 1 (oe GWave.enc r3.2 (rr (c_i_WaitsOf hr7) (lr encI r6 k))))))))))))))))))))))));itK h (fun g2 h=>have p3 {q p} (k:Scr q p):=(p2 (gg g2 (kk 1 (lr encI r6 (kk 4 k)))));itK h (fun g3 h=>bnK h fun r8 hr8 h=>have p4 {q p} (k:Scr q p):=(p3 (gg g3 (kk 2 (oe GWave.enc r5.2 (rr (c_i_WaitsOf hr8) (kk 3 k))))));itK h (fun g4 h=>bnK h fun r9 hr9 h=>have p5 {q p} (k:Scr q p):=(p4 (gg g4 (kk 2 (oe GWave.enc r3.2 (rr (c_i_BusyOf hr9) (kk 2 (lr encI r6 (kk 3 k))))))));itK h (fun g5 h=>bnK h fun r10 hr10 h=>rtK h (p5 (gg g5 (kk 2 (oe GWave.enc r3.2 (rr (c_i_CountResp hr10) (kk 2 ee))))))) fun g5 h=>rtK h (p5 (gg g5 (kk 3 ee)))) fun g4 h=>rtK h (p4 (gg g4 (kk 10 ee)))) fun g3 h=>rtK h (p3 (gg g3 (kk 15 ee)))) fun g2 h=>rtK h (p2 (gg g2 (kk 21 ee))))
end Go.Proofs.YtciimjnpdmmfnaaGreat.Ev
