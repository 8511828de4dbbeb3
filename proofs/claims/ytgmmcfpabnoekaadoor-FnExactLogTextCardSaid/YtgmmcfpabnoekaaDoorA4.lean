/- A part of the proof of FnExactLogText: see the text YtgmmcfpabnoekaaDoorLawFnExactLogText for what is proved and its conditions. Conditions here: those in each line. -/
import Derived.Test.YtgmmcfpabnoekaaDoorA3
namespace Go.Proofs.YtgmmcfpabnoekaaDoor.Ev
open Go Go.Proofs
set_option linter.unusedVariables false
set_option linter.unusedSimpArgs false
set_option linter.unusedSectionVars false
variable [Anchor] [ExtOk]
abbrev Ze4 (x0:GDone) (r:GDone):Y:=(10,[.agg (GDone.enc x0)],.agg (GDone.enc r),[.undef])
theorem Zfr {x0:GDone} {r:GDone} (h:Q8 x0=some r):Fine Tryd.prog Mo (Ze4 x0 r):=
 Yh Tryd.func10 (rtK h ee)
abbrev Jn (x0:Int) (r:ByteArray):Y:=(38,[il x0],ss r,[.undef])
theorem Jo {x0:Int} {r:ByteArray} {k_L1:Int→ByteArray→Option ByteArray} (i_L1:∀{v0:Int} {v1:ByteArray},k_L1 v0 v1=some r→CS (Jn x0 r) Tryd.f38 [1,1,1,1,0,0] [(0,il v0),(3,ss v1),(4,bl (decide (x0 < 0)))] []) {v0:Int} {v1:ByteArray} {v2:Int} (h:Xl x0 k_L1 v0 v1 v2=some r):CS (Jn x0 r) Tryd.f38 [1,1,1,1,0,0,0,1,0,1,1] [(0,il v0),(3,ss v1),(4,bl (decide (x0 < 0))),(5,il v2)] []:=
 bnK h fun n0 hn0 h=>cutX [] 4 (kk 1 (tp (.val (.lit (.string (strB [(w8 (addW 48 v2))])))) (tp (.obl) (kk 1 (ob (show 1=([(w8 (addW 48 v2))].map encU).length from rfl) (ob (stx [(w8 (addW 48 v2))]) (ob (cat0 hn0) ee))))))) (i_L1 h)
theorem Zd9 {x0:Int} {r:ByteArray}:∀{m:Nat} {v0:Int} {v1:ByteArray},Yz x0 m v0 v1=some r→CS (Jn x0 r) Tryd.f38 [1,1,1,1,0,0] [(0,il v0),(3,ss v1),(4,bl (decide (x0 < 0)))] []:=by
 intro m
 induction m with
 | zero=>intro v0 v1 h;cases h
 | succ m ih=>exact fun {v0} {v1} h=>itK h (fun g1 h=>itK h (fun g2 h=>cutX [] 14 (gg g1 (kk 1 (gg g2 ee))) (Jo ih h)) fun g2 h=>cutX [] 14 (gg g1 (kk 1 (gg g2 ee))) (Jo ih h)) fun g1 h=>itK h (fun g2 h=>bnK h fun n1 hn1 h=>rtK h (gg g1 (gg g2 (tp (.obl) (ob (cat0 hn1) ee))))) fun g2 h=>rtK h (gg g1 (gg g2 ee))
theorem Jl {x0:Int} {r:ByteArray} (h:X6 x0=some r):Fine Tryd.prog Mo (Jn x0 r):=
 Yh Tryd.func38 (itK h (fun g1 h=>rtK h (gg g1 ee)) fun g1 h=>cutX [] 13 (gg g1 ee) (Zd9 h))
abbrev Zhz (x0:Int) (x1:Int) (x2:Int) (r:Bool):Y:=(74,[il x0,il x1,il x2],bl r,[.undef,.undef,.undef])
theorem Zcx {x0:Int} {x1:Int} {x2:Int} {r:Bool} (h:Kl x0 x1 x2=some r):Fine Tryd.prog Mo (Zhz x0 x1 x2 r):=
 Yh Tryd.func74 (itK h (fun g1 h=>rtK h (gg g1 (kk 3 ee))) fun g1 h=>rtK h (gg g1 (kk 3 ee)))
abbrev Zc7 (x0:Int) (r:ByteArray):Y:=(39,[il x0],ss r,[.undef])
theorem Zb4 {x0:Int} {r:ByteArray} (h:Xa x0=some r):Fine Tryd.prog Mo (Zc7 x0 r):=
 Yh Tryd.func39 (bnK h fun r0 hr0 h=>itK h (fun g1 h=>rtK h (rr (Zcx hr0) (gg g1 ee))) fun g1 h=>bnK h fun a0 ha0 h=>rtK h (rr (Zcx hr0) (gg g1 (xd encS ha0 ee))))
abbrev K4 (x0:GDone) (r:ByteArray):Y:=(9,[.agg (GDone.enc x0)],ss r,[.undef])
theorem Qd {x0:GDone} {r:ByteArray} {v0:ByteArray} (h:Yg x0 v0=some r):CS (K4 x0 r) Tryd.f9 [1,1,1] [(1,.ptr (1,1) 0 0),(3,ss v0)] [bx 1 (GDone.enc x0)]:=
 bnK h fun r0 hr0 h=>bnK h fun n0 hn0 h=>bnK h fun r1 hr1 h=>bnK h fun n1 hn1 h=>bnK h fun n2 hn2 h=>bnK h fun n3 hn3 h=>bnK h fun r2 hr2 h=>bnK h fun n4 hn4 h=>bnK h fun n5 hn5 h=>bnK h fun r3 hr3 h=>bnK h fun n6 hn6 h=>bnK h fun n7 hn7 h=>bnK h fun r4 hr4 h=>bnK h fun n8 hn8 h=>rtK h (rr (Jl hr0) (tp (.obl) (ob (cat0 hn0) (rr (Jl hr1) (tp (.obl) (tp (.obl) (tp (.obl) (ob (cat0 hn1) (ob (cat0 hn2) (ob (cat0 hn3) (rr (Jl hr2) (tp (.obl) (tp (.obl) (ob (cat0 hn4) (ob (cat0 hn5) (rr (Jl hr3) (tp (.obl) (tp (.obl) (ob (cat0 hn6) (ob (cat0 hn7) (rr (Zb4 hr4) (tp (.obl) (ob (cat0 hn8) ee)))))))))))))))))))))))
theorem Zcq {x0:GDone} {r:ByteArray} (h:X5 x0=some r):Fine Tryd.prog Mo (K4 x0 r):=
 Yh Tryd.func9 (itK h (fun g1 h=>cutX [((1,1),(1,0))] 9 (gg g1 ee) (Qd h)) fun g1 h=>cutX [((1,1),(1,0))] 9 (gg g1 ee) (Qd h))
abbrev Ziy (x0:Int) (r:ByteArray):Y:=(41,[il x0],ss r,[.undef])
theorem Jj {x0:Int} {r:ByteArray} (h:X9 x0=some r):Fine Tryd.prog Mo (Ziy x0 r):=
 Yh Tryd.func41 (bnK h fun r0 hr0 h=>rtK h (rr (Za0 hr0) ee))
abbrev Zbp (x0:Bool) (r:ByteArray):Y:=(42,[bl x0],ss r,[.undef])
theorem Zbs {x0:Bool} {r:ByteArray} (h:Xo x0=some r):Fine Tryd.prog Mo (Zbp x0 r):=
 Yh Tryd.func42 (itK h (fun g1 h=>rtK h (gg g1 ee)) fun g1 h=>rtK h (gg g1 ee))
abbrev Zfq (x0:Int) (x1:Int) (x2:Int) (r:Bool):Y:=(77,[il x0,il x1,il x2],bl r,[.undef,.undef,.undef])
theorem Zao {x0:Int} {x1:Int} {x2:Int} {r:Bool} (h:Wy x0 x1 x2=some r):Fine Tryd.prog Mo (Zfq x0 x1 x2 r):=
 Yh Tryd.func77 (itK h (fun g1 h=>rtK h (gg g1 (kk 3 ee))) fun g1 h=>rtK h (gg g1 (kk 3 ee)))
abbrev Zfm (x0:Int) (x1:List ByteArray) (r:ByteArray):Y:=(87,[il x0,.tr (x1.map encS)],ss r,[.undef,.undef])
theorem Zex {x0:Int} {x1:List ByteArray} {r:ByteArray} (h:Wu x0 x1=some r):Fine Tryd.prog Mo (Zfm x0 x1 r):=
 Yh Tryd.func87 (bnK h fun r0 hr0 h=>itK h (fun g1 h=>rtK h (lr encS x1 (rr (Zao hr0) (gg g1 ee)))) fun g1 h=>bnK h fun a0 ha0 h=>rtK h (lr encS x1 (rr (Zao hr0) (gg g1 (xb encS ha0 ee)))))
abbrev Zcc (x0:Int) (r:ByteArray):Y:=(43,[il x0],ss r,[.undef])
theorem Zct {x0:Int} {r:ByteArray} (h:Xi x0=some r):Fine Tryd.prog Mo (Zcc x0 r):=
 Yh Tryd.func43 (bnK h fun r0 hr0 h=>rtK h (kk 1 (ob (show 4=([(strL [111,107,97,121]),(strL [101,114,114,111,114]),(strL [114,101,116,114,121]),(strL [115,112,108,105,116])].map encS).length from rfl) (rr (Zex hr0) ee))))
abbrev Zb9 (x0:GDone) (r:ByteArray):Y:=(11,[.agg (GDone.enc x0)],ss r,[.undef])
theorem Zc9 {x0:GDone} {r:ByteArray} (h:Xv x0=some r):Fine Tryd.prog Mo (Zb9 x0 r):=
 Yh Tryd.func11 (bnK h fun r0 hr0 h=>bnK h fun r1 hr1 h=>bnK h fun r2 hr2 h=>bnK h fun r3 hr3 h=>bnK h fun r4 hr4 h=>bnK h fun r5 hr5 h=>bnK h fun r6 hr6 h=>rtK h (rr (Jj hr0) (rr (Jj hr1) (rr (Zbs hr2) (rr (Jj hr3) (rr (Jj hr4) (rr (Zct hr5) (kk 1 (ob (show 6=([r0,r1,r2,r3,r4,r5].map encS).length from rfl) (rr (Za5 hr6) ee))))))))))
abbrev Zea (x0:List GDone) (x1:Int) (r:Int):Y:=(15,[.tr (x0.map GDone.enc),il x1],il r,[.undef,.undef])
theorem Jy {x0:List GDone} {x1:Int} {r:Int} (h:Wg x0 x1=some r):Fine Tryd.prog Mo (Zea x0 x1 r):=
 Yh Tryd.func15 (itK h (fun g1 h=>rtK h (lr GDone.enc x0 (gg g1 ee))) fun g1 h=>rtK h (lr GDone.enc x0 (gg g1 ee)))
abbrev Jr (x0:List GDone) (r:List GDone):Y:=(17,[.tr (x0.map GDone.enc)],.own 25 (r.map GDone.enc),[.undef])
theorem Zax {x0:List GDone} {r:List GDone}:∀{m:Nat} {v0:List GDone} {v1:Int},Y9 x0 m v0 v1=some r→CS (Jr x0 r) Tryd.f17 [1,1,0,1,0] [(0,.tr (x0.map GDone.enc)),(3,.sl (1,1) 0 (v0.map GDone.enc).length),(4,il v1)] [rx 1 25 (v0.map GDone.enc)]:=by
 intro m
 induction m with
 | zero=>intro v0 v1 h;cases h
 | succ m ih=>exact fun {v0} {v1} h=>itK h (fun g1 h=>bnK h fun a0 ha0 h=>bnK h fun r0 hr0 h=>bnK h fun a1 ha1 h=>bnK h fun y0 hy0 h=>cutX [((1,1),(1,1))] 11 (lr GDone.enc x0 (gg g1 (xb GDone.enc ha0 (rr (Zfr hr0) (xp GDone.enc ha1 hy0 (tp (.num (y0.map GDone.enc).length 0 0 []) (ob (setl GDone.enc hy0) ee))))))) (ih h)) fun g1 h=>rtK h (lr GDone.enc x0 (gg g1 (kk 1 (oe GDone.enc v0 ee))))
theorem Qw {x0:List GDone} {r:List GDone} (h:Yy x0=some r):Fine Tryd.prog Mo (Jr x0 r):=
 Yh Tryd.func17 (bnK h fun m0 hm0 h=>cutX [((1,1),(2,2048))] 8 (lr GDone.enc x0 (tp (.mk ((x0.length:Int):Int).toNat (m0.map GDone.enc)) (ob (mkn hm0) (ob (mkn hm0) (ob (mkl hm0) (ob (mkr GDone.enc hm0) (ln GDone.enc m0 ee))))))) (Zax h))
abbrev Jz (x0:List GDone) (r:ByteArray):Y:=(16,[.tr (x0.map GDone.enc)],ss r,[.undef])
theorem Zal {x0:List GDone} {r:ByteArray}:∀{m:Nat} {v0:ByteArray} {v1:Int},Y8 x0 m v0 v1=some r→CS (Jz x0 r) Tryd.f16 [1,1,0,1,0] [(0,.tr (x0.map GDone.enc)),(3,ss v0),(4,il v1)] []:=by
 intro m
 induction m with
 | zero=>intro v0 v1 h;cases h
 | succ m ih=>exact fun {v0} {v1} h=>itK h (fun g1 h=>bnK h fun a0 ha0 h=>bnK h fun r0 hr0 h=>bnK h fun n0 hn0 h=>bnK h fun n1 hn1 h=>cutX [] 11 (lr GDone.enc x0 (gg g1 (xb GDone.enc ha0 (rr (Zcq hr0) (tp (.obl) (tp (.obl) (ob (cat0 hn0) (ob (cat0 hn1) ee)))))))) (ih h)) fun g1 h=>rtK h (lr GDone.enc x0 (gg g1 ee))
theorem Zdi {x0:List GDone} {r:ByteArray} (h:Wf x0=some r):Fine Tryd.prog Mo (Jz x0 r):=
 Yh Tryd.func16 (cutX [] 8 ee (Zal h))
abbrev J1 (x0:List GDone) (r:ByteArray):Y:=(18,[.tr (x0.map GDone.enc)],ss r,[.undef])
theorem Zaw {x0:List GDone} {r:ByteArray}:∀{m:Nat} {v0:ByteArray} {v1:Int},Y6 x0 m v0 v1=some r→CS (J1 x0 r) Tryd.f18 [1,1,0,1,0] [(3,ss v0),(6,.tr (x0.map GDone.enc)),(7,il (x0.length:Int)),(8,il v1)] []:=by
 intro m
 induction m with
 | zero=>intro v0 v1 h;cases h
 | succ m ih=>exact fun {v0} {v1} h=>itK h (fun g1 h=>bnK h fun a0 ha0 h=>bnK h fun r0 hr0 h=>bnK h fun n0 hn0 h=>bnK h fun n1 hn1 h=>cutX [] 13 (gg g1 (xb GDone.enc ha0 (rr (Zc9 hr0) (tp (.obl) (tp (.obl) (ob (cat0 hn0) (ob (cat0 hn1) ee))))))) (ih h)) fun g1 h=>rtK h (gg g1 ee)
theorem Zdx {x0:List GDone} {r:ByteArray} (h:We x0=some r):Fine Tryd.prog Mo (J1 x0 r):=
 Yh Tryd.func18 (cutX [] 8 (lr GDone.enc x0 ee) (Zaw h))
abbrev Zfl (x0:GDone) (x1:GDone) (r:Bool):Y:=(48,[.agg (GDone.enc x0),.agg (GDone.enc x1)],bl r,[.undef,.undef])
theorem Zew {x0:GDone} {x1:GDone} {r:Bool} (h:Wv x0 x1=some r):Fine Tryd.prog Mo (Zfl x0 x1 r):=
 Yh Tryd.func48 (itK h (fun g1 h=>rtK h (gg g1 ee)) fun g1 h=>itK h (fun g2 h=>rtK h (gg g1 (gg g2 ee))) fun g2 h=>itK h (fun g3 h=>rtK h (gg g1 (gg g2 (gg g3 ee)))) fun g3 h=>have p1 {q p} (k:Scr q p):=(gg g1 (gg g2 (gg g3 k)));itK h (fun g4 h=>rtK h (p1 (gg g4 ee))) fun g4 h=>itK h (fun g5 h=>rtK h (p1 (gg g4 (gg g5 ee)))) fun g5 h=>itK h (fun g6 h=>rtK h (p1 (gg g4 (gg g5 (gg g6 ee))))) fun g6 h=>itK h (fun g7 h=>rtK h (p1 (gg g4 (gg g5 (gg g6 (gg g7 ee)))))) fun g7 h=>rtK h (p1 (gg g4 (gg g5 (gg g6 (gg g7 ee))))))
abbrev Jt (x0:List GDone) (x1:List GDone) (r:Bool):Y:=(19,[.tr (x0.map GDone.enc),.tr (x1.map GDone.enc)],bl r,[.undef,.undef])
theorem Zam {x0:List GDone} {x1:List GDone} {r:Bool}:∀{m:Nat} {v0:Int},Y4 x0 x1 m v0=some r→CS (Jt x0 x1 r) Tryd.f19 [1,1,0,1,0] [(0,.tr (x0.map GDone.enc)),(1,.tr (x1.map GDone.enc)),(5,il v0)] []:=by
 intro m
 induction m with
 | zero=>intro v0 h;cases h
 | succ m ih=>exact fun {v0} h=>itK h (fun g1 h=>bnK h fun a0 ha0 h=>bnK h fun a1 ha1 h=>bnK h fun r0 hr0 h=>have p1 {q p} (k:Scr q p):=(lr GDone.enc x0 (gg g1 (xb GDone.enc ha0 (xb GDone.enc ha1 (rr (Zew hr0) k)))));itK h (fun g2 h=>rtK h (p1 (gg g2 ee))) fun g2 h=>cutX [] 14 (p1 (gg g2 ee)) (ih h)) fun g1 h=>rtK h (lr GDone.enc x0 (gg g1 ee))
theorem Zdq {x0:List GDone} {x1:List GDone} {r:Bool} (h:Wc x0 x1=some r):Fine Tryd.prog Mo (Jt x0 x1 r):=
 Yh Tryd.func19 (itK h (fun g1 h=>rtK h (lr GDone.enc x0 (lr GDone.enc x1 (gg g1 ee)))) fun g1 h=>cutX [] 11 (lr GDone.enc x0 (lr GDone.enc x1 (gg g1 ee))) (Zam h))
abbrev Kx (x0:List GDone) (r:Bool):Y:=(5,[.tr (x0.map GDone.enc)],bl r,[.undef])
theorem Jf {x0:List GDone} {r:Bool} (h:Xe x0=some r):Fine Tryd.prog Mo (Kx x0 r):=
 Yh Tryd.func5 (bnK h fun r0 hr0 h=>itK h (fun g1 h=>rtK h (rr (Jy hr0) (gg g1 ee))) fun g1 h=>bnK h fun r1 hr1 h=>bnK h fun r2 hr2 h=>bnK h fun r3 hr3 h=>bnK h fun r4 hr4 h=>have p1 {q p} (k:Scr q p):=(rr (Jy hr0) (gg g1 (rr (Qw hr1) (kk 1 (oe GDone.enc r1 (rr (Zdi hr2) (rr (Qw hr3) (kk 1 (oe GDone.enc r3 (rr (Zdx hr4) k))))))))));itK h (fun g2 h=>rtK h (p1 (gg g2 ee))) fun g2 h=>bnK h fun r5 hr5 h=>bnK h fun r6 hr6 h=>have p2 {q p} (k:Scr q p):=(p1 (gg g2 (rr (Qw hr5) (kk 2 (oe GDone.enc r3 (oe GDone.enc r5 (rr (Zdq hr6) k)))))));itK h (fun g3 h=>rtK h (p2 (gg g3 ee))) fun g3 h=>rtK h (p2 (gg g3 ee)))
end Go.Proofs.YtgmmcfpabnoekaaDoor.Ev
