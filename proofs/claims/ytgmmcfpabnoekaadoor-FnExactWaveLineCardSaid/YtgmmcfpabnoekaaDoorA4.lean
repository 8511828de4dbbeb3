/- A part of the proof of FnExactWaveLine: see the text YtgmmcfpabnoekaaDoorLawFnExactWaveLine for what is proved and its conditions. Conditions here: those in each line. -/
import Derived.Test.YtgmmcfpabnoekaaDoorA3
namespace Go.Proofs.YtgmmcfpabnoekaaDoor.Ev
open Go Go.Proofs
set_option linter.unusedVariables false
set_option linter.unusedSimpArgs false
set_option linter.unusedSectionVars false
variable [Anchor] [ExtOk]
abbrev Jb (x0:Int) (r:ByteArray):Y:=(38,[il x0],ss r,[.undef])
theorem Jn {x0:Int} {r:ByteArray} {k_L1:Int→ByteArray→Option ByteArray} (i_L1:∀{v0:Int} {v1:ByteArray},k_L1 v0 v1=some r→CS (Jb x0 r) Tryd.f38 [1,1,1,1,0,0] [(0,il v0),(3,ss v1),(4,bl (decide (x0 < 0)))] []) {v0:Int} {v1:ByteArray} {v2:Int} (h:Xj x0 k_L1 v0 v1 v2=some r):CS (Jb x0 r) Tryd.f38 [1,1,1,1,0,0,0,1,0,1,1] [(0,il v0),(3,ss v1),(4,bl (decide (x0 < 0))),(5,il v2)] []:=
 bnK h fun n0 hn0 h=>cutX [] 4 (kk 1 (tp (.val (.lit (.string (strB [(w8 (addW 48 v2))])))) (tp (.obl) (kk 1 (ob (show 1=([(w8 (addW 48 v2))].map encU).length from rfl) (ob (stx [(w8 (addW 48 v2))]) (ob (cat0 hn0) ee))))))) (i_L1 h)
theorem Zc7 {x0:Int} {r:ByteArray}:∀{m:Nat} {v0:Int} {v1:ByteArray},Y0 x0 m v0 v1=some r→CS (Jb x0 r) Tryd.f38 [1,1,1,1,0,0] [(0,il v0),(3,ss v1),(4,bl (decide (x0 < 0)))] []:=by
 intro m
 induction m with
 | zero=>intro v0 v1 h;cases h
 | succ m ih=>exact fun {v0} {v1} h=>itK h (fun g1 h=>itK h (fun g2 h=>cutX [] 14 (gg g1 (kk 1 (gg g2 ee))) (Jn ih h)) fun g2 h=>cutX [] 14 (gg g1 (kk 1 (gg g2 ee))) (Jn ih h)) fun g1 h=>itK h (fun g2 h=>bnK h fun n1 hn1 h=>rtK h (gg g1 (gg g2 (tp (.obl) (ob (cat0 hn1) ee))))) fun g2 h=>rtK h (gg g1 (gg g2 ee))
theorem Zdz {x0:Int} {r:ByteArray} (h:Qx x0=some r):Fine Tryd.prog Mo (Jb x0 r):=
 Yx Tryd.func38 (itK h (fun g1 h=>rtK h (gg g1 ee)) fun g1 h=>cutX [] 13 (gg g1 ee) (Zc7 h))
abbrev Zf9 (x0:Int) (x1:Int) (x2:Int) (r:Bool):Y:=(74,[il x0,il x1,il x2],bl r,[.undef,.undef,.undef])
theorem Zb9 {x0:Int} {x1:Int} {x2:Int} {r:Bool} (h:Kg x0 x1 x2=some r):Fine Tryd.prog Mo (Zf9 x0 x1 x2 r):=
 Yx Tryd.func74 (itK h (fun g1 h=>rtK h (gg g1 (kk 3 ee))) fun g1 h=>rtK h (gg g1 (kk 3 ee)))
abbrev Zcz (x0:Int) (r:ByteArray):Y:=(39,[il x0],ss r,[.undef])
theorem Zb0 {x0:Int} {r:ByteArray} (h:Xf x0=some r):Fine Tryd.prog Mo (Zcz x0 r):=
 Yx Tryd.func39 (bnK h fun r0 hr0 h=>itK h (fun g1 h=>rtK h (rr (Zb9 hr0) (gg g1 ee))) fun g1 h=>bnK h fun a0 ha0 h=>rtK h (rr (Zb9 hr0) (gg g1 (xd encS ha0 ee))))
abbrev Ziq (x0:Int) (r:ByteArray):Y:=(41,[il x0],ss r,[.undef])
theorem Zeb {x0:Int} {r:ByteArray} (h:Qz x0=some r):Fine Tryd.prog Mo (Ziq x0 r):=
 Yx Tryd.func41 (bnK h fun r0 hr0 h=>rtK h (rr (Zaq hr0) ee))
abbrev Ze2 (x0:Int) (x1:Int) (x2:Int) (r:Bool):Y:=(77,[il x0,il x1,il x2],bl r,[.undef,.undef,.undef])
theorem Zae {x0:Int} {x1:Int} {x2:Int} {r:Bool} (h:Xh x0 x1 x2=some r):Fine Tryd.prog Mo (Ze2 x0 x1 x2 r):=
 Yx Tryd.func77 (itK h (fun g1 h=>rtK h (gg g1 (kk 3 ee))) fun g1 h=>rtK h (gg g1 (kk 3 ee)))
abbrev Zem (x0:Int) (x1:List ByteArray) (r:ByteArray):Y:=(87,[il x0,.tr (x1.map encS)],ss r,[.undef,.undef])
theorem J1 {x0:Int} {x1:List ByteArray} {r:ByteArray} (h:Yy x0 x1=some r):Fine Tryd.prog Mo (Zem x0 x1 r):=
 Yx Tryd.func87 (bnK h fun r0 hr0 h=>itK h (fun g1 h=>rtK h (lr encS x1 (rr (Zae hr0) (gg g1 ee)))) fun g1 h=>bnK h fun a0 ha0 h=>rtK h (lr encS x1 (rr (Zae hr0) (gg g1 (xb encS ha0 ee)))))
abbrev Zcv (x0:Int) (r:ByteArray):Y:=(43,[il x0],ss r,[.undef])
theorem Zck {x0:Int} {r:ByteArray} (h:Xe x0=some r):Fine Tryd.prog Mo (Zcv x0 r):=
 Yx Tryd.func43 (bnK h fun r0 hr0 h=>rtK h (kk 1 (ob (show 4=([(strL [111,107,97,121]),(strL [101,114,114,111,114]),(strL [114,101,116,114,121]),(strL [115,112,108,105,116])].map encS).length from rfl) (rr (J1 hr0) ee))))
abbrev Zel (x0:GWave) (r:GWave):Y:=(13,[.agg (GWave.enc x0)],.agg (GWave.enc r),[.undef])
theorem Zaf {x0:GWave} {r:GWave} (h:Wt x0=some r):Fine Tryd.prog Mo (Zel x0 r):=
 Yx Tryd.func13 (rtK h ee)
abbrev Zcy (x0:Int) (r:ByteArray):Y:=(44,[il x0],ss r,[.undef])
theorem Zb2 {x0:Int} {r:ByteArray} (h:X3 x0=some r):Fine Tryd.prog Mo (Zcy x0 r):=
 Yx Tryd.func44 (itK h (fun g1 h=>rtK h (gg g1 ee)) fun g1 h=>itK h (fun g2 h=>rtK h (gg g1 (gg g2 ee))) fun g2 h=>itK h (fun g3 h=>rtK h (gg g1 (gg g2 (gg g3 ee)))) fun g3 h=>rtK h (gg g1 (gg g2 (gg g3 ee))))
abbrev Zeq (x0:Int) (r:ByteArray):Y:=(45,[il x0],ss r,[.undef])
theorem Xy {x0:Int} {r:ByteArray} (h:Yo x0=some r):Fine Tryd.prog Mo (Zeq x0 r):=
 Yx Tryd.func45 (itK h (fun g1 h=>rtK h (gg g1 ee)) fun g1 h=>bnK h fun r0 hr0 h=>rtK h (gg g1 (rr (Zdz hr0) ee)))
abbrev Kw (x0:GWave) (r:ByteArray):Y:=(12,[.agg (GWave.enc x0)],ss r,[.undef])
theorem W7 {x0:GWave} {r:ByteArray} {v0:ByteArray} (h:Yi x0 v0=some r):CS (Kw x0 r) Tryd.f12 [1,1,1] [(1,.ptr (1,1) 0 0),(3,ss v0)] [bx 1 (GWave.enc x0)]:=
 bnK h fun r0 hr0 h=>bnK h fun n0 hn0 h=>bnK h fun n1 hn1 h=>bnK h fun r1 hr1 h=>bnK h fun n2 hn2 h=>rtK h (rr (Zb0 hr0) (tp (.obl) (tp (.obl) (ob (cat0 hn0) (ob (cat0 hn1) (rr (Xy hr1) (tp (.obl) (ob (cat0 hn2) ee))))))))
theorem Zbm {x0:GWave} {r:ByteArray} (h:Xv x0=some r):Fine Tryd.prog Mo (Kw x0 r):=
 Yx Tryd.func12 (bnK h fun r2 hr2 h=>bnK h fun n3 hn3 h=>bnK h fun r3 hr3 h=>bnK h fun n4 hn4 h=>bnK h fun n5 hn5 h=>bnK h fun r4 hr4 h=>bnK h fun n6 hn6 h=>bnK h fun n7 hn7 h=>bnK h fun r5 hr5 h=>bnK h fun n8 hn8 h=>bnK h fun n9 hn9 h=>bnK h fun r6 hr6 h=>bnK h fun n10 hn10 h=>bnK h fun n11 hn11 h=>bnK h fun r7 hr7 h=>bnK h fun n12 hn12 h=>bnK h fun n13 hn13 h=>have p1 {q p} (k:Scr q p):=(rr (Zdz hr2) (tp (.obl) (ob (cat0 hn3) (rr (Zb2 hr3) (tp (.obl) (tp (.obl) (ob (cat0 hn4) (ob (cat0 hn5) (rr (Xy hr4) (tp (.obl) (tp (.obl) (ob (cat0 hn6) (ob (cat0 hn7) (rr (Xy hr5) (tp (.obl) (tp (.obl) (ob (cat0 hn8) (ob (cat0 hn9) (rr (Xy hr6) (tp (.obl) (tp (.obl) (ob (cat0 hn10) (ob (cat0 hn11) (rr (Xy hr7) (tp (.obl) (tp (.obl) (ob (cat0 hn12) (ob (cat0 hn13) k))))))))))))))))))))))))))));itK h (fun g1 h=>bnK h fun n14 hn14 h=>cutX [((1,1),(1,0))] 9 (p1 (gg g1 (tp (.obl) (ob (cat0 hn14) ee)))) (W7 h)) fun g1 h=>bnK h fun n15 hn15 h=>cutX [((1,1),(1,0))] 9 (p1 (gg g1 (tp (.obl) (ob (cat0 hn15) ee)))) (W7 h))
abbrev Zcg (x0:Int) (r:ByteArray):Y:=(46,[il x0],ss r,[.undef])
theorem Zb6 {x0:Int} {r:ByteArray} (h:Y9 x0=some r):Fine Tryd.prog Mo (Zcg x0 r):=
 Yx Tryd.func46 (bnK h fun r0 hr0 h=>rtK h (kk 1 (ob (show 4=([(strL [105,100,108,101]),ByteArray.empty,(strL [102,105,114,115,116]),(strL [110,101,120,116])].map encS).length from rfl) (rr (J1 hr0) ee))))
abbrev Zed (x0:Int) (r:ByteArray):Y:=(47,[il x0],ss r,[.undef])
theorem X7 {x0:Int} {r:ByteArray} (h:Ym x0=some r):Fine Tryd.prog Mo (Zed x0 r):=
 Yx Tryd.func47 (itK h (fun g1 h=>rtK h (gg g1 ee)) fun g1 h=>bnK h fun r0 hr0 h=>rtK h (gg g1 (rr (Zeb hr0) ee)))
abbrev K6 (x0:GWave) (r:ByteArray):Y:=(14,[.agg (GWave.enc x0)],ss r,[.undef])
theorem Qc {x0:GWave} {r:ByteArray} {v0:ByteArray} (h:Yh x0 v0=some r):CS (K6 x0 r) Tryd.f14 [1,1,1] [(1,.ptr (1,1) 0 0),(3,ss v0)] [bx 1 (GWave.enc x0)]:=
 bnK h fun r0 hr0 h=>bnK h fun r1 hr1 h=>bnK h fun r2 hr2 h=>bnK h fun n0 hn0 h=>bnK h fun r3 hr3 h=>bnK h fun n1 hn1 h=>bnK h fun r4 hr4 h=>bnK h fun n2 hn2 h=>bnK h fun r5 hr5 h=>bnK h fun n3 hn3 h=>bnK h fun r6 hr6 h=>bnK h fun r7 hr7 h=>bnK h fun r8 hr8 h=>rtK h (rr (Zeb hr0) (rr (Zb6 hr1) (rr (X7 hr2) (tp (.obl) (ob (cat0 hn0) (rr (X7 hr3) (tp (.obl) (ob (cat0 hn1) (rr (X7 hr4) (tp (.obl) (ob (cat0 hn2) (rr (X7 hr5) (tp (.obl) (ob (cat0 hn3) (rr (Zck hr6) (rr (X7 hr7) (kk 1 (ob (show 7=([r0,r1,((r2++(strL [58]))++r3),((r4++(strL [58]))++r5),v0,r6,r7].map encS).length from rfl) (rr (Zam hr8) ee)))))))))))))))))))
theorem Zbr {x0:GWave} {r:ByteArray} (h:Xx x0=some r):Fine Tryd.prog Mo (K6 x0 r):=
 Yx Tryd.func14 (itK h (fun g1 h=>cutX [((1,1),(1,0))] 9 (gg g1 ee) (Qc h)) fun g1 h=>cutX [((1,1),(1,0))] 9 (gg g1 ee) (Qc h))
abbrev Kp (x0:GWave) (r:Bool):Y:=(4,[.agg (GWave.enc x0)],bl r,[.undef])
theorem Ko {x0:GWave} {r:Bool} (h:Y3 x0=some r):Fine Tryd.prog Mo (Kp x0 r):=
 Yx Tryd.func4 (bnK h fun r0 hr0 h=>bnK h fun r1 hr1 h=>bnK h fun r2 hr2 h=>bnK h fun r3 hr3 h=>have p1 {q p} (k:Scr q p):=(rr (Zaf hr0) (rr (Zbm hr1) (rr (Zaf hr2) (rr (Zbr hr3) k))));itK h (fun g1 h=>rtK h (p1 (gg g1 ee))) fun g1 h=>rtK h (p1 (gg g1 ee)))
end Go.Proofs.YtgmmcfpabnoekaaDoor.Ev
