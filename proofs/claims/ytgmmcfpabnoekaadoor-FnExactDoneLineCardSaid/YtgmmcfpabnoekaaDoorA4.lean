/- A part of the proof of FnExactDoneLine: see the text YtgmmcfpabnoekaaDoorLawFnExactDoneLine for what is proved and its conditions. Conditions here: those in each line. -/
import Derived.Test.YtgmmcfpabnoekaaDoorA3
namespace Go.Proofs.YtgmmcfpabnoekaaDoor.Ev
open Go Go.Proofs
set_option linter.unusedVariables false
set_option linter.unusedSimpArgs false
set_option linter.unusedSectionVars false
variable [Anchor] [ExtOk]
abbrev Zej (x0:GDone) (r:GDone):Y:=(10,[.agg (GDone.enc x0)],.agg (GDone.enc r),[.undef])
theorem Jt {x0:GDone} {r:GDone} (h:Wb x0=some r):Fine Tryd.prog Mo (Zej x0 r):=
 Xc Tryd.func10 (rtK h ee)
abbrev Kx (x0:Int) (r:ByteArray):Y:=(38,[il x0],ss r,[.undef])
theorem K4 {x0:Int} {r:ByteArray} {k_L1:Int→ByteArray→Option ByteArray} (i_L1:∀{v0:Int} {v1:ByteArray},k_L1 v0 v1=some r→CS (Kx x0 r) Tryd.f38 [1,1,1,1,0,0] [(0,il v0),(3,ss v1),(4,bl (decide (x0 < 0)))] []) {v0:Int} {v1:ByteArray} {v2:Int} (h:Xa x0 k_L1 v0 v1 v2=some r):CS (Kx x0 r) Tryd.f38 [1,1,1,1,0,0,0,1,0,1,1] [(0,il v0),(3,ss v1),(4,bl (decide (x0 < 0))),(5,il v2)] []:=
 bnK h fun n0 hn0 h=>cutX [] 4 (kk 1 (tp (.val (.lit (.string (strB [(w8 (addW 48 v2))])))) (tp (.obl) (kk 1 (ob (show 1=([(w8 (addW 48 v2))].map encU).length from rfl) (ob (stx [(w8 (addW 48 v2))]) (ob (cat0 hn0) ee))))))) (i_L1 h)
theorem Zcq {x0:Int} {r:ByteArray}:∀{m:Nat} {v0:Int} {v1:ByteArray},Ys x0 m v0 v1=some r→CS (Kx x0 r) Tryd.f38 [1,1,1,1,0,0] [(0,il v0),(3,ss v1),(4,bl (decide (x0 < 0)))] []:=by
 intro m
 induction m with
 | zero=>intro v0 v1 h;cases h
 | succ m ih=>exact fun {v0} {v1} h=>itK h (fun g1 h=>itK h (fun g2 h=>cutX [] 14 (gg g1 (kk 1 (gg g2 ee))) (K4 ih h)) fun g2 h=>cutX [] 14 (gg g1 (kk 1 (gg g2 ee))) (K4 ih h)) fun g1 h=>itK h (fun g2 h=>bnK h fun n1 hn1 h=>rtK h (gg g1 (gg g2 (tp (.obl) (ob (cat0 hn1) ee))))) fun g2 h=>rtK h (gg g1 (gg g2 ee))
theorem K0 {x0:Int} {r:ByteArray} (h:Xv x0=some r):Fine Tryd.prog Mo (Kx x0 r):=
 Xc Tryd.func38 (itK h (fun g1 h=>rtK h (gg g1 ee)) fun g1 h=>cutX [] 13 (gg g1 ee) (Zcq h))
abbrev Zgy (x0:Int) (x1:Int) (x2:Int) (r:Bool):Y:=(74,[il x0,il x1,il x2],bl r,[.undef,.undef,.undef])
theorem Zce {x0:Int} {x1:Int} {x2:Int} {r:Bool} (h:Q8 x0 x1 x2=some r):Fine Tryd.prog Mo (Zgy x0 x1 x2 r):=
 Xc Tryd.func74 (itK h (fun g1 h=>rtK h (gg g1 (kk 3 ee))) fun g1 h=>rtK h (gg g1 (kk 3 ee)))
abbrev Zcg (x0:Int) (r:ByteArray):Y:=(39,[il x0],ss r,[.undef])
theorem Zcb {x0:Int} {r:ByteArray} (h:Y1 x0=some r):Fine Tryd.prog Mo (Zcg x0 r):=
 Xc Tryd.func39 (bnK h fun r0 hr0 h=>itK h (fun g1 h=>rtK h (rr (Zce hr0) (gg g1 ee))) fun g1 h=>bnK h fun a0 ha0 h=>rtK h (rr (Zce hr0) (gg g1 (xd encS ha0 ee))))
abbrev Kv (x0:GDone) (r:ByteArray):Y:=(9,[.agg (GDone.enc x0)],ss r,[.undef])
theorem Ww {x0:GDone} {r:ByteArray} {v0:ByteArray} (h:Yf x0 v0=some r):CS (Kv x0 r) Tryd.f9 [1,1,1] [(1,.ptr (1,1) 0 0),(3,ss v0)] [bx 1 (GDone.enc x0)]:=
 bnK h fun r0 hr0 h=>bnK h fun n0 hn0 h=>bnK h fun r1 hr1 h=>bnK h fun n1 hn1 h=>bnK h fun n2 hn2 h=>bnK h fun n3 hn3 h=>bnK h fun r2 hr2 h=>bnK h fun n4 hn4 h=>bnK h fun n5 hn5 h=>bnK h fun r3 hr3 h=>bnK h fun n6 hn6 h=>bnK h fun n7 hn7 h=>bnK h fun r4 hr4 h=>bnK h fun n8 hn8 h=>rtK h (rr (K0 hr0) (tp (.obl) (ob (cat0 hn0) (rr (K0 hr1) (tp (.obl) (tp (.obl) (tp (.obl) (ob (cat0 hn1) (ob (cat0 hn2) (ob (cat0 hn3) (rr (K0 hr2) (tp (.obl) (tp (.obl) (ob (cat0 hn4) (ob (cat0 hn5) (rr (K0 hr3) (tp (.obl) (tp (.obl) (ob (cat0 hn6) (ob (cat0 hn7) (rr (Zcb hr4) (tp (.obl) (ob (cat0 hn8) ee)))))))))))))))))))))))
theorem Zb8 {x0:GDone} {r:ByteArray} (h:Xo x0=some r):Fine Tryd.prog Mo (Kv x0 r):=
 Xc Tryd.func9 (itK h (fun g1 h=>cutX [((1,1),(1,0))] 9 (gg g1 ee) (Ww h)) fun g1 h=>cutX [((1,1),(1,0))] 9 (gg g1 ee) (Ww h))
abbrev Zg6 (x0:Int) (r:ByteArray):Y:=(41,[il x0],ss r,[.undef])
theorem Ky {x0:Int} {r:ByteArray} (h:Xw x0=some r):Fine Tryd.prog Mo (Zg6 x0 r):=
 Xc Tryd.func41 (bnK h fun r0 hr0 h=>rtK h (rr (Zad hr0) ee))
abbrev Za0 (x0:Bool) (r:ByteArray):Y:=(42,[bl x0],ss r,[.undef])
theorem Za5 {x0:Bool} {r:ByteArray} (h:Xb x0=some r):Fine Tryd.prog Mo (Za0 x0 r):=
 Xc Tryd.func42 (itK h (fun g1 h=>rtK h (gg g1 ee)) fun g1 h=>rtK h (gg g1 ee))
abbrev Zeg (x0:Int) (x1:Int) (x2:Int) (r:Bool):Y:=(77,[il x0,il x1,il x2],bl r,[.undef,.undef,.undef])
theorem J3 {x0:Int} {x1:Int} {x2:Int} {r:Bool} (h:Wi x0 x1 x2=some r):Fine Tryd.prog Mo (Zeg x0 x1 x2 r):=
 Xc Tryd.func77 (itK h (fun g1 h=>rtK h (gg g1 (kk 3 ee))) fun g1 h=>rtK h (gg g1 (kk 3 ee)))
abbrev Zed (x0:Int) (x1:List ByteArray) (r:ByteArray):Y:=(87,[il x0,.tr (x1.map encS)],ss r,[.undef,.undef])
theorem Zd0 {x0:Int} {x1:List ByteArray} {r:ByteArray} (h:We x0 x1=some r):Fine Tryd.prog Mo (Zed x0 x1 r):=
 Xc Tryd.func87 (bnK h fun r0 hr0 h=>itK h (fun g1 h=>rtK h (lr encS x1 (rr (J3 hr0) (gg g1 ee)))) fun g1 h=>bnK h fun a0 ha0 h=>rtK h (lr encS x1 (rr (J3 hr0) (gg g1 (xb encS ha0 ee)))))
abbrev Zb9 (x0:Int) (r:ByteArray):Y:=(43,[il x0],ss r,[.undef])
theorem Zbk {x0:Int} {r:ByteArray} (h:Y5 x0=some r):Fine Tryd.prog Mo (Zb9 x0 r):=
 Xc Tryd.func43 (bnK h fun r0 hr0 h=>rtK h (kk 1 (ob (show 4=([(strL [111,107,97,121]),(strL [101,114,114,111,114]),(strL [114,101,116,114,121]),(strL [115,112,108,105,116])].map encS).length from rfl) (rr (Zd0 hr0) ee))))
abbrev Zbc (x0:GDone) (r:ByteArray):Y:=(11,[.agg (GDone.enc x0)],ss r,[.undef])
theorem Zbr {x0:GDone} {r:ByteArray} (h:Xq x0=some r):Fine Tryd.prog Mo (Zbc x0 r):=
 Xc Tryd.func11 (bnK h fun r0 hr0 h=>bnK h fun r1 hr1 h=>bnK h fun r2 hr2 h=>bnK h fun r3 hr3 h=>bnK h fun r4 hr4 h=>bnK h fun r5 hr5 h=>bnK h fun r6 hr6 h=>rtK h (rr (Ky hr0) (rr (Ky hr1) (rr (Za5 hr2) (rr (Ky hr3) (rr (Ky hr4) (rr (Zbk hr5) (kk 1 (ob (show 6=([r0,r1,r2,r3,r4,r5].map encS).length from rfl) (rr (J6 hr6) ee))))))))))
abbrev Kc (x0:GDone) (r:Bool):Y:=(3,[.agg (GDone.enc x0)],bl r,[.undef])
theorem Kd {x0:GDone} {r:Bool} (h:Yu x0=some r):Fine Tryd.prog Mo (Kc x0 r):=
 Xc Tryd.func3 (bnK h fun r0 hr0 h=>bnK h fun r1 hr1 h=>bnK h fun r2 hr2 h=>bnK h fun r3 hr3 h=>have p1 {q p} (k:Scr q p):=(rr (Jt hr0) (rr (Zb8 hr1) (rr (Jt hr2) (rr (Zbr hr3) k))));itK h (fun g1 h=>rtK h (p1 (gg g1 ee))) fun g1 h=>rtK h (p1 (gg g1 ee)))
end Go.Proofs.YtgmmcfpabnoekaaDoor.Ev
