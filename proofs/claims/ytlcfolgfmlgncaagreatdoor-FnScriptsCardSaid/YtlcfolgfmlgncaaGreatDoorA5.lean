/- A part of the proof of FnScripts: see the text YtlcfolgfmlgncaaGreatDoorLawFnScripts for what is proved and its conditions. Conditions here: those in each line. -/
import Derived.Test.YtlcfolgfmlgncaaGreatDoorA4
namespace Go.Proofs.YtlcfolgfmlgncaaGreatDoor.Ev
open Go Go.Proofs
set_option linter.unusedVariables false
set_option linter.unusedSimpArgs false
set_option linter.unusedSectionVars false
variable [Anchor] [ExtOk]
theorem Zns {x0:GScript} {x1:GScript} {r:Bool} (h:Zal x0 x1=some r):Fine Tryz.prog Mo (Znk x0 x1 r):=
 Zj Tryz.func31 (bnK h fun r0 hr0 h=>itK h (fun g1 h=>bnK h fun r1 hr1 h=>have p1 {q p} (k:Scr q p):=(rr (Wm hr0) (gg g1 (kk 4 (rr (Wm hr1) (kk 1 k)))));itK h (fun g2 h=>bnK h fun r2 hr2 h=>rtK h (p1 (gg g2 (kk 4 (rr (Wx hr2) (kk 1 ee)))))) fun g2 h=>rtK h (p1 (gg g2 (kk 5 ee)))) fun g1 h=>rtK h (rr (Wm hr0) (gg g1 (kk 11 ee))))
abbrev Zh2 (x0:List Int) (r:Bool):Y:=(5,[.tr (x0.map encU)],bl r,[.undef])
theorem Qe {x0:List Int} {r:Bool} {vb0:GScript} {v0:ByteArray} {v1:Bool} {v2:Bool} {v3:Bool} (h:Y2 x0 vb0 v0 v1 v2 v3=some r):CS (Zh2 x0 r) Tryz.f5 [1,1,1,1,1,1,1,1,0,1] [(7,ss v0),(8,.ptr (1,1) 0 0),(9,bl v1),(11,bl v2),(58,bl v3)] (GScript.bk vb0 2++[bx 1 (GScript.rl vb0 2)]):=
 itK h (fun g1 h=>rtK h (gg g1 ee)) fun g1 h=>itK h (fun g2 h=>itK h (fun g3 h=>rtK h (gg g1 (gg g2 (kk 2 (gg g3 (kk 6 ee)))))) fun g3 h=>bnK h fun r0 hr0 h=>rtK h (gg g1 (gg g2 (kk 2 (gg g3 (kk 4 (GScript.so vb0 (rr (Zar hr0) (kk 5 ee))))))))) fun g2 h=>rtK h (gg g1 (gg g2 (kk 4 ee)))
theorem Zo5 {x0:List Int} {r:Bool} (h:Zdy x0=some r):Fine Tryz.prog Mo (Zh2 x0 r):=
 Zj Tryz.func5 (bnK h fun r1 hr1 h=>have p1 {q p} (k:Scr q p):=(rr (Zyn hr1) k);itK h (fun g1 h=>rtK h (p1 (gg g1 ee))) fun g1 h=>bnK h fun r2 hr2 h=>bnK h fun r3 hr3 h=>bnK h fun r4 hr4 h=>bnK h fun r5 hr5 h=>bnK h fun r6 hr6 h=>bnK h fun r7 hr7 h=>bnK h fun r8 hr8 h=>have p2 {q p} (k:Scr q p):=(p1 (gg g1 (rr (Ziy hr2) (kk 3 (GScript.so r2 (rr (Zar hr3) (rr (Zg7 hr4) (rr (Zi6 hr5) (rr (Zg7 hr6) (rr (Znc hr7) (kk 3 (GScript.so r2 (rr (Zco hr8) k)))))))))))));itK h (fun g2 h=>cutX ([((1,1),(7,5120))]++GScript.ff 2 7 1024) 22 (p2 (gg g2 (kk 4 (GScript.sc r6.1 ee)))) (Qe h)) fun g2 h=>itK h (fun g3 h=>itK h (fun g4 h=>cutX ([((1,1),(7,5120))]++GScript.ff 2 7 1024) 22 (p2 (gg g2 (kk 2 (gg g3 (kk 2 (gg g4 (kk 15 (GScript.sc r6.1 ee)))))))) (Qe h)) fun g4 h=>bnK h fun r9 hr9 h=>have p3 {q p} (k:Scr q p):=(p2 (gg g2 (kk 2 (gg g3 (kk 2 (gg g4 (kk 8 (GScript.so r4.1 (GScript.so r2 (rr (Zm8 hr9) (kk 4 k)))))))))));itK h (fun g5 h=>cutX ([((1,1),(7,5120))]++GScript.ff 2 7 1024) 22 (p3 (gg g5 (kk 8 (GScript.sc r6.1 ee)))) (Qe h)) fun g5 h=>bnK h fun r10 hr10 h=>cutX ([((1,1),(7,5120))]++GScript.ff 2 7 1024) 22 (p3 (gg g5 (kk 8 (GScript.so r4.1 (GScript.so r2 (rr (Zns hr10) (kk 6 (GScript.sc r6.1 ee)))))))) (Qe h)) fun g3 h=>cutX ([((1,1),(7,5120))]++GScript.ff 2 7 1024) 22 (p2 (gg g2 (kk 2 (gg g3 (kk 8 (GScript.sc r6.1 ee)))))) (Qe h))
end Go.Proofs.YtlcfolgfmlgncaaGreatDoor.Ev
