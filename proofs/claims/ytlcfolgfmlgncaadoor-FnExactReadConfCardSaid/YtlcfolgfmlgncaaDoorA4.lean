/- A part of the proof of FnExactReadConf: see the text YtlcfolgfmlgncaaDoorLawFnExactReadConf for what is proved and its conditions. Conditions here: those in each line. -/
import Derived.Test.YtlcfolgfmlgncaaDoorA3
namespace Go.Proofs.YtlcfolgfmlgncaaDoor.Ev
open Go Go.Proofs
set_option linter.unusedVariables false
set_option linter.unusedSimpArgs false
set_option linter.unusedSectionVars false
variable [Anchor] [ExtOk]
abbrev Zdv (x0:ByteArray) (x1:Int) (r:List ByteArray):Y:=(18,[ss x0,iu x1],.own 9 (r.map encS),[.undef,.undef])
theorem Zgy {x0:ByteArray} {x1:Int} {r:List ByteArray}:∀{m:Nat} {v0:List ByteArray} {v1:Int} {v2:Int},Wp x0 x1 m v0 v1 v2=some r→CS (Zdv x0 x1 r) Tryd.f18 [1,1,1,0,1,0] [(0,ss x0),(1,iu x1),(5,.sl (1,1) 0 (v0.map encS).length),(6,il v1),(7,il v2)] [rx 1 9 (v0.map encS)]:=by
 intro m
 induction m with
 | zero=>intro v0 v1 v2 h;cases h
 | succ m ih=>exact fun {v0} {v1} {v2} h=>itK h (fun g1 h=>bnK h fun a0 ha0 h=>itK h (fun g2 h=>bnK h fun s0 hs0 h=>bnK h fun z0 hz0 h=>cutX [((1,1),(4,6144))] 16 (gg g1 (tp (.val (.lit (.int .u8 a0))) (ob (six ha0) (gg g2 (tp (.val (.lit (.string s0))) (ta encS [s0] z0 (kk 1 (ob (ssx hs0) (oa 1 Q5 s0 (ox encS hz0 (ln encS z0 (oe encS z0 ee)))))))))))) (ih h)) fun g2 h=>cutX [((1,1),(1,1))] 14 (gg g1 (tp (.val (.lit (.int .u8 a0))) (ob (six ha0) (gg g2 (ln encS v0 ee))))) (ih h)) fun g1 h=>bnK h fun s1 hs1 h=>bnK h fun z1 hz1 h=>rtK h (gg g1 (tp (.val (.lit (.string s1))) (ta encS [s1] z1 (kk 2 (ob (ssxh hs1) (oa 1 Q5 s1 (ox encS hz1 (oe encS z1 (oe encS z1 ee)))))))))
theorem Zjw {x0:ByteArray} {x1:Int} {r:List ByteArray} (h:X6 x0 x1=some r):Fine Tryd.prog Mo (Zdv x0 x1 r):=
 Z0 Tryd.func18 (cutX [((1,1),(2,0))] 10 (tp (.num ([].map encS).length 0 0 []) (ob (show 0=([].map encS).length from rfl) ee)) (Zgy h))
abbrev Zl5 (x0:ByteArray) (x1:Int) (r:List ByteArray):Y:=(18,[ss x0,iu x1],.tr (r.map encS),[.undef,.undef])
theorem Zdf {x0:ByteArray} {x1:Int} {r:List ByteArray} (h:X6 x0 x1=some r):Fine Tryd.prog Mo (Zl5 x0 x1 r):=Znw (by kernel_rfl) (Zjw h)
abbrev Zdo (x0:Int) (r:ByteArray):Y:=(44,[il x0],ss r,[.undef])
theorem Zdr {x0:Int} {r:ByteArray} {k_L1:Int→ByteArray→Option ByteArray} (i_L1:∀{v0:Int} {v1:ByteArray},k_L1 v0 v1=some r→CS (Zdo x0 r) Tryd.f44 [1,1,1,1,0,0] [(0,il v0),(3,ss v1),(4,bl (decide (x0 < 0)))] []) {v0:Int} {v1:ByteArray} {v2:Int} (h:Qx x0 k_L1 v0 v1 v2=some r):CS (Zdo x0 r) Tryd.f44 [1,1,1,1,0,0,0,1,0,1,1] [(0,il v0),(3,ss v1),(4,bl (decide (x0 < 0))),(5,il v2)] []:=
 bnK h fun n0 hn0 h=>cutX [] 4 (kk 1 (tp (.val (.lit (.string (strB [(w8 (addW 48 v2))])))) (tp (.obl) (kk 1 (ob (show 1=([(w8 (addW 48 v2))].map encU).length from rfl) (ob (stx [(w8 (addW 48 v2))]) (ob (cat0 hn0) ee))))))) (i_L1 h)
theorem Zjp {x0:Int} {r:ByteArray}:∀{m:Nat} {v0:Int} {v1:ByteArray},Ww x0 m v0 v1=some r→CS (Zdo x0 r) Tryd.f44 [1,1,1,1,0,0] [(0,il v0),(3,ss v1),(4,bl (decide (x0 < 0)))] []:=by
 intro m
 induction m with
 | zero=>intro v0 v1 h;cases h
 | succ m ih=>exact fun {v0} {v1} h=>itK h (fun g1 h=>itK h (fun g2 h=>cutX [] 14 (gg g1 (kk 1 (gg g2 ee))) (Zdr ih h)) fun g2 h=>cutX [] 14 (gg g1 (kk 1 (gg g2 ee))) (Zdr ih h)) fun g1 h=>itK h (fun g2 h=>bnK h fun n1 hn1 h=>rtK h (gg g1 (gg g2 (tp (.obl) (ob (cat0 hn1) ee))))) fun g2 h=>rtK h (gg g1 (gg g2 ee))
theorem Wr {x0:Int} {r:ByteArray} (h:Xv x0=some r):Fine Tryd.prog Mo (Zdo x0 r):=
 Z0 Tryd.func44 (itK h (fun g1 h=>rtK h (gg g1 ee)) fun g1 h=>cutX [] 13 (gg g1 ee) (Zjp h))
abbrev Xm (x0:ByteArray) (r:Int×Bool):Y:=(19,[ss x0],.tup [il r.1,bl r.2],[.undef])
theorem Zaw {x0:ByteArray} {r:Int×Bool} {k_L1:Int→Int→Int→Option (Int×Bool)} (i_L1:∀{v0:Int} {v1:Int} {v2:Int},k_L1 v0 v1 v2=some r→CS (Xm x0 r) Tryd.f19 [1,1,1,0,1,0] [(0,ss x0),(4,il v0),(5,il v1),(6,il v2)] []) {v0:Int} {v1:Int} {v2:Int} {v3:Bool} (h:X3 x0 k_L1 v0 v1 v2 v3=some r):CS (Xm x0 r) Tryd.f19 [1,1,1,0,1,0,0,1,0,0,1] [(0,ss x0),(4,il v0),(5,il v1),(6,il v2),(26,bl v3)] []:=
 itK h (fun g1 h=>bnK h fun a0 ha0 h=>cutX [] 6 (gg g1 (tp (.val (.lit (.int .u8 a0))) (ob (six ha0) ee))) (i_L1 h)) fun g1 h=>cutX [] 4 (gg g1 ee) (i_L1 h)
theorem Zak {x0:ByteArray} {r:Int×Bool} {v0:Int} {v1:Int} (h:Yv x0 v0 v1=some r):CS (Xm x0 r) Tryd.f19 [1,1,1,1,1] [(0,ss x0),(4,il v0),(5,il v1)] []:=
 itK h (fun g1 h=>rtK h (gg g1 (kk 9 ee))) fun g1 h=>itK h (fun g2 h=>rtK h (gg g1 (kk 3 (gg g2 (kk 5 ee))))) fun g2 h=>bnK h fun r0 hr0 h=>itK h (fun g3 h=>rtK h (gg g1 (kk 3 (gg g2 (kk 1 (rr (Wr hr0) (kk 3 (gg g3 ee)))))))) fun g3 h=>rtK h (gg g1 (kk 3 (gg g2 (kk 1 (rr (Wr hr0) (kk 3 (gg g3 ee)))))))
theorem Zav {x0:ByteArray} {r:Int×Bool} {v0:Int} {v1:Int} {v4:Bool} (h:Zn x0 v0 v1 v4=some r):CS (Xm x0 r) Tryd.f19 [1,1,1,1,0,1] [(0,ss x0),(4,il v0),(5,il v1),(44,bl v4)] []:=
 itK h (fun g1 h=>cutX [] 2 (gg g1 ee) (Zak h)) fun g1 h=>cutX [] 2 (gg g1 ee) (Zak h)
theorem Zau {x0:ByteArray} {r:Int×Bool} {k_L1:Int→Int→Int→Option (Int×Bool)} (i_L1:∀{v0:Int} {v1:Int} {v2:Int},k_L1 v0 v1 v2=some r→CS (Xm x0 r) Tryd.f19 [1,1,1,0,1,0] [(0,ss x0),(4,il v0),(5,il v1),(6,il v2)] []) {v0:Int} {v1:Int} {v2:Int} {v5:Bool} (h:Xf x0 k_L1 v0 v1 v2 v5=some r):CS (Xm x0 r) Tryd.f19 [1,1,1,0,1,0,0,0,1] [(0,ss x0),(4,il v0),(5,il v1),(6,il v2),(14,bl v5)] []:=
 itK h (fun g1 h=>bnK h fun a1 ha1 h=>itK h (fun g2 h=>cutX [] 6 (gg g1 (tp (.val (.lit (.int .u8 a1))) (ob (six ha1) (gg g2 (kk 2 (tp (.val (.lit (.int .u8 a1))) (kk 2 (ob (six ha1) ee)))))))) (Zaw i_L1 h)) fun g2 h=>cutX [] 6 (gg g1 (tp (.val (.lit (.int .u8 a1))) (ob (six ha1) (gg g2 (kk 4 ee))))) (Zaw i_L1 h)) fun g1 h=>itK h (fun g2 h=>bnK h fun a2 ha2 h=>cutX [] 8 (gg g1 (gg g2 (kk 1 (tp (.val (.lit (.int .u8 a2))) (kk 2 (ob (six ha2) ee)))))) (Zav h)) fun g2 h=>cutX [] 8 (gg g1 (gg g2 (kk 3 ee))) (Zav h)
theorem Zfb {x0:ByteArray} {r:Int×Bool}:∀{m:Nat} {v0:Int} {v1:Int} {v2:Int},W2 x0 m v0 v1 v2=some r→CS (Xm x0 r) Tryd.f19 [1,1,1,0,1,0] [(0,ss x0),(4,il v0),(5,il v1),(6,il v2)] []:=by
 intro m
 induction m with
 | zero=>intro v0 v1 v2 h;cases h
 | succ m ih=>exact fun {v0} {v1} {v2} h=>itK h (fun g1 h=>cutX [] 4 (gg g1 (kk 2 ee)) (Zau ih h)) fun g1 h=>cutX [] 4 (gg g1 (kk 2 ee)) (Zau ih h)
theorem Xl {x0:ByteArray} {r:Int×Bool} (h:Yc x0=some r):Fine Tryd.prog Mo (Xm x0 r):=
 Z0 Tryd.func19 (cutX [] 10 ee (Zfb h))
abbrev Zn8 (x0:Int) (x1:Int) (x2:Int) (r:Bool):Y:=(35,[il x0,il x1,il x2],bl r,[.undef,.undef,.undef])
theorem Z9 {x0:Int} {x1:Int} {x2:Int} {r:Bool} (h:Z6 x0 x1 x2=some r):Fine Tryd.prog Mo (Zn8 x0 x1 x2 r):=
 Z0 Tryd.func35 (itK h (fun g1 h=>rtK h (gg g1 (kk 3 ee))) fun g1 h=>rtK h (gg g1 (kk 3 ee)))
abbrev Zfd (x0:GConf) (r:Int):Y:=(56,[.agg (GConf.enc x0)],il r,[.undef])
theorem Zbk {x0:GConf} {r:Int} {v0:Bool} (h:Qp x0 v0=some r):CS (Zfd x0 r) Tryd.f56 [1,0,1] [(1,.ptr (1,1) 0 0),(12,bl v0)] [bx 1 (GConf.enc x0)]:=
 itK h (fun g1 h=>rtK h (gg g1 ee)) fun g1 h=>rtK h (gg g1 ee)
theorem Kc {x0:GConf} {r:Int} (h:Wl x0=some r):Fine Tryd.prog Mo (Zfd x0 r):=
 Z0 Tryd.func56 (bnK h fun r0 hr0 h=>itK h (fun g1 h=>cutX [((1,1),(1,0))] 5 (rr (Z9 hr0) (gg g1 (kk 4 ee))) (Zbk h)) fun g1 h=>bnK h fun r1 hr1 h=>cutX [((1,1),(1,0))] 5 (rr (Z9 hr0) (gg g1 (kk 2 (rr (Z9 hr1) (kk 2 ee))))) (Zbk h))
abbrev Zkr (x0:GConf) (r:Int):Y:=(36,[.agg (GConf.enc x0)],il r,[.undef])
theorem Zew {x0:GConf} {r:Int} (h:X2 x0=some r):Fine Tryd.prog Mo (Zkr x0 r):=
 Z0 Tryd.func36 (bnK h fun r0 hr0 h=>itK h (fun g1 h=>rtK h (rr (Kc hr0) (gg g1 (kk 5 ee)))) fun g1 h=>bnK h fun r1 hr1 h=>itK h (fun g2 h=>rtK h (rr (Kc hr0) (gg g1 (kk 2 (rr (Z9 hr1) (kk 2 (gg g2 ee))))))) fun g2 h=>bnK h fun r2 hr2 h=>rtK h (rr (Kc hr0) (gg g1 (kk 2 (rr (Z9 hr1) (kk 2 (gg g2 (rr (Kc hr2) ee))))))))
abbrev Zh4 (x0:GConf) (r:Bool):Y:=(37,[.agg (GConf.enc x0)],bl r,[.undef])
theorem Zh2 {x0:GConf} {r:Bool} (h:Ko x0=some r):Fine Tryd.prog Mo (Zh4 x0 r):=
 Z0 Tryd.func37 (bnK h fun r0 hr0 h=>itK h (fun g1 h=>bnK h fun r1 hr1 h=>have p1 {q p} (k:Scr q p):=(rr (Z9 hr0) (gg g1 (kk 1 (rr (Kc hr1) (kk 2 k)))));itK h (fun g2 h=>bnK h fun r2 hr2 h=>itK h (fun g3 h=>bnK h fun r3 hr3 h=>rtK h (p1 (gg g2 (kk 2 (rr (Z9 hr2) (kk 1 (gg g3 (kk 2 (rr (Z9 hr3) (kk 1 ee)))))))))) fun g3 h=>rtK h (p1 (gg g2 (kk 2 (rr (Z9 hr2) (kk 1 (gg g3 (kk 3 ee)))))))) fun g2 h=>rtK h (p1 (gg g2 (kk 7 ee)))) fun g1 h=>rtK h (rr (Z9 hr0) (gg g1 (kk 11 ee))))
abbrev Zb5 (x0:GConf) (r:Bool):Y:=(14,[.agg (GConf.enc x0)],bl r,[.undef])
theorem Zfs {x0:GConf} {r:Bool}:∀{m:Nat} {v0:Int} {v1:Int},Yt x0 m v0 v1=some r→CS (Zb5 x0 r) Tryd.f14 [1,1,1,0,1,0] [(1,.ptr (1,1) 0 0),(3,il v0),(5,il v1)] [bx 1 (GConf.enc x0)]:=by
 intro m
 induction m with
 | zero=>intro v0 v1 h;cases h
 | succ m ih=>exact fun {v0} {v1} h=>have p1 {q p} (k:Scr q p):=(lr GMConf.enc x0.masters k);itK h (fun g1 h=>bnK h fun a0 ha0 h=>bnK h fun r0 hr0 h=>have p2 {q p} (k:Scr q p):=(p1 (gg g1 (xb GMConf.enc ha0 (rr (Z9 hr0) k))));itK h (fun g2 h=>rtK h (p2 (gg g2 (kk 11 ee)))) fun g2 h=>have p3 {q p} (k:Scr q p):=(p2 (gg g2 (kk 3 k)));itK h (fun g3 h=>itK h (fun g4 h=>rtK h (p3 (gg g3 (kk 3 (gg g4 (kk 13 ee)))))) fun g4 h=>have p4 {q p} (k:Scr q p):=(p3 (gg g3 (kk 3 (gg g4 (kk 7 k)))));itK h (fun g5 h=>rtK h (p4 (gg g5 (kk 5 ee)))) fun g5 h=>itK h (fun g6 h=>bnK h fun r1 hr1 h=>bnK h fun r2 hr2 h=>have p5 {q p} (k:Scr q p):=(p4 (gg g5 (kk 2 (gg g6 (kk 5 (rr (Zew hr1) (kk 2 (rr (Z9 hr2) (kk 2 k)))))))));itK h (fun g7 h=>rtK h (p5 (gg g7 (kk 9 ee)))) fun g7 h=>bnK h fun r3 hr3 h=>itK h (fun g8 h=>rtK h (p5 (gg g7 (kk 2 (rr (Z9 hr3) (kk 6 (gg g8 ee))))))) fun g8 h=>cutX [((1,1),(1,1))] 16 (p5 (gg g7 (kk 2 (rr (Z9 hr3) (kk 6 (gg g8 ee)))))) (ih h)) fun g6 h=>cutX [((1,1),(1,1))] 16 (p4 (gg g5 (kk 2 (gg g6 (kk 14 ee))))) (ih h)) fun g3 h=>itK h (fun g4 h=>bnK h fun r1 hr1 h=>bnK h fun r2 hr2 h=>have p6 {q p} (k:Scr q p):=(p3 (gg g3 (kk 10 (gg g4 (kk 5 (rr (Zew hr1) (kk 2 (rr (Z9 hr2) (kk 2 k)))))))));itK h (fun g5 h=>rtK h (p6 (gg g5 (kk 9 ee)))) fun g5 h=>bnK h fun r3 hr3 h=>itK h (fun g6 h=>rtK h (p6 (gg g5 (kk 2 (rr (Z9 hr3) (kk 6 (gg g6 ee))))))) fun g6 h=>cutX [((1,1),(1,1))] 16 (p6 (gg g5 (kk 2 (rr (Z9 hr3) (kk 6 (gg g6 ee)))))) (ih h)) fun g4 h=>cutX [((1,1),(1,1))] 16 (p3 (gg g3 (kk 10 (gg g4 (kk 14 ee))))) (ih h)) fun g1 h=>bnK h fun r4 hr4 h=>itK h (fun g2 h=>bnK h fun r5 hr5 h=>rtK h (p1 (gg g1 (lr GMConf.enc x0.masters (rr (Z9 hr4) (gg g2 (kk 1 (rr (Zh2 hr5) (kk 1 ee))))))))) fun g2 h=>rtK h (p1 (gg g1 (lr GMConf.enc x0.masters (rr (Z9 hr4) (gg g2 (kk 2 ee))))))
theorem Zfu {x0:GConf} {r:Bool}:∀{m:Nat} {v0:Int} {v2:Int},Qq x0 m v0 v2=some r→CS (Zb5 x0 r) Tryd.f14 [1,1,0,1,0] [(1,.ptr (1,1) 0 0),(3,il v0),(4,il v2)] [bx 1 (GConf.enc x0)]:=by
 intro m
 induction m with
 | zero=>intro v0 v2 h;cases h
 | succ m ih=>exact fun {v0} {v2} h=>itK h (fun g1 h=>bnK h fun a1 ha1 h=>itK h (fun g2 h=>cutX [((1,1),(1,1))] 14 (lr GMConf.enc x0.masters (gg g1 (xb GMConf.enc ha1 (gg g2 ee)))) (ih h)) fun g2 h=>cutX [((1,1),(1,1))] 14 (lr GMConf.enc x0.masters (gg g1 (xb GMConf.enc ha1 (gg g2 ee)))) (ih h)) fun g1 h=>cutX [((1,1),(1,1))] 13 (lr GMConf.enc x0.masters (gg g1 ee)) (Zfs h)
theorem Zfc {x0:GConf} {r:Bool} (h:Jk x0=some r):Fine Tryd.prog Mo (Zb5 x0 r):=
 Z0 Tryd.func14 (cutX [((1,1),(1,0))] 8 ee (Zfu h))
abbrev Zc2 (x0:GConf) (r:ByteArray):Y:=(20,[.agg (GConf.enc x0)],ss r,[.undef])
theorem Zed {x0:GConf} {r:ByteArray}:∀{m:Nat} {v0:ByteArray} {v1:Int},Xo x0 m v0 v1=some r→CS (Zc2 x0 r) Tryd.f20 [1,1,1,0,1,0] [(1,.ptr (1,1) 0 0),(3,ss v0),(4,il v1)] [bx 1 (GConf.enc x0)]:=by
 intro m
 induction m with
 | zero=>intro v0 v1 h;cases h
 | succ m ih=>exact fun {v0} {v1} h=>itK h (fun g1 h=>bnK h fun a0 ha0 h=>bnK h fun n0 hn0 h=>bnK h fun r0 hr0 h=>bnK h fun n1 hn1 h=>have p1 {q p} (k:Scr q p):=(lr GMConf.enc x0.masters (gg g1 (xb GMConf.enc ha0 (tp (.obl) (ob (cat0 hn0) (rr (Wr hr0) (tp (.obl) (ob (cat0 hn1) k))))))));itK h (fun g2 h=>bnK h fun n2 hn2 h=>bnK h fun r1 hr1 h=>bnK h fun n3 hn3 h=>bnK h fun n4 hn4 h=>bnK h fun r2 hr2 h=>bnK h fun n5 hn5 h=>cutX [((1,1),(1,1))] 18 (p1 (gg g2 (tp (.obl) (ob (cat0 hn2) (rr (Wr hr1) (tp (.obl) (tp (.obl) (ob (cat0 hn3) (ob (cat0 hn4) (rr (Wr hr2) (tp (.obl) (ob (cat0 hn5) ee)))))))))))) (ih h)) fun g2 h=>cutX [((1,1),(1,1))] 18 (p1 (gg g2 ee)) (ih h)) fun g1 h=>rtK h (lr GMConf.enc x0.masters (gg g1 ee))
theorem Zht {x0:GConf} {r:ByteArray} (h:Qd x0=some r):Fine Tryd.prog Mo (Zc2 x0 r):=
 Z0 Tryd.func20 (bnK h fun r3 hr3 h=>itK h (fun g1 h=>rtK h (rr (Zfc hr3) (gg g1 ee))) fun g1 h=>bnK h fun r4 hr4 h=>bnK h fun n6 hn6 h=>bnK h fun r5 hr5 h=>bnK h fun n7 hn7 h=>bnK h fun n8 hn8 h=>bnK h fun r6 hr6 h=>bnK h fun n9 hn9 h=>bnK h fun n10 hn10 h=>bnK h fun r7 hr7 h=>bnK h fun n11 hn11 h=>bnK h fun n12 hn12 h=>bnK h fun r8 hr8 h=>bnK h fun n13 hn13 h=>cutX [((1,1),(1,0))] 13 (rr (Zfc hr3) (gg g1 (rr (Wr hr4) (tp (.obl) (ob (cat0 hn6) (rr (Wr hr5) (tp (.obl) (tp (.obl) (ob (cat0 hn7) (ob (cat0 hn8) (rr (Wr hr6) (tp (.obl) (tp (.obl) (ob (cat0 hn9) (ob (cat0 hn10) (rr (Wr hr7) (tp (.obl) (tp (.obl) (ob (cat0 hn11) (ob (cat0 hn12) (rr (Wr hr8) (tp (.obl) (ob (cat0 hn13) ee))))))))))))))))))))))) (Zed h))
abbrev Kh (x0:ByteArray) (r:GConf×Bool):Y:=(5,[ss x0],.tup [.agg [.own 41 (r.1.masters.map GMConf.enc),il r.1.quantum,il r.1.maxWait,il r.1.maxRetry,il r.1.maxSplit,il r.1.lockMost],bl r.2],[.undef])
theorem Ju {x0:ByteArray} {r:GConf×Bool} {k_L1:GConf→(List ByteArray)→Int→Option (GConf×Bool)} (i_L1:∀{vb0:GConf} {v0:List ByteArray} {v1:Int},k_L1 vb0 v0 v1=some r→CS (Kh x0 r) Tryd.f5 [1,1,1,1,1,1,1,1,1,0,1,0] [(0,ss x0),(2,.ptr (1,1) 0 0),(4,.tr (v0.map encS)),(5,.ptr (1,3) 0 0),(6,il v1)] [rx 2 41 ([].map GMConf.enc),bx 1 [.sl (1,2) 0 ([].map GMConf.enc).length,il 0,il 0,il 0,il 0,il 0],rx 4 41 (vb0.masters.map GMConf.enc),bx 3 [.sl (1,4) 0 (vb0.masters.map GMConf.enc).length,il vb0.quantum,il vb0.maxWait,il vb0.maxRetry,il vb0.maxSplit,il vb0.lockMost]]) {vb0:GConf} {vb1:GMConf} {v0:List ByteArray} {v1:Int} (h:Yo x0 k_L1 vb0 vb1 v0 v1=some r):CS (Kh x0 r) Tryd.f5 [1,1,1,1,1,1,1,1,1,0,1,0,0,1,0,0,1,1,1,1] [(0,ss x0),(2,.ptr (1,1) 0 0),(4,.tr (v0.map encS)),(5,.ptr (1,3) 0 0),(6,il v1),(8,.ptr (1,5) 0 0)] [rx 2 41 ([].map GMConf.enc),bx 1 [.sl (1,2) 0 ([].map GMConf.enc).length,il 0,il 0,il 0,il 0,il 0],rx 4 41 (vb0.masters.map GMConf.enc),bx 3 [.sl (1,4) 0 (vb0.masters.map GMConf.enc).length,il vb0.quantum,il vb0.maxWait,il vb0.maxRetry,il vb0.maxSplit,il vb0.lockMost],bx 5 (GMConf.enc vb1)]:=
 bnK h fun z0 hz0 h=>cutX (ffi 1 3++[((1,4),(2,4096))]) 3 (ta GMConf.enc [vb1] z0 (kk 1 (oa 4 GMConf.enc_len vb1 (ox GMConf.enc hz0 (oe GMConf.enc z0 (ln GMConf.enc [] (ln GMConf.enc z0 ee))))))) (i_L1 h)
theorem Zeg {x0:ByteArray} {r:GConf×Bool}:∀{m:Nat} {vb0:GConf} {v0:List ByteArray} {v1:Int},Ya x0 m vb0 v0 v1=some r→CS (Kh x0 r) Tryd.f5 [1,1,1,1,1,1,1,1,1,0,1,0] [(0,ss x0),(2,.ptr (1,1) 0 0),(4,.tr (v0.map encS)),(5,.ptr (1,3) 0 0),(6,il v1)] [rx 2 41 ([].map GMConf.enc),bx 1 [.sl (1,2) 0 ([].map GMConf.enc).length,il 0,il 0,il 0,il 0,il 0],rx 4 41 (vb0.masters.map GMConf.enc),bx 3 [.sl (1,4) 0 (vb0.masters.map GMConf.enc).length,il vb0.quantum,il vb0.maxWait,il vb0.maxRetry,il vb0.maxSplit,il vb0.lockMost]]:=by
 intro m
 induction m with
 | zero=>intro vb0 v0 v1 h;cases h
 | succ m ih=>exact fun {vb0} {v0} {v1} h=>itK h (fun g1 h=>bnK h fun a0 ha0 h=>bnK h fun r0 hr0 h=>bnK h fun a1 ha1 h=>bnK h fun r1 hr1 h=>have p1 {q p} (k:Scr q p):=(lr encS v0 (gg g1 (xb encS ha0 (rr (Zdf hr0) (xb encS ha1 (rr (Xl hr1) (lr encS r0 k)))))));itK h (fun g2 h=>bnK h fun a2 ha2 h=>bnK h fun r2 hr2 h=>bnK h fun a3 ha3 h=>bnK h fun r3 hr3 h=>cutX (ffi 1 4++[((1,5),(4,1024))]) 23 (p1 (gg g2 (xb encS ha2 (rr (Xl hr2) (xb encS ha3 (rr (Xl hr3) (ln GMConf.enc [] (ln GMConf.enc vb0.masters ee)))))))) (Ju ih h)) fun g2 h=>cutX (ffi 1 4++[((1,5),(4,1024))]) 19 (p1 (gg g2 (ln GMConf.enc [] (ln GMConf.enc vb0.masters ee)))) (Ju ih h)) fun g1 h=>bnK h fun r4 hr4 h=>have p2 {q p} (k:Scr q p):=(lr encS v0 (gg g1 (kk 1 (oe GMConf.enc vb0.masters (rr (Zht hr4) k)))));itK h (fun g2 h=>rtK h (p2 (gg g2 (kk 3 ee)))) fun g2 h=>itK h (fun g3 h=>rtK h (p2 (gg g2 (kk 2 (gg g3 ee))))) fun g3 h=>rtK h (p2 (gg g2 (kk 2 (gg g3 (kk 1 (oe GMConf.enc vb0.masters ee))))))
theorem Zh1 {x0:ByteArray} {r:GConf×Bool} (h:Xp x0=some r):Fine Tryd.prog Mo (Kh x0 r):=
 Z0 Tryd.func5 (bnK h fun r5 hr5 h=>itK h (fun g1 h=>rtK h (rr (Zdf hr5) (lr encS r5 (gg g1 ee)))) fun g1 h=>bnK h fun a4 ha4 h=>bnK h fun r6 hr6 h=>bnK h fun a5 ha5 h=>bnK h fun r7 hr7 h=>bnK h fun a6 ha6 h=>bnK h fun r8 hr8 h=>bnK h fun a7 ha7 h=>bnK h fun r9 hr9 h=>bnK h fun a8 ha8 h=>bnK h fun r10 hr10 h=>cutX [((1,1),(1,0)),((1,3),(4,1024))] 25 (rr (Zdf hr5) (lr encS r5 (gg g1 (xb encS ha4 (rr (Xl hr6) (xb encS ha5 (rr (Xl hr7) (xb encS ha6 (rr (Xl hr8) (xb encS ha7 (rr (Xl hr9) (xb encS ha8 (rr (Xl hr10) ee))))))))))))) (Zeg h))
abbrev Zdt (x0:List ByteArray) (r:List Int×Bool):Y:=(22,[.tr (x0.map encS)],.tup [.own 3 (r.1.map encI),bl r.2],[.undef])
theorem Zeu {x0:List ByteArray} {r:List Int×Bool}:∀{m:Nat} {v0:List Int} {v1:Int},Xe x0 m v0 v1=some r→CS (Zdt x0 r) Tryd.f22 [1,1,0,1,0] [(4,.sl (1,1) 0 (v0.map encI).length),(10,.tr (x0.map encS)),(11,il (x0.length:Int)),(12,il v1)] [rx 1 3 (v0.map encI)]:=by
 intro m
 induction m with
 | zero=>intro v0 v1 h;cases h
 | succ m ih=>exact fun {v0} {v1} h=>itK h (fun g1 h=>bnK h fun a0 ha0 h=>bnK h fun r0 hr0 h=>itK h (fun g2 h=>rtK h (gg g1 (xb encS ha0 (rr (Zel hr0) (gg g2 ee))))) fun g2 h=>bnK h fun z0 hz0 h=>cutX [((1,1),(6,3072))] 20 (gg g1 (xb encS ha0 (rr (Zel hr0) (gg g2 (ta encI [r0.1] z0 (kk 1 (oa 1 Znq r0.1 (ox encI hz0 (ln encI z0 (oe encI z0 ee)))))))))) (ih h)) fun g1 h=>rtK h (gg g1 (kk 1 (oe encI v0 ee)))
theorem Zd3 {x0:List ByteArray} {r:List Int×Bool} (h:Ws x0=some r):Fine Tryd.prog Mo (Zdt x0 r):=
 Z0 Tryd.func22 (cutX [((1,1),(2,0))] 8 (lr encS x0 (tp (.num ([].map encI).length 0 0 []) (ob (show 0=([].map encI).length from rfl) ee))) (Zeu h))
abbrev Zkx (x0:Int) (x1:Int) (x2:Int) (r:Bool):Y:=(38,[il x0,il x1,il x2],bl r,[.undef,.undef,.undef])
theorem Yw {x0:Int} {x1:Int} {x2:Int} {r:Bool} (h:Yk x0 x1 x2=some r):Fine Tryd.prog Mo (Zkx x0 x1 x2 r):=
 Z0 Tryd.func38 (itK h (fun g1 h=>rtK h (gg g1 (kk 3 ee))) fun g1 h=>rtK h (gg g1 (kk 3 ee)))
abbrev Ze7 (x0:GConf) (r:Int):Y:=(57,[.agg (GConf.enc x0)],il r,[.undef])
theorem Zbq {x0:GConf} {r:Int} {v0:Bool} (h:K1 x0 v0=some r):CS (Ze7 x0 r) Tryd.f57 [1,0,1] [(1,.ptr (1,1) 0 0),(12,bl v0)] [bx 1 (GConf.enc x0)]:=
 itK h (fun g1 h=>rtK h (gg g1 ee)) fun g1 h=>rtK h (gg g1 ee)
theorem Zb3 {x0:GConf} {r:Int} (h:Kg x0=some r):Fine Tryd.prog Mo (Ze7 x0 r):=
 Z0 Tryd.func57 (bnK h fun r0 hr0 h=>itK h (fun g1 h=>cutX [((1,1),(1,0))] 5 (rr (Yw hr0) (gg g1 (kk 4 ee))) (Zbq h)) fun g1 h=>bnK h fun r1 hr1 h=>cutX [((1,1),(1,0))] 5 (rr (Yw hr0) (gg g1 (kk 2 (rr (Yw hr1) (kk 2 ee))))) (Zbq h))
abbrev Zlf (x0:GConf) (r:Int):Y:=(39,[.agg (GConf.enc x0)],il r,[.undef])
theorem Zcb {x0:GConf} {r:Int} (h:Kd x0=some r):Fine Tryd.prog Mo (Zlf x0 r):=
 Z0 Tryd.func39 (bnK h fun r0 hr0 h=>itK h (fun g1 h=>rtK h (rr (Zb3 hr0) (gg g1 (kk 5 ee)))) fun g1 h=>bnK h fun r1 hr1 h=>have p1 {q p} (k:Scr q p):=(rr (Zb3 hr0) (gg g1 (kk 2 (rr (Yw hr1) (kk 2 k)))));itK h (fun g2 h=>rtK h (p1 (gg g2 ee))) fun g2 h=>bnK h fun r2 hr2 h=>rtK h (p1 (gg g2 (rr (Zb3 hr2) ee))))
abbrev Zgh (x0:GConf) (r:Int):Y:=(59,[.agg (GConf.enc x0)],il r,[.undef])
theorem Zgv {x0:GConf} {r:Int}:∀{m:Nat} {v0:Int} {v1:Int},Q0 x0 m v0 v1=some r→CS (Zgh x0 r) Tryd.f59 [1,1,0,1,0] [(3,il v0),(7,.tr (x0.masters.map GMConf.enc)),(8,il (x0.masters.length:Int)),(9,il v1)] []:=by
 intro m
 induction m with
 | zero=>intro v0 v1 h;cases h
 | succ m ih=>exact fun {v0} {v1} h=>itK h (fun g1 h=>bnK h fun a0 ha0 h=>itK h (fun g2 h=>cutX [] 16 (gg g1 (xb GMConf.enc ha0 (gg g2 ee))) (ih h)) fun g2 h=>cutX [] 16 (gg g1 (xb GMConf.enc ha0 (gg g2 ee))) (ih h)) fun g1 h=>rtK h (gg g1 ee)
theorem Zmb {x0:GConf} {r:Int} (h:Zaz x0=some r):Fine Tryd.prog Mo (Zgh x0 r):=
 Z0 Tryd.func59 (cutX [] 8 (lr GMConf.enc x0.masters ee) (Zgv h))
abbrev Zft (x0:GConf) (r:Int):Y:=(42,[.agg (GConf.enc x0)],il r,[.undef])
theorem Zba {x0:GConf} {r:Int} (h:Qj x0=some r):Fine Tryd.prog Mo (Zft x0 r):=
 Z0 Tryd.func42 (bnK h fun r0 hr0 h=>bnK h fun r1 hr1 h=>rtK h (rr (Zcb hr0) (rr (Zmb hr1) ee)))
abbrev Zig (x0:GMConf) (x1:GConf) (r:Bool):Y:=(41,[.agg (GMConf.enc x0),.rp true (GConf.enc x1) 0],bl r,[.undef,.undef])
theorem Zct {x0:GMConf} {x1:GConf} {r:Bool} (h:Kl x0 x1=some r):Fine Tryd.prog Mo (Zig x0 x1 r):=
 Z0 Tryd.func41 (bnK h fun r0 hr0 h=>have p1 {q p} (k:Scr q p):=(rr (Yw hr0) k);itK h (fun g1 h=>rtK h (p1 (gg g1 ee))) fun g1 h=>itK h (fun g2 h=>bnK h fun r1 hr1 h=>bnK h fun r2 hr2 h=>itK h (fun g3 h=>rtK h (p1 (gg g1 (gg g2 (rr (Zba hr1) (rr (Yw hr2) (gg g3 (kk 4 ee)))))))) fun g3 h=>bnK h fun r3 hr3 h=>rtK h (p1 (gg g1 (gg g2 (rr (Zba hr1) (rr (Yw hr2) (gg g3 (kk 2 (rr (Yw hr3) (kk 2 ee)))))))))) fun g2 h=>itK h (fun g3 h=>rtK h (p1 (gg g1 (gg g2 (gg g3 (kk 3 ee)))))) fun g3 h=>rtK h (p1 (gg g1 (gg g2 (gg g3 (kk 3 ee))))))
abbrev Ys (x0:List GMConf) (x1c0:GConf) (r:Int):Y:=(58,[.tr (x0.map GMConf.enc),.fn 41 [.rp true (GConf.enc x1c0) 0]],il r,[.undef,.undef])
theorem Xt {x0:List GMConf} {x1c0:GConf} {r:Int}:∀{m:Nat} {v0:Int},Zg x0 x1c0 m v0=some r→CS (Ys x0 x1c0 r) Tryd.f58 [1,0,1,0] [(0,.tr (x0.map GMConf.enc)),(1,.fn 41 [.rp true (GConf.enc x1c0) 0]),(7,il (x0.length:Int)),(8,il v0)] []:=by
 intro m
 induction m with
 | zero=>intro v0 h;cases h
 | succ m ih=>exact fun {v0} h=>itK h (fun g1 h=>bnK h fun a0 ha0 h=>bnK h fun r0 hr0 h=>itK h (fun g2 h=>rtK h (gg g1 (xb GMConf.enc ha0 (rr (Zct hr0) (gg g2 ee))))) fun g2 h=>cutX [] 16 (gg g1 (xb GMConf.enc ha0 (rr (Zct hr0) (gg g2 ee)))) (ih h)) fun g1 h=>rtK h (gg g1 ee)
theorem Wh {x0:List GMConf} {x1c0:GConf} {r:Int} (h:Z5 x0 x1c0=some r):Fine Tryd.prog Mo (Ys x0 x1c0 r):=
 Z0 Tryd.func58 (cutX [] 6 (lr GMConf.enc x0 ee) (Xt h))
abbrev Xy (x0:List GMConf) (x1c0:GConf) (r:Bool):Y:=(40,[.tr (x0.map GMConf.enc),.fn 41 [.rp true (GConf.enc x1c0) 0]],bl r,[.undef,.undef])
theorem X8 {x0:List GMConf} {x1c0:GConf} {r:Bool} (h:Zm x0 x1c0=some r):Fine Tryd.prog Mo (Xy x0 x1c0 r):=
 Z0 Tryd.func40 (bnK h fun r0 hr0 h=>rtK h (rr (Wh hr0) ee))
abbrev Zkj (x0:GConf) (r:Bool):Y:=(15,[.agg (GConf.enc x0)],bl r,[.undef])
theorem Zch {x0:GConf} {r:Bool} (h:Qn x0=some r):Fine Tryd.prog Mo (Zkj x0 r):=
 Z0 Tryd.func15 (bnK h fun r0 hr0 h=>have p1 {q p} (k:Scr q p):=(lr GMConf.enc x0.masters (rr (Yw hr0) k));itK h (fun g1 h=>rtK h (p1 (gg g1 (kk 14 ee)))) fun g1 h=>bnK h fun r1 hr1 h=>have p2 {q p} (k:Scr q p):=(p1 (gg g1 (kk 2 (rr (Yw hr1) (kk 2 k)))));itK h (fun g2 h=>rtK h (p2 (gg g2 (kk 9 ee)))) fun g2 h=>bnK h fun r2 hr2 h=>have p3 {q p} (k:Scr q p):=(p2 (gg g2 (kk 2 (rr (Yw hr2) (kk 2 k)))));itK h (fun g3 h=>rtK h (p3 (gg g3 (kk 4 ee)))) fun g3 h=>bnK h fun r3 hr3 h=>itK h (fun g4 h=>rtK h (p3 (gg g3 (kk 1 (rr (Zcb hr3) (kk 2 (gg g4 ee))))))) fun g4 h=>bnK h fun r4 hr4 h=>rtK h (p3 (gg g3 (kk 1 (rr (Zcb hr3) (kk 2 (gg g4 (rr (X8 hr4) ee))))))))
abbrev Zpb (x0:Int) (r:ByteArray):Y:=(29,[il x0],ss r,[.undef])
theorem Zf1 {x0:Int} {r:ByteArray} (h:Za7 x0=some r):Fine Tryd.prog Mo (Zpb x0 r):=
 Z0 Tryd.func29 (bnK h fun r0 hr0 h=>rtK h (rr (Zfw hr0) ee))
abbrev Zg5 (x0:List Int) (r:List ByteArray):Y:=(28,[.tr (x0.map encI)],.own 9 (r.map encS),[.undef])
theorem Zho {x0:List Int} {r:List ByteArray}:∀{m:Nat} {v0:List ByteArray} {v1:Int},Kt x0 m v0 v1=some r→CS (Zg5 x0 r) Tryd.f28 [1,1,0,1,0] [(3,.sl (1,1) 0 (v0.map encS).length),(7,.tr (x0.map encI)),(8,il (x0.length:Int)),(9,il v1)] [rx 1 9 (v0.map encS)]:=by
 intro m
 induction m with
 | zero=>intro v0 v1 h;cases h
 | succ m ih=>exact fun {v0} {v1} h=>itK h (fun g1 h=>bnK h fun a0 ha0 h=>bnK h fun r0 hr0 h=>bnK h fun z0 hz0 h=>cutX [((1,1),(4,4096))] 13 (gg g1 (xb encI ha0 (rr (Zf1 hr0) (ta encS [r0] z0 (kk 1 (oa 1 Q5 r0 (ox encS hz0 (ln encS z0 (oe encS z0 ee))))))))) (ih h)) fun g1 h=>rtK h (gg g1 (kk 1 (oe encS v0 ee)))
theorem Zir {x0:List Int} {r:List ByteArray} (h:Q4 x0=some r):Fine Tryd.prog Mo (Zg5 x0 r):=
 Z0 Tryd.func28 (cutX [((1,1),(2,0))] 8 (lr encI x0 (tp (.num ([].map encS).length 0 0 []) (ob (show 0=([].map encS).length from rfl) ee))) (Zho h))
abbrev Zcq (x0:GConf) (r:ByteArray):Y:=(12,[.agg (GConf.enc x0)],ss r,[.undef])
theorem Zeb {x0:GConf} {r:ByteArray}:∀{m:Nat} {v0:List ByteArray} {v1:Int},Wm x0 m v0 v1=some r→CS (Zcq x0 r) Tryd.f12 [1,1,1,0,1,0] [(3,.sl (1,1) 0 (v0.map encS).length),(23,.tr (x0.masters.map GMConf.enc)),(24,il (x0.masters.length:Int)),(25,il v1)] [rx 1 9 (v0.map encS)]:=by
 intro m
 induction m with
 | zero=>intro v0 v1 h;cases h
 | succ m ih=>exact fun {v0} {v1} h=>itK h (fun g1 h=>bnK h fun a0 ha0 h=>bnK h fun r0 hr0 h=>itK h (fun g2 h=>bnK h fun r1 hr1 h=>bnK h fun r2 hr2 h=>bnK h fun z0 hz0 h=>cutX [((1,1),(7,3072))] 20 (gg g1 (xb GMConf.enc ha0 (rr (Zf1 hr0) (gg g2 (kk 1 (ob (show 3=([a0.weight,a0.every,a0.cap].map encI).length from rfl) (rr (Zir hr1) (kk 1 (oe encS r1 (rr (Zbn hr2) (ta encS [r2] z0 (kk 1 (oa 1 Q5 r2 (ox encS hz0 (ln encS z0 (oe encS z0 ee)))))))))))))))) (ih h)) fun g2 h=>bnK h fun z0 hz0 h=>cutX [((1,1),(6,3072))] 20 (gg g1 (xb GMConf.enc ha0 (rr (Zf1 hr0) (gg g2 (ta encS [r0] z0 (kk 1 (oa 1 Q5 r0 (ox encS hz0 (ln encS z0 (oe encS z0 ee)))))))))) (ih h)) fun g1 h=>bnK h fun r3 hr3 h=>rtK h (gg g1 (kk 1 (oe encS v0 (rr (Zbn hr3) ee))))
theorem Zhh {x0:GConf} {r:ByteArray} (h:W3 x0=some r):Fine Tryd.prog Mo (Zcq x0 r):=
 Z0 Tryd.func12 (bnK h fun r4 hr4 h=>itK h (fun g1 h=>rtK h (rr (Zch hr4) (gg g1 ee))) fun g1 h=>bnK h fun r5 hr5 h=>cutX [((1,1),(3,11264))] 13 (rr (Zch hr4) (gg g1 (kk 1 (ob (show 5=([x0.quantum,x0.maxWait,x0.maxRetry,x0.maxSplit,x0.lockMost].map encI).length from rfl) (rr (Zir hr5) (lr GMConf.enc x0.masters (ln encS r5 ee))))))) (Zeb h))
abbrev Xr (x0:ByteArray) (r:GConf×Bool):Y:=(6,[ss x0],.tup [.agg [.own 41 (r.1.masters.map GMConf.enc),il r.1.quantum,il r.1.maxWait,il r.1.maxRetry,il r.1.maxSplit,il r.1.lockMost],bl r.2],[.undef])
theorem Zaf {x0:ByteArray} {r:GConf×Bool} {k_L1:GConf→(List ByteArray)→Int→Int→Option (GConf×Bool)} (i_L1:∀{vb0:GConf} {v1:List ByteArray} {v2:Int} {v3:Int},k_L1 vb0 v1 v2 v3=some r→CS (Xr x0 r) Tryd.f6 [1,1,1,1,1,1,0,1,0] [(0,ss x0),(2,.ptr (1,1) 0 0),(7,.ptr (1,3) 0 0),(49,.tr (v1.map encS)),(50,il v2),(51,il v3)] [rx 2 41 ([].map GMConf.enc),bx 1 [.sl (1,2) 0 ([].map GMConf.enc).length,il 0,il 0,il 0,il 0,il 0],rx 4 41 (vb0.masters.map GMConf.enc),bx 3 [.sl (1,4) 0 (vb0.masters.map GMConf.enc).length,il vb0.quantum,il vb0.maxWait,il vb0.maxRetry,il vb0.maxSplit,il vb0.lockMost]]) {vb0:GConf} {v0:List Int} {v1:List ByteArray} {v2:Int} {v3:Int} {v4:Bool} (h:Yl x0 k_L1 vb0 v0 v1 v2 v3 v4=some r):CS (Xr x0 r) Tryd.f6 [1,1,1,1,1,1,0,1,0,0,1,1,0,0,1,1,0,1,1,1] [(0,ss x0),(2,.ptr (1,1) 0 0),(7,.ptr (1,3) 0 0),(10,.sl (1,5) 0 (v0.map encI).length),(49,.tr (v1.map encS)),(50,il v2),(51,il v3),(78,bl v4)] [rx 2 41 ([].map GMConf.enc),bx 1 [.sl (1,2) 0 ([].map GMConf.enc).length,il 0,il 0,il 0,il 0,il 0],rx 4 41 (vb0.masters.map GMConf.enc),bx 3 [.sl (1,4) 0 (vb0.masters.map GMConf.enc).length,il vb0.quantum,il vb0.maxWait,il vb0.maxRetry,il vb0.maxSplit,il vb0.lockMost],rx 5 3 (v0.map encI)]:=
 itK h (fun g1 h=>bnK h fun a0 ha0 h=>bnK h fun a1 ha1 h=>bnK h fun a2 ha2 h=>bnK h fun z0 hz0 h=>cutX (ffi 1 3++[((1,4),(2,13312))]) 5 (gg g1 (xd encI ha0 (xd encI ha1 (xd encI ha2 (ta GMConf.enc [(GMConf.mk a0 true a1 a2)] z0 (kk 1 (oa 4 GMConf.enc_len (GMConf.mk a0 true a1 a2) (ox GMConf.enc hz0 (oe GMConf.enc z0 (ln GMConf.enc [] (ln GMConf.enc z0 ee))))))))))) (i_L1 h)) fun g1 h=>rtK h (gg g1 ee)
theorem Zag {x0:ByteArray} {r:GConf×Bool} {k_L1:GConf→(List ByteArray)→Int→Int→Option (GConf×Bool)} (i_L1:∀{vb0:GConf} {v1:List ByteArray} {v2:Int} {v3:Int},k_L1 vb0 v1 v2 v3=some r→CS (Xr x0 r) Tryd.f6 [1,1,1,1,1,1,0,1,0] [(0,ss x0),(2,.ptr (1,1) 0 0),(7,.ptr (1,3) 0 0),(49,.tr (v1.map encS)),(50,il v2),(51,il v3)] [rx 2 41 ([].map GMConf.enc),bx 1 [.sl (1,2) 0 ([].map GMConf.enc).length,il 0,il 0,il 0,il 0,il 0],rx 4 41 (vb0.masters.map GMConf.enc),bx 3 [.sl (1,4) 0 (vb0.masters.map GMConf.enc).length,il vb0.quantum,il vb0.maxWait,il vb0.maxRetry,il vb0.maxSplit,il vb0.lockMost]]) {vb0:GConf} {v0:List Int} {v5:Bool} {v1:List ByteArray} {v2:Int} {v3:Int} {v6:Bool} (h:Ym x0 k_L1 vb0 v0 v5 v1 v2 v3 v6=some r):CS (Xr x0 r) Tryd.f6 [1,1,1,1,1,1,0,1,0,0,1,1,0,0,1,1,0,1] [(0,ss x0),(2,.ptr (1,1) 0 0),(7,.ptr (1,3) 0 0),(10,.sl (1,5) 0 (v0.map encI).length),(11,bl v5),(49,.tr (v1.map encS)),(50,il v2),(51,il v3),(62,bl v6)] [rx 2 41 ([].map GMConf.enc),bx 1 [.sl (1,2) 0 ([].map GMConf.enc).length,il 0,il 0,il 0,il 0,il 0],rx 4 41 (vb0.masters.map GMConf.enc),bx 3 [.sl (1,4) 0 (vb0.masters.map GMConf.enc).length,il vb0.quantum,il vb0.maxWait,il vb0.maxRetry,il vb0.maxSplit,il vb0.lockMost],rx 5 3 (v0.map encI)]:=
 itK h (fun g1 h=>bnK h fun a3 ha3 h=>bnK h fun z1 hz1 h=>cutX (ffi 1 3++[((1,4),(2,7168))]) 5 (gg g1 (xd encI ha3 (ta GMConf.enc [(GMConf.mk a3 false 0 0)] z1 (kk 1 (oa 4 GMConf.enc_len (GMConf.mk a3 false 0 0) (ox GMConf.enc hz1 (oe GMConf.enc z1 (ln GMConf.enc [] (ln GMConf.enc z1 ee))))))))) (i_L1 h)) fun g1 h=>itK h (fun g2 h=>cutX (ffi 1 5) 3 (gg g1 (gg g2 (kk 1 (lr encI v0 (kk 2 (ln encI v0 (ln GMConf.enc [] (ln GMConf.enc vb0.masters ee)))))))) (Zaf i_L1 h)) fun g2 h=>cutX (ffi 1 5) 3 (gg g1 (gg g2 (kk 3 (ln encI v0 (ln GMConf.enc [] (ln GMConf.enc vb0.masters ee)))))) (Zaf i_L1 h)
theorem Zef {x0:ByteArray} {r:GConf×Bool}:∀{m:Nat} {vb0:GConf} {v1:List ByteArray} {v2:Int} {v3:Int},Zu x0 m vb0 v1 v2 v3=some r→CS (Xr x0 r) Tryd.f6 [1,1,1,1,1,1,0,1,0] [(0,ss x0),(2,.ptr (1,1) 0 0),(7,.ptr (1,3) 0 0),(49,.tr (v1.map encS)),(50,il v2),(51,il v3)] [rx 2 41 ([].map GMConf.enc),bx 1 [.sl (1,2) 0 ([].map GMConf.enc).length,il 0,il 0,il 0,il 0,il 0],rx 4 41 (vb0.masters.map GMConf.enc),bx 3 [.sl (1,4) 0 (vb0.masters.map GMConf.enc).length,il vb0.quantum,il vb0.maxWait,il vb0.maxRetry,il vb0.maxSplit,il vb0.lockMost]]:=by
 intro m
 induction m with
 | zero=>intro vb0 v1 v2 v3 h;cases h
 | succ m ih=>exact fun {vb0} {v1} {v2} {v3} h=>itK h (fun g1 h=>bnK h fun a4 ha4 h=>bnK h fun r0 hr0 h=>bnK h fun r1 hr1 h=>have p1 {q p} (k:Scr q p):=(gg g1 (xb encS ha4 (rr (Ki hr0) (rr (Zd3 hr1) k))));itK h (fun g2 h=>cutX (ffi 1 4++[((1,5),(4,2048))]) 15 (p1 (gg g2 (kk 1 (lr encI r1.1 (kk 2 (ln encI r1.1 (ln GMConf.enc [] (ln GMConf.enc vb0.masters ee)))))))) (Zag ih h)) fun g2 h=>cutX (ffi 1 4++[((1,5),(4,2048))]) 15 (p1 (gg g2 (kk 3 (ln encI r1.1 (ln GMConf.enc [] (ln GMConf.enc vb0.masters ee)))))) (Zag ih h)) fun g1 h=>bnK h fun r2 hr2 h=>have p2 {q p} (k:Scr q p):=(gg g1 (kk 1 (oe GMConf.enc vb0.masters (rr (Zch hr2) k))));itK h (fun g2 h=>rtK h (p2 (gg g2 (kk 5 ee)))) fun g2 h=>bnK h fun r3 hr3 h=>have p3 {q p} (k:Scr q p):=(p2 (gg g2 (kk 2 (oe GMConf.enc vb0.masters (rr (Zhh hr3) (kk 3 k))))));itK h (fun g3 h=>rtK h (p3 (gg g3 ee))) fun g3 h=>rtK h (p3 (gg g3 (kk 1 (oe GMConf.enc vb0.masters ee))))
theorem Zac {x0:ByteArray} {r:GConf×Bool} {v7:List ByteArray} {v8:Bool} (h:Y4 x0 v7 v8=some r):CS (Xr x0 r) Tryd.f6 [1,1,0,1] [(0,ss x0),(2,.ptr (1,1) 0 0),(4,.tr (v7.map encS)),(21,bl v8)] [rx 2 41 ([].map GMConf.enc),bx 1 [.sl (1,2) 0 ([].map GMConf.enc).length,il 0,il 0,il 0,il 0,il 0]]:=
 itK h (fun g1 h=>rtK h (gg g1 ee)) fun g1 h=>bnK h fun s0 hs0 h=>bnK h fun r4 hr4 h=>have p1 {q p} (k:Scr q p):=(gg g1 (tp (.num (0:Int).toNat (5:Int).toNat 0 (s0.map encS)) (ob (Eq.refl 0) (ob (sln hs0).2 (ob (sll encS hs0) (ob (alr 1 Q5 v7) (ob (slr encS hs0) (rr (Zd3 hr4) k))))))));itK h (fun g2 h=>rtK h (p1 (gg g2 ee))) fun g2 h=>bnK h fun a5 ha5 h=>bnK h fun a6 ha6 h=>bnK h fun a7 ha7 h=>bnK h fun a8 ha8 h=>bnK h fun a9 ha9 h=>bnK h fun s1 hs1 h=>cutX [((1,1),(1,1)),((1,2),(1,2)),((1,3),(4,16384))] 15 (p1 (gg g2 (xd encI ha5 (xd encI ha6 (xd encI ha7 (xd encI ha8 (xd encI ha9 (tp (.num (5:Int).toNat ((v7.length:Int):Int).toNat 0 (s1.map encS)) (ob (sln hs1).1 (ob (lenr encS v7) (ob (sll encS hs1) (ob (alr 1 Q5 v7) (ob (slr encS hs1) (lr encS s1 (ln GMConf.enc [] ee))))))))))))))) (Zef h)
theorem Zcv {x0:ByteArray} {r:GConf×Bool} (h:Xa x0=some r):Fine Tryd.prog Mo (Xr x0 r):=
 Z0 Tryd.func6 (bnK h fun r5 hr5 h=>itK h (fun g1 h=>cutX [((1,1),(1,0))] 7 (rr (Ki hr5) (lr encS r5 (gg g1 (kk 3 ee)))) (Zac h)) fun g1 h=>cutX [((1,1),(1,0))] 7 (rr (Ki hr5) (lr encS r5 (gg g1 (kk 1 (lr encS r5 (kk 2 ee)))))) (Zac h))
abbrev Zjg (x0:GMConf) (x1:GMConf) (r:Bool):Y:=(47,[.agg (GMConf.enc x0),.agg (GMConf.enc x1)],bl r,[.undef,.undef])
theorem Zjv {x0:GMConf} {x1:GMConf} {r:Bool} (h:Wu x0 x1=some r):Fine Tryd.prog Mo (Zjg x0 x1 r):=
 Z0 Tryd.func47 (itK h (fun g1 h=>rtK h (gg g1 ee)) fun g1 h=>itK h (fun g2 h=>rtK h (gg g1 (gg g2 ee))) fun g2 h=>itK h (fun g3 h=>rtK h (gg g1 (gg g2 (gg g3 ee)))) fun g3 h=>itK h (fun g4 h=>rtK h (gg g1 (gg g2 (gg g3 (gg g4 ee))))) fun g4 h=>rtK h (gg g1 (gg g2 (gg g3 (gg g4 ee)))))
abbrev Zdg (x0:List GMConf) (x1:List GMConf) (r:Bool):Y:=(23,[.tr (x0.map GMConf.enc),.tr (x1.map GMConf.enc)],bl r,[.undef,.undef])
theorem Zd9 {x0:List GMConf} {x1:List GMConf} {r:Bool}:∀{m:Nat} {v0:Int},Wk x0 x1 m v0=some r→CS (Zdg x0 x1 r) Tryd.f23 [1,1,0,1,0] [(0,.tr (x0.map GMConf.enc)),(1,.tr (x1.map GMConf.enc)),(5,il v0)] []:=by
 intro m
 induction m with
 | zero=>intro v0 h;cases h
 | succ m ih=>exact fun {v0} h=>itK h (fun g1 h=>bnK h fun a0 ha0 h=>bnK h fun a1 ha1 h=>bnK h fun r0 hr0 h=>have p1 {q p} (k:Scr q p):=(lr GMConf.enc x0 (gg g1 (xb GMConf.enc ha0 (xb GMConf.enc ha1 (rr (Zjv hr0) k)))));itK h (fun g2 h=>rtK h (p1 (gg g2 ee))) fun g2 h=>cutX [] 14 (p1 (gg g2 ee)) (ih h)) fun g1 h=>rtK h (lr GMConf.enc x0 (gg g1 ee))
theorem Zh6 {x0:List GMConf} {x1:List GMConf} {r:Bool} (h:Ks x0 x1=some r):Fine Tryd.prog Mo (Zdg x0 x1 r):=
 Z0 Tryd.func23 (itK h (fun g1 h=>rtK h (lr GMConf.enc x0 (lr GMConf.enc x1 (gg g1 ee)))) fun g1 h=>cutX [] 11 (lr GMConf.enc x0 (lr GMConf.enc x1 (gg g1 ee))) (Zd9 h))
abbrev Zkv (x0:GConf) (x1:GConf) (r:Bool):Y:=(7,[.agg (GConf.enc x0),.agg (GConf.enc x1)],bl r,[.undef,.undef])
theorem Zfk {x0:GConf} {x1:GConf} {r:Bool} (h:Qk x0 x1=some r):Fine Tryd.prog Mo (Zkv x0 x1 r):=
 Z0 Tryd.func7 (bnK h fun r0 hr0 h=>have p1 {q p} (k:Scr q p):=(rr (Zh6 hr0) k);itK h (fun g1 h=>rtK h (p1 (gg g1 ee))) fun g1 h=>itK h (fun g2 h=>rtK h (p1 (gg g1 (gg g2 ee)))) fun g2 h=>itK h (fun g3 h=>rtK h (p1 (gg g1 (gg g2 (gg g3 ee))))) fun g3 h=>itK h (fun g4 h=>rtK h (p1 (gg g1 (gg g2 (gg g3 (gg g4 ee)))))) fun g4 h=>itK h (fun g5 h=>rtK h (p1 (gg g1 (gg g2 (gg g3 (gg g4 (gg g5 ee))))))) fun g5 h=>itK h (fun g6 h=>rtK h (p1 (gg g1 (gg g2 (gg g3 (gg g4 (gg g5 (gg g6 ee)))))))) fun g6 h=>rtK h (p1 (gg g1 (gg g2 (gg g3 (gg g4 (gg g5 (gg g6 ee))))))))
abbrev Zbh (x0:List GMConf) (x1:Int) (r:Int×List GMConf):Y:=(24,[.tr (x0.map GMConf.enc),il x1],il r.1,[.undef,.undef])
theorem Zcx {x0:List GMConf} {x1:Int} {r:Int×List GMConf}:∀{m:Nat} ,Qc x0 x1 m=some r→CS (Zbh x0 x1 r) Tryd.f24 [1,0,1,0] [(0,.tr (x0.map GMConf.enc)),(1,il x1),(5,il 0)] []:=by
 intro m
 induction m with
 | zero=>intro h;cases h
 | succ m ih=>exact fun h=>itK h (fun g1 h=>bnK h fun a0 ha0 h=>noK h) fun g1 h=>rtK h (lr GMConf.enc x0 (gg g1 ee))
theorem Zbp {x0:List GMConf} {x1:Int} {r:Int×List GMConf} (h:Kz x0 x1=some r):Fine Tryd.prog Mo (Zbh x0 x1 r):=
 Z0 Tryd.func24 (cutX [] 6 ee (Zcx h))
abbrev Zin (x0:GConf) (x1:Int) (r:Int×GConf):Y:=(8,[.agg [.tr (x0.masters.map GMConf.enc),il x0.quantum,il x0.maxWait,il x0.maxRetry,il x0.maxSplit,il x0.lockMost],il x1],il r.1,[.agg [.undef,.undef,.undef,.undef,.undef,.undef],.undef])
theorem Zhn {x0:GConf} {x1:Int} {r:Int×GConf} (h:Jx x0 x1=some r):Fine Tryd.prog Mo (Zin x0 x1 r):=
 Z0 Tryd.func8 (bnK h fun r0 hr0 h=>rtK h (rr (Zbp hr0) ee))
abbrev Zbb (x0:List GMConf) (x1:Int) (r:Int):Y:=(25,[.tr (x0.map GMConf.enc),il x1],il r,[.undef,.undef])
theorem Zc6 {x0:List GMConf} {x1:Int} {r:Int}:∀{m:Nat} {v0:Int} {v1:Int},Qe x0 x1 m v0 v1=some r→CS (Zbb x0 x1 r) Tryd.f25 [1,0,1,0] [(0,.tr (x0.map GMConf.enc)),(1,il v0),(5,il v1)] []:=by
 intro m
 induction m with
 | zero=>intro v0 v1 h;cases h
 | succ m ih=>exact fun {v0} {v1} h=>have p1 {q p} (k:Scr q p):=(lr GMConf.enc x0 k);itK h (fun g1 h=>bnK h fun a0 ha0 h=>have p2 {q p} (k:Scr q p):=(p1 (gg g1 (xb GMConf.enc ha0 k)));itK h (fun g2 h=>rtK h (p2 (gg g2 ee))) fun g2 h=>have p3 {q p} (k:Scr q p):=(p2 (gg g2 (xb GMConf.enc ha0 (kk 1 k))));itK h (fun g3 h=>rtK h (p3 (gg g3 ee))) fun g3 h=>itK h (fun g4 h=>rtK h (p3 (gg g3 (xb GMConf.enc ha0 (gg g4 ee))))) fun g4 h=>itK h (fun g5 h=>rtK h (p3 (gg g3 (xb GMConf.enc ha0 (gg g4 (xb GMConf.enc ha0 (gg g5 ee))))))) fun g5 h=>cutX [] 37 (p3 (gg g3 (xb GMConf.enc ha0 (gg g4 (xb GMConf.enc ha0 (gg g5 ee)))))) (ih h)) fun g1 h=>rtK h (p1 (gg g1 ee))
theorem Za8 {x0:List GMConf} {x1:Int} {r:Int} (h:K0 x0 x1=some r):Fine Tryd.prog Mo (Zbb x0 x1 r):=
 Z0 Tryd.func25 (cutX [] 6 ee (Zc6 h))
abbrev Zg9 (x0:GConf) (x1:Int) (r:Int):Y:=(9,[.agg (GConf.enc x0),il x1],il r,[.undef,.undef])
theorem Zdh {x0:GConf} {x1:Int} {r:Int} (h:Xq x0 x1=some r):Fine Tryd.prog Mo (Zg9 x0 x1 r):=
 Z0 Tryd.func9 (bnK h fun r0 hr0 h=>itK h (fun g1 h=>rtK h (rr (Za8 hr0) (gg g1 ee))) fun g1 h=>rtK h (rr (Za8 hr0) (gg g1 ee)))
abbrev Zap (x0:List GMConf) (x1:Int) (r:Int×List GMConf):Y:=(24,[.own 41 (x0.map GMConf.enc),il x1],il r.1,[.own 41 (r.2.map GMConf.enc),.undef])
theorem Zcm {x0:List GMConf} {x1:Int} {r:Int×List GMConf}:∀{m:Nat} {vpers_0_0:List GMConf} {v0:Int} {v1:Int},Wy x0 x1 m vpers_0_0 v0 v1=some r→CS (Zap x0 x1 r) Tryd.f24 [1,0,1,0] [(0,.sl (0,0) 0 (vpers_0_0.map GMConf.enc).length),(1,il v0),(5,il v1)] [((0,0),⟨false,true,true,41,vpers_0_0.map GMConf.enc⟩)]:=by
 intro m
 induction m with
 | zero=>intro vpers_0_0 v0 v1 h;cases h
 | succ m ih=>exact fun {vpers_0_0} {v0} {v1} h=>itK h (fun g1 h=>bnK h fun a0 ha0 h=>bnK h fun y0 hy0 h=>bnK h fun a1 ha1 h=>bnK h fun y1 hy1 h=>bnK h fun a2 ha2 h=>bnK h fun y2 hy2 h=>bnK h fun a3 ha3 h=>bnK h fun y3 hy3 h=>cutX [] 25 (lr GMConf.enc vpers_0_0 (gg g1 (xp GMConf.enc ha0 hy0 (kk 1 (tp (.row (v1:Int).toNat (GMConf.enc a1)) (tp (.put (GMConf.enc a1) (y1.map GMConf.enc)) (tp (.row (v1:Int).toNat (GMConf.enc a2)) (tp (.put (GMConf.enc a2) (y2.map GMConf.enc)) (tp (.row (v1:Int).toNat (GMConf.enc a3)) (tp (.put (GMConf.enc a3) (y3.map GMConf.enc)) (tp (.num (y3.map GMConf.enc).length 0 0 []) (ob (ixn ha1) (ob (ixc GMConf.enc ha1 (setl GMConf.enc hy0)) (ob (ixr GMConf.enc ha1) (ob (ixr GMConf.enc ha1) (ob (seto GMConf.enc hy1) (ob (ixn ha2) (ob (ixc GMConf.enc ha2 ((setl GMConf.enc hy0).trans (setl GMConf.enc hy1))) (ob (ixr GMConf.enc ha2) (ob (ixr GMConf.enc ha2) (ob (seto GMConf.enc hy2) (ob (ixn ha3) (ob (ixc GMConf.enc ha3 ((setl GMConf.enc hy0).trans ((setl GMConf.enc hy1).trans (setl GMConf.enc hy2)))) (ob (ixr GMConf.enc ha3) (ob (ixr GMConf.enc ha3) (ob (seto GMConf.enc hy3) (ob ((setl GMConf.enc hy0).trans ((setl GMConf.enc hy1).trans ((setl GMConf.enc hy2).trans (setl GMConf.enc hy3)))) ee))))))))))))))))))))))))))) (ih h)) fun g1 h=>bnK h fun e0 he0 h=>rtK h (lr GMConf.enc vpers_0_0 (gg g1 (kk 1 (ob (lenq GMConf.enc he0) ee))))
theorem Ze0 {x0:List GMConf} {x1:Int} {r:Int×List GMConf} (h:Kf x0 x1=some r):Fine Tryd.prog Mo (Zap x0 x1 r):=
 Z0 Tryd.func24 (cutX [] 6 (ln GMConf.enc x0 ee) (Zcm h))
abbrev Zgx (x0:GConf) (x1:Int) (r:Int×GConf):Y:=(8,[.agg [.own 41 (x0.masters.map GMConf.enc),il x0.quantum,il x0.maxWait,il x0.maxRetry,il x0.maxSplit,il x0.lockMost],il x1],il r.1,[.agg [.own 41 (r.2.masters.map GMConf.enc),.undef,.undef,.undef,.undef,.undef],.undef])
theorem Zgw {x0:GConf} {x1:Int} {r:Int×GConf} (h:Q3 x0 x1=some r):Fine Tryd.prog Mo (Zgx x0 x1 r):=
 Z0 Tryd.func8 (itK h (fun g1 h=>bnK h fun r0 hr0 h=>rtK h (tp (.t true) (ob (lz GMConf.enc g1) (rr (Zbp hr0) (tp (.t true) (kk 1 (ob (lz GMConf.enc g1) (oe GMConf.enc x0.masters ee)))))))) fun g1 h=>bnK h fun r0 hr0 h=>bnK h fun q0 hq0 h=>rtK h (tp (.t false) (kk 1 (ob (lnz GMConf.enc g1) (oe GMConf.enc x0.masters (rr (Ze0 hr0) (tp (.t false) (kk 1 (ob (lnz GMConf.enc g1) (ob (lenq GMConf.enc hq0) ee))))))))))
abbrev Xs (x0:ByteArray) (r:Bool):Y:=(3,[ss x0],bl r,[.undef])
theorem Qs {x0:ByteArray} {r:Bool} {vb0:GConf} {v0:Int} {v1:Bool} (h:Yg x0 vb0 v0 v1=some r):CS (Xs x0 r) Tryd.f3 [1,1,1,1,1,1,1,1,1,1,1,1,0,1] [(5,.ptr (1,1) 0 0),(7,il v0),(57,bl v1)] [rx 2 41 (vb0.masters.map GMConf.enc),bx 1 [.sl (1,2) 0 (vb0.masters.map GMConf.enc).length,il vb0.quantum,il vb0.maxWait,il vb0.maxRetry,il vb0.maxSplit,il vb0.lockMost]]:=
 itK h (fun g1 h=>rtK h (gg g1 ee)) fun g1 h=>bnK h fun r0 hr0 h=>have p1 {q p} (k:Scr q p):=(gg g1 (kk 1 (oe GMConf.enc vb0.masters (rr (Zdh hr0) k))));itK h (fun g2 h=>rtK h (p1 (gg g2 ee))) fun g2 h=>itK h (fun g3 h=>rtK h (p1 (gg g2 (gg g3 ee)))) fun g3 h=>rtK h (p1 (gg g2 (gg g3 ee)))
theorem Qu {x0:ByteArray} {r:Bool} {vb0:GConf} {vb1:GConf} {v2:Bool} {v0:Int} (h:Yf x0 vb0 vb1 v2 v0=some r):CS (Xs x0 r) Tryd.f3 [1,1,1,1,1,1,1] [(0,ss x0),(3,.ptr (1,1) 0 0),(4,bl v2),(5,.ptr (1,3) 0 0),(7,il v0)] [rx 2 41 (vb0.masters.map GMConf.enc),bx 1 [.sl (1,2) 0 (vb0.masters.map GMConf.enc).length,il vb0.quantum,il vb0.maxWait,il vb0.maxRetry,il vb0.maxSplit,il vb0.lockMost],rx 4 41 (vb1.masters.map GMConf.enc),bx 3 [.sl (1,4) 0 (vb1.masters.map GMConf.enc).length,il vb1.quantum,il vb1.maxWait,il vb1.maxRetry,il vb1.maxSplit,il vb1.lockMost]]:=
 bnK h fun r1 hr1 h=>have p1 {q p} (k:Scr q p):=(kk 1 (oe GMConf.enc vb1.masters (rr (Zdh hr1) k)));itK h (fun g1 h=>rtK h (p1 (gg g1 ee))) fun g1 h=>itK h (fun g2 h=>rtK h (p1 (gg g1 (gg g2 ee)))) fun g2 h=>bnK h fun r2 hr2 h=>bnK h fun r3 hr3 h=>have p2 {q p} (k:Scr q p):=(p1 (gg g1 (gg g2 (rr (Zcv hr2) (kk 2 (oe GMConf.enc r2.1.masters (oe GMConf.enc vb0.masters (rr (Zfk hr3) k))))))));itK h (fun g3 h=>cutX [((1,1),(1,3)),((1,2),(1,4))] 19 (p2 (gg g3 (kk 3 (ln GMConf.enc vb1.masters ee)))) (Qs h)) fun g3 h=>cutX [((1,1),(1,3)),((1,2),(1,4))] 19 (p2 (gg g3 (kk 3 (ln GMConf.enc vb1.masters ee)))) (Qs h)
theorem Qt {x0:ByteArray} {r:Bool} {vb0:GConf} {vb1:GConf} {v2:Bool} {v3:Bool} (h:Yy x0 vb0 vb1 v2 v3=some r):CS (Xs x0 r) Tryd.f3 [1,1,1,1,0,1] [(0,ss x0),(3,.ptr (1,1) 0 0),(4,bl v2),(5,.ptr (1,3) 0 0),(32,bl v3)] [rx 2 41 (vb0.masters.map GMConf.enc),bx 1 [.sl (1,2) 0 (vb0.masters.map GMConf.enc).length,il vb0.quantum,il vb0.maxWait,il vb0.maxRetry,il vb0.maxSplit,il vb0.lockMost],rx 4 41 (vb1.masters.map GMConf.enc),bx 3 [.sl (1,4) 0 (vb1.masters.map GMConf.enc).length,il vb1.quantum,il vb1.maxWait,il vb1.maxRetry,il vb1.maxSplit,il vb1.lockMost]]:=
 itK h (fun g1 h=>rtK h (gg g1 ee)) fun g1 h=>itK h (fun g2 h=>bnK h fun r4 hr4 h=>cutX (ffi 1 4) 6 (gg g1 (tp (.t true) (ob (lz GMConf.enc g2) (rr (Zhn hr4) (tp (.t true) (ob (lz GMConf.enc g2) (ln GMConf.enc vb0.masters (ln GMConf.enc vb1.masters ee)))))))) (Qu h)) fun g2 h=>bnK h fun r4 hr4 h=>bnK h fun q0 hq0 h=>cutX (ffi 1 4) 6 (gg g1 (tp (.t false) (kk 1 (ob (lnz GMConf.enc g2) (oe GMConf.enc vb1.masters (rr (Zgw hr4) (tp (.t false) (ob (lnz GMConf.enc g2) (ln GMConf.enc vb0.masters (tp (.num (r4.2.masters.map GMConf.enc).length 0 0 []) (ob (lenq GMConf.enc hq0) ee))))))))))) (Qu h)
theorem Zco {x0:ByteArray} {r:Bool} (h:Wx x0=some r):Fine Tryd.prog Mo (Xs x0 r):=
 Z0 Tryd.func3 (itK h (fun g1 h=>rtK h (gg g1 ee)) fun g1 h=>bnK h fun r5 hr5 h=>bnK h fun r6 hr6 h=>bnK h fun r7 hr7 h=>have p1 {q p} (k:Scr q p):=(gg g1 (rr (Zh1 hr5) (rr (Zcv hr6) (kk 2 (oe GMConf.enc r6.1.masters (oe GMConf.enc r5.1.masters (rr (Zfk hr7) k)))))));itK h (fun g2 h=>cutX [((1,1),(3,5120)),((1,2),(3,1024)),((1,3),(4,5120)),((1,4),(4,1024))] 14 (p1 (gg g2 (kk 3 (ln GMConf.enc r5.1.masters (ln GMConf.enc r6.1.masters ee))))) (Qt h)) fun g2 h=>cutX [((1,1),(3,5120)),((1,2),(3,1024)),((1,3),(4,5120)),((1,4),(4,1024))] 14 (p1 (gg g2 (kk 3 (ln GMConf.enc r5.1.masters (ln GMConf.enc r6.1.masters ee))))) (Qt h))
end Go.Proofs.YtlcfolgfmlgncaaDoor.Ev
