/- A part of the proof of FnOneMaster: see the text YtciimjnpdmmfnaaGreatLawFnOneMaster for what is proved and its conditions. Conditions here: those in each line. -/
import Derived.Test.YtciimjnpdmmfnaaGreatA3
namespace Go.Proofs.YtciimjnpdmmfnaaGreat.Ev
open Go Go.Proofs
set_option linter.unusedVariables false
set_option linter.unusedSimpArgs false
def Mo:Hints:=⟨fun f=>(List.lookup f [(156,[.io]),(76,[.io]),(111,[.io]),(125,[.io,.mv]),(188,[.io]),(272,[.io]),(110,[.io]),(112,[.io]),(159,[.io]),(109,[.io]),(225,[.io]),(160,[.io,.iov]),(173,[.io,.iov]),(92,[.io]),(253,[.io]),(201,[.io]),(200,[.io]),(127,[.io]),(199,[.io]),(126,[.io]),(124,[.io]),(60,[.io]),(84,[.io]),(153,[.io]),(217,[.io]),(219,[.io]),(223,[.io]),(155,[.io]),(74,[.io]),(152,[.io,.rd,.io]),(169,[.mv]),(170,[.mv]),(172,[.mv]),(171,[.mv]),(105,[.mv,.rd]),(258,[.mv,.rd])]).getD [],fun _=>false⟩
abbrev Y:=FuncId×List V×V×List V
abbrev RF (fn:Func) (y:Y):Ex→St→Prop:=RetC Tryz.prog Mo y.1 fn y.2.1 y.2.2
theorem Yjj {P:Program} (hm:P.follows .mixedOrders=true) (h:P.funcs.toList.all (fun fn=>(match fn.body with|some c=>Qx fn.ntmps c|none=>true)&&!(fn.name == "runtime.NumGoroutine"))=true):FuncsOk P:=by
 rw[List.all_eq_true] at h
 refine⟨hm,fun f fn c hf hc=>?_,fun f fn hf=>?_⟩
 ·have:=h fn (Array.mem_toList_iff.2 (Array.mem_of_getElem? hf))
  rw[hc] at this
  simp only[Bool.and_eq_true] at this
  exact this.1
 ·have:=h fn (Array.mem_toList_iff.2 (Array.mem_of_getElem? hf))
  simp only[Bool.and_eq_true,Bool.not_eq_true'] at this
  exact this.2
theorem fOk:FuncsOk Tryz.prog:=Yjj (by kernel_rfl) (by kernel_rfl)
theorem bnK {α β:Type} {x:Option α} {f:α→Option β} {b:β} {G:Prop} (h:x.bind f=some b) (k:∀a,x=some a→f a=some b→G):G:=by
 obtain⟨a,h1,h2⟩:=Ymq h;exact k a h1 h2
theorem itK {β:Type} {t:Bool} {x y:Option β} {b:β} {G:Prop} (h:(if t=true then x else y)=some b) (k1:t=true→x=some b→G) (k2:t=false→y=some b→G):G:=by
 rcases Ynv h with⟨h1,h2⟩|⟨h1,h2⟩
 ·exact k1 h1 h2
 ·exact k2 h1 h2
theorem rtQ {α:Type} {F:α→Y} {fn:Func} {a r:α} {p:Prop} {stk:List It} {s:St} (h:some a=some r) (q:List O) (hp:p) (e:told (runK Tryz.prog Mo (F a).1 fn (F a).2.1 100000 stk s q)=some (p,(F a).2.2):=by kernel_rfl):SX Tryz.prog (RF fn (F r)) stk .normal s:=by
 cases h;exact Ygj fOk 100000 q hp e
theorem rtK {α:Type} {F:α→Y} {fn:Func} {a r:α} {p:Prop} {stk:List It} {s:St} {q:List O} (h:some a=some r) (hp:Scr q p) (e:told (runK Tryz.prog Mo (F a).1 fn (F a).2.1 100000 stk s q)=some (p,(F a).2.2):=by kernel_rfl):SX Tryz.prog (RF fn (F r)) stk .normal s:=by
 cases h;exact Ygj fOk 100000 q hp e
theorem cutQ {y:Y} {fn:Func} {stk k2:List It} {s:St} {p:Prop} {l:List (Nat×V)} {h:List (Id×Blk)} {ep:Nat} (f:List (Id×Id)) (n:Nat) (q:List O) (hp:p) (hn:SX Tryz.prog (RF fn y) k2 .normal (mkS l h ep))
  (e:told (cutK Tryz.prog Mo f l h n stk s q)=some (p,(k2,renL f l h)):=by kernel_rfl) (hb:(isC k2&&cutB f l h ep)=true:=by kernel_rfl):SX Tryz.prog (RF fn y) stk .normal s:=Yf6 (M:=Mo) fOk f n q hp hn e hb
theorem cutX {y:Y} {fn:Func} {stk k2:List It} {s:St} {p:Prop} {l:List (Nat×V)} {h:List (Id×Blk)} {ep:Nat} {q:List O} (f:List (Id×Id)) (n:Nat) (hp:Scr q p) (hn:SX Tryz.prog (RF fn y) k2 .normal (mkS l h ep))
  (e:told (cutK Tryz.prog Mo f l h n stk s q)=some (p,(k2,renL f l h)):=by kernel_rfl) (hb:(isC k2&&cutB f l h ep)=true:=by kernel_rfl):SX Tryz.prog (RF fn y) stk .normal s:=Yf6 (M:=Mo) fOk f n q hp hn e hb
theorem Zb {α:Type} {F:α→Y} {fn:Func} {r:α} (hfn:Tryz.prog.funcs[(F r).1]?=some fn) (h:SX Tryz.prog (RF fn (F r)) [.c (Zta fn)] .normal (entS Mo (F r).1 (F r).2.1)) (hc:fn.body=some (Zta fn):=by kernel_rfl) (hs:(St.enters ⟨fun _=>.undef,fun _=>none,0⟩ 0 (Mo.modes (F r).1) (F r).2.1).isSome=true:=by kernel_rfl):
  Fine Tryz.prog Mo (F r):=Yl8 fOk hfn hc hs h
abbrev CS (y:Y) (fn:Func) (p:List Nat) (l:List (Nat×V)) (h:List (Id×Blk)):Prop:=SX Tryz.prog (RF fn y) (at_ p (Zta fn) []) .normal (mkS l h 1)
abbrev Ypk (x0:List Int) (r:Bool):Y:=(13,[.tr (x0.map encU)],bl r,[.undef])
theorem Yg2 {x0:List Int} {r:Bool} (h:Z7e x0=some r):Fine Tryz.prog Mo (Ypk x0 r):=
 Zb Tryz.func13 (rtK h (lr encU x0 ee))
abbrev Zu8 (x0:List Int) (r:GL1Cur):Y:=(61,[.tr (x0.map encU)],.obx [.tr (r.b.map encU),il r.i,il r.h],[.undef])
theorem Zy5 {x0:List Int} {r:GL1Cur} {k_L1:Int→Int→Option GL1Cur} (i_L1:∀{v0:Int} {v1:Int},k_L1 v0 v1=some r→CS (Zu8 x0 r) Tryz.f61 [1,1,0,1,0] [(0,.tr (x0.map encU)),(3,il v0),(4,il v1)] []) {v0:Int} {v1:Int} {v2:Bool} (h:Zlj x0 k_L1 v0 v1 v2=some r):CS (Zu8 x0 r) Tryz.f61 [1,1,0,1,0,0,0,1] [(0,.tr (x0.map encU)),(3,il v0),(4,il v1),(15,bl v2)] []:=
 itK h (fun g1 h=>bnK h fun a0 ha0 h=>cutX [] 7 (gg g1 (xb encU ha0 ee)) (i_L1 h)) fun g1 h=>rtK h (gg g1 ee)
theorem Z9i {x0:List Int} {r:GL1Cur}:∀{m:Nat} {v0:Int} {v1:Int},Zco x0 m v0 v1=some r→CS (Zu8 x0 r) Tryz.f61 [1,1,0,1,0] [(0,.tr (x0.map encU)),(3,il v0),(4,il v1)] []:=by
 intro m
 induction m with
 | zero=>intro v0 v1 h;cases h
 | succ m ih=>exact fun {v0} {v1} h=>itK h (fun g1 h=>cutX [] 4 (lr encU x0 (gg g1 (kk 2 ee))) (Zy5 ih h)) fun g1 h=>cutX [] 4 (lr encU x0 (gg g1 (kk 2 ee))) (Zy5 ih h)
theorem Z89 {x0:List Int} {r:GL1Cur} (h:Zmh x0=some r):Fine Tryz.prog Mo (Zu8 x0 r):=
 Zb Tryz.func61 (cutX [] 8 (lr encU x0 ee) (Z9i h))
abbrev Yir (x0:GL1Cur) (r:Int×GL1Cur):Y:=(156,[.agg [.tr (x0.b.map encU),il x0.i,il x0.h]],il r.1,[.agg [.tr (r.2.b.map encU),il r.2.i,il r.2.h]])
theorem Zn6 {x0:GL1Cur} {r:Int×GL1Cur} (h:Zc0 x0=some r):Fine Tryz.prog Mo (Yir x0 r):=
 Zb Tryz.func156 (itK h (fun g1 h=>bnK h fun a0 ha0 h=>rtK h (kk 2 (lr encU x0.b (gg g1 (xb encU ha0 ee))))) fun g1 h=>rtK h (kk 2 (lr encU x0.b (gg g1 ee))))
abbrev Ye0 (x0:GL1Cur) (x1:Int) (r:Int×GL1Cur):Y:=(76,[.agg [.tr (x0.b.map encU),il x0.i,il x0.h],il x1],il r.1,[.agg [.tr (r.2.b.map encU),il r.2.i,il r.2.h],.undef])
theorem Zw {x0:GL1Cur} {x1:Int} {r:Int×GL1Cur} (h:Zo x0 x1=some r):Fine Tryz.prog Mo (Ye0 x0 x1 r):=
 Zb Tryz.func76 (itK h (fun g1 h=>rtK h (gg g1 ee)) fun g1 h=>itK h (fun g2 h=>bnK h fun r0 hr0 h=>bnK h fun n0 hn0 h=>rtK h (gg g1 (gg g2 (rr (Zn6 hr0) (tp (.obl) (ob (nz0 hn0) ee)))))) fun g2 h=>bnK h fun r1 hr1 h=>bnK h fun r2 hr2 h=>bnK h fun r3 hr3 h=>bnK h fun r4 hr4 h=>bnK h fun n1 hn1 h=>rtK h (gg g1 (gg g2 (rr (Zn6 hr1) (rr (Zn6 hr2) (rr (Zn6 hr3) (rr (Zn6 hr4) (tp (.obl) (ob (nz0 hn1) ee)))))))))
abbrev Yje (x0:GL1Cur) (x1:Int) (r:Bool×GL1Cur):Y:=(111,[.agg [.tr (x0.b.map encU),il x0.i,il x0.h],il x1],bl r.1,[.agg [.tr (r.2.b.map encU),il r.2.i,il r.2.h],.undef])
theorem Zjq {x0:GL1Cur} {x1:Int} {r:Bool×GL1Cur} (h:Zar x0 x1=some r):Fine Tryz.prog Mo (Yje x0 x1 r):=
 Zb Tryz.func111 (bnK h fun r0 hr0 h=>rtK h (rr (Zw hr0) ee))
abbrev Ymi (x0:Int) (x1:Int) (x2:Int) (r:Bool):Y:=(63,[il x0,il x1,il x2],bl r,[.undef,.undef,.undef])
theorem Zh {x0:Int} {x1:Int} {x2:Int} {r:Bool} (h:Zk x0 x1 x2=some r):Fine Tryz.prog Mo (Ymi x0 x1 x2 r):=
 Zb Tryz.func63 (itK h (fun g1 h=>rtK h (gg g1 (kk 3 ee))) fun g1 h=>rtK h (gg g1 (kk 3 ee)))
abbrev Z49 (x0:GConf) (r:Int):Y:=(121,[.agg (GConf.enc x0)],il r,[.undef])
theorem Zwx {x0:GConf} {r:Int} {v0:Bool} (h:Zjw x0 v0=some r):CS (Z49 x0 r) Tryz.f121 [1,0,1] [(1,.ptr (1,1) 0 0),(12,bl v0)] [bx 1 (GConf.enc x0)]:=
 itK h (fun g1 h=>rtK h (gg g1 ee)) fun g1 h=>rtK h (gg g1 ee)
theorem Zoe {x0:GConf} {r:Int} (h:Zfz x0=some r):Fine Tryz.prog Mo (Z49 x0 r):=
 Zb Tryz.func121 (bnK h fun r0 hr0 h=>itK h (fun g1 h=>cutX [((1,1),(1,0))] 5 (rr (Zh hr0) (gg g1 (kk 4 ee))) (Zwx h)) fun g1 h=>bnK h fun r1 hr1 h=>cutX [((1,1),(1,0))] 5 (rr (Zh hr0) (gg g1 (kk 2 (rr (Zh hr1) (kk 2 ee))))) (Zwx h))
abbrev Yhz (x0:GConf) (r:Int):Y:=(123,[.agg (GConf.enc x0)],il r,[.undef])
theorem Zyj {x0:GConf} {r:Int} (h:Zav x0=some r):Fine Tryz.prog Mo (Yhz x0 r):=
 Zb Tryz.func123 (bnK h fun r0 hr0 h=>itK h (fun g1 h=>rtK h (rr (Zoe hr0) (gg g1 (kk 5 ee)))) fun g1 h=>bnK h fun r1 hr1 h=>itK h (fun g2 h=>rtK h (rr (Zoe hr0) (gg g1 (kk 2 (rr (Zh hr1) (kk 2 (gg g2 ee))))))) fun g2 h=>bnK h fun r2 hr2 h=>rtK h (rr (Zoe hr0) (gg g1 (kk 2 (rr (Zh hr1) (kk 2 (gg g2 (rr (Zoe hr2) ee))))))))
abbrev Z6o (x0:GL1Cur) (r:GConf×GL1Cur):Y:=(159,[.agg [.tr (x0.b.map encU),il x0.i,il x0.h]],.agg [.own 81 (r.1.masters.map GMConf.enc),il r.1.quantum,il r.1.maxWait,il r.1.maxRetry,il r.1.maxSplit,il r.1.lockMost],[.agg [.tr (r.2.b.map encU),il r.2.i,il r.2.h]])
theorem Z6v {x0:GL1Cur} {r:GConf×GL1Cur}:∀{m:Nat} {vb0:GL1Cur} {vb1:GConf} {v0:Int},Zbh x0 m vb0 vb1 v0=some r→CS (Z6o x0 r) Tryz.f159 [1,1,0,1,0] [(0,.ptr (0,63) 0 0),(2,.ptr (1,1) 0 0),(3,.ptr (1,3) 0 0),(4,il v0)] [((0,63),⟨true,true,true,0,[(GL1Cur.enc vb0)]⟩),rx 2 81 ([].map GMConf.enc),bx 1 [.sl (1,2) 0 ([].map GMConf.enc).length,il 0,il 0,il 0,il 0,il 0],rx 4 81 (vb1.masters.map GMConf.enc),bx 3 [.sl (1,4) 0 (vb1.masters.map GMConf.enc).length,il vb1.quantum,il vb1.maxWait,il vb1.maxRetry,il vb1.maxSplit,il vb1.lockMost]]:=by
 intro m
 induction m with
 | zero=>intro vb0 vb1 v0 h;cases h
 | succ m ih=>exact fun {vb0} {vb1} {v0} h=>itK h (fun g1 h=>bnK h fun r0 hr0 h=>bnK h fun z0 hz0 h=>cutX (ffi 1 3++[((1,4),(3,7168))]) 11 (gg g1 (rr (Zw hr0) (ta GMConf.enc [(GMConf.mk (addW 1 r0.1) false 0 0)] z0 (kk 1 (oa 4 GMConf.enc_len (GMConf.mk (addW 1 r0.1) false 0 0) (ox GMConf.enc hz0 (oe GMConf.enc z0 (ln GMConf.enc [] (ln GMConf.enc z0 ee))))))))) (ih h)) fun g1 h=>bnK h fun r1 hr1 h=>itK h (fun g2 h=>bnK h fun r2 hr2 h=>bnK h fun a0 ha0 h=>bnK h fun y0 hy0 h=>bnK h fun r3 hr3 h=>bnK h fun r4 hr4 h=>bnK h fun a1 ha1 h=>bnK h fun y1 hy1 h=>bnK h fun r5 hr5 h=>bnK h fun a2 ha2 h=>bnK h fun y2 hy2 h=>rtK h (gg g1 (rr (Zjq hr1) (gg g2 (lr GMConf.enc vb1.masters (rr (Zw hr2) (xp GMConf.enc ha0 hy0 (kk 1 (ob (setl GMConf.enc hy0) (rr (Zyj hr3) (rr (Zw hr4) (tp (.row (r2.1:Int).toNat (GMConf.enc a1)) (tp (.put (GMConf.enc a1) (y1.map GMConf.enc)) (ob (ixn ha1) (ob (ixc GMConf.enc ha1 (setl GMConf.enc hy0)) (ob (ixr GMConf.enc ha1) (ob (ixr GMConf.enc ha1) (ob (seto GMConf.enc hy1) (rr (Zw hr5) (tp (.row (r2.1:Int).toNat (GMConf.enc a2)) (tp (.put (GMConf.enc a2) (y2.map GMConf.enc)) (kk 1 (ob (ixn ha2) (ob (ixc GMConf.enc ha2 ((setl GMConf.enc hy0).trans (setl GMConf.enc hy1))) (ob (ixr GMConf.enc ha2) (ob (ixr GMConf.enc ha2) (ob (seto GMConf.enc hy2) (ob ((setl GMConf.enc hy0).trans ((setl GMConf.enc hy1).trans (setl GMConf.enc hy2))) ee)))))))))))))))))))))))))))) fun g2 h=>rtK h (gg g1 (rr (Zjq hr1) (gg g2 (kk 1 (oe GMConf.enc vb1.masters ee)))))
theorem Z44 {x0:GL1Cur} {r:GConf×GL1Cur} (h:Zm3 x0=some r):Fine Tryz.prog Mo (Z6o x0 r):=
 Zb Tryz.func159 (bnK h fun r6 hr6 h=>bnK h fun r7 hr7 h=>bnK h fun r8 hr8 h=>bnK h fun r9 hr9 h=>bnK h fun r10 hr10 h=>bnK h fun r11 hr11 h=>cutX [((1,1),(1,0)),((1,3),(2,14336))] 8 (rr (Zw hr6) (rr (Zw hr7) (rr (Zw hr8) (rr (Zw hr9) (rr (Zw hr10) (rr (Zw hr11) ee)))))) (Z6v h))
abbrev Z95 (x0:GL1Cur) (x1:List Int) (r:Int×GL1Cur):Y:=(125,[.agg [.tr (x0.b.map encU),il x0.i,il x0.h],.own 3 (x1.map encI)],il r.1,[.agg [.tr (r.2.b.map encU),il r.2.i,il r.2.h],.undef])
theorem Xk {x0:GL1Cur} {x1:List Int} {r:Int×GL1Cur} (h:Yh x0 x1=some r):Fine Tryz.prog Mo (Z95 x0 x1 r):=
 Zb Tryz.func125 (bnK h fun r0 hr0 h=>bnK h fun a0 ha0 h=>rtK h (lr encI x1 (rr (Zw hr0) (xd encI ha0 ee))))
abbrev Ykp (x0:GL1Cur) (r:GConf×GL1Cur):Y:=(109,[.agg [.tr (x0.b.map encU),il x0.i,il x0.h]],.agg [.own 81 (r.1.masters.map GMConf.enc),il r.1.quantum,il r.1.maxWait,il r.1.maxRetry,il r.1.maxSplit,il r.1.lockMost],[.agg [.tr (r.2.b.map encU),il r.2.i,il r.2.h]])
theorem Z0c {x0:GL1Cur} {r:GConf×GL1Cur} (h:Zp3 x0=some r):Fine Tryz.prog Mo (Ykp x0 r):=
 Zb Tryz.func109 (bnK h fun r0 hr0 h=>bnK h fun r1 hr1 h=>have p1 {q p} (k:Scr q p):=(rr (Z44 hr0) (rr (Zw hr1) k));itK h (fun g1 h=>bnK h fun r2 hr2 h=>bnK h fun a0 ha0 h=>bnK h fun y0 hy0 h=>rtK h (p1 (gg g1 (kk 1 (ob (show 2=([0,5].map encI).length from rfl) (rr (Xk hr2) (xp GMConf.enc ha0 hy0 (kk 1 (ob (setl GMConf.enc hy0) ee))))))))) fun g1 h=>itK h (fun g2 h=>bnK h fun a1 ha1 h=>bnK h fun y1 hy1 h=>rtK h (p1 (gg g1 (gg g2 (xd GMConf.enc ha1 (xp GMConf.enc ha1 hy1 (kk 1 (ob (setl GMConf.enc hy1) ee)))))))) fun g2 h=>itK h (fun g3 h=>bnK h fun r3 hr3 h=>rtK h (p1 (gg g1 (gg g2 (gg g3 (kk 1 (ob (show 3=([0,5,4].map encI).length from rfl) (rr (Xk hr3) (kk 1 (oe GMConf.enc r0.1.masters ee)))))))))) fun g3 h=>have p2 {q p} (k:Scr q p):=(p1 (gg g1 (gg g2 (gg g3 k))));itK h (fun g4 h=>bnK h fun r4 hr4 h=>rtK h (p2 (gg g4 (kk 1 (ob (show 3=([(-1),4,3].map encI).length from rfl) (rr (Xk hr4) (kk 1 (oe GMConf.enc r0.1.masters ee)))))))) fun g4 h=>itK h (fun g5 h=>bnK h fun r5 hr5 h=>rtK h (p2 (gg g4 (gg g5 (kk 1 (ob (show 2=([0,13].map encI).length from rfl) (rr (Xk hr5) (kk 1 (oe GMConf.enc r0.1.masters ee))))))))) fun g5 h=>itK h (fun g6 h=>rtK h (p2 (gg g4 (gg g5 (gg g6 (kk 1 (ob (show 0=([].map GMConf.enc).length from rfl) ee))))))) fun g6 h=>itK h (fun g7 h=>bnK h fun r6 hr6 h=>rtK h (p2 (gg g4 (gg g5 (gg g6 (gg g7 (kk 1 (ob (show 3=([(-1),4,3].map encI).length from rfl) (rr (Xk hr6) (kk 1 (oe GMConf.enc r0.1.masters ee))))))))))) fun g7 h=>rtK h (p2 (gg g4 (gg g5 (gg g6 (gg g7 (kk 1 (oe GMConf.enc r0.1.masters ee))))))))
abbrev Yfm (x0:Int) (r:Int):Y:=(187,[il x0],il r,[.undef])
theorem W1 {x0:Int} {r:Int} (h:W0 x0=some r):Fine Tryz.prog Mo (Yfm x0 r):=
 Zb Tryz.func187 (bnK h fun r0 hr0 h=>itK h (fun g1 h=>rtK h (rr (Zh hr0) (gg g1 ee))) fun g1 h=>bnK h fun n0 hn0 h=>rtK h (rr (Zh hr0) (gg g1 (tp (.obl) (ob (nn0 hn0) ee)))))
abbrev Ye8 (x0:Int) (r:Int):Y:=(175,[il x0],il r,[.undef])
theorem Kr {x0:Int} {r:Int} (h:Q0 x0=some r):Fine Tryz.prog Mo (Ye8 x0 r):=
 Zb Tryz.func175 (bnK h fun r0 hr0 h=>itK h (fun g1 h=>rtK h (rr (Zh hr0) (gg g1 ee))) fun g1 h=>bnK h fun a0 ha0 h=>rtK h (rr (Zh hr0) (gg g1 (xd encI ha0 ee))))
abbrev Yfs (x0:Int) (x1:Int) (r:Bool):Y:=(134,[il x0,il x1],bl r,[.undef,.undef])
theorem Zk3 {x0:Int} {x1:Int} {r:Bool} (h:Ks x0 x1=some r):Fine Tryz.prog Mo (Yfs x0 x1 r):=
 Zb Tryz.func134 (bnK h fun r0 hr0 h=>itK h (fun g1 h=>itK h (fun g2 h=>bnK h fun r1 hr1 h=>bnK h fun n0 hn0 h=>rtK h (rr (W1 hr0) (gg g1 (kk 2 (gg g2 (kk 2 (rr (W1 hr1) (kk 1 (tp (.obl) (kk 2 (ob (nz0 hn0) ee))))))))))) fun g2 h=>rtK h (rr (W1 hr0) (gg g1 (kk 2 (gg g2 (kk 5 ee)))))) fun g1 h=>rtK h (rr (W1 hr0) (gg g1 (kk 8 ee))))
abbrev Zs9 (x0:Int) (x1:Int) (x2:Int) (r:Int):Y:=(248,[il x0,il x1,il x2],il r,[.undef,.undef,.undef])
theorem Zsh {x0:Int} {x1:Int} {x2:Int} {r:Int} {v0:Int} {v1:Bool} (h:Zgh x0 x1 x2 v0 v1=some r):CS (Zs9 x0 x1 x2 r) Tryz.f248 [1,1,1,0,1] [(0,il x0),(7,il v0),(34,bl v1)] []:=
 itK h (fun g1 h=>rtK h (gg g1 ee)) fun g1 h=>rtK h (gg g1 ee)
theorem Zl2 {x0:Int} {x1:Int} {x2:Int} {r:Int} {v0:Int} {v2:Bool} (h:Zbt x0 x1 x2 v0 v2=some r):CS (Zs9 x0 x1 x2 r) Tryz.f248 [1,1,0,1] [(0,il x0),(2,il x2),(7,il v0),(23,bl v2)] []:=
 itK h (fun g1 h=>rtK h (gg g1 ee)) fun g1 h=>itK h (fun g2 h=>bnK h fun n0 hn0 h=>cutX [] 5 (gg g1 (gg g2 (kk 5 (tp (.obl) (kk 2 (ob (nz0 hn0) ee)))))) (Zsh h)) fun g2 h=>cutX [] 5 (gg g1 (gg g2 (kk 7 ee))) (Zsh h)
theorem Zzo {x0:Int} {x1:Int} {x2:Int} {r:Int} (h:Zit x0 x1 x2=some r):Fine Tryz.prog Mo (Zs9 x0 x1 x2 r):=
 Zb Tryz.func248 (bnK h fun r0 hr0 h=>bnK h fun r1 hr1 h=>have p1 {q p} (k:Scr q p):=(rr (W1 hr0) (rr (Zk3 hr1) k));itK h (fun g1 h=>cutX [] 7 (p1 (gg g1 (kk 7 ee))) (Zl2 h)) fun g1 h=>bnK h fun r2 hr2 h=>itK h (fun g2 h=>cutX [] 7 (p1 (gg g1 (kk 1 (rr (Zh hr2) (kk 2 (gg g2 (kk 3 ee))))))) (Zl2 h)) fun g2 h=>bnK h fun r3 hr3 h=>cutX [] 7 (p1 (gg g1 (kk 1 (rr (Zh hr2) (kk 2 (gg g2 (kk 1 (rr (Kr hr3) (kk 2 ee))))))))) (Zl2 h))
abbrev Zjy (x0:Int) (x1:Int) (x2:Int) (r:List Int):Y:=(185,[il x0,il x1,il x2],.own 3 (r.map encI),[.undef,.undef,.undef])
theorem Zqf {x0:Int} {x1:Int} {x2:Int} {r:List Int} {k_L1:Int→(List Int)→Option (List Int)} (i_L1:∀{v0:Int} {v1:List Int},k_L1 v0 v1=some r→CS (Zjy x0 x1 x2 r) Tryz.f185 [1,1,0,0] [(0,il v0),(1,il x1),(2,il x2),(7,.sl (1,1) 0 (v1.map encI).length)] [rx 1 3 (v1.map encI)]) {v0:Int} {v1:List Int} {v2:Bool} (h:J7 x0 x1 x2 k_L1 v0 v1 v2=some r):CS (Zjy x0 x1 x2 r) Tryz.f185 [1,1,0,0,0,0,1] [(0,il v0),(1,il x1),(2,il x2),(7,.sl (1,1) 0 (v1.map encI).length),(20,bl v2)] [rx 1 3 (v1.map encI)]:=
 itK h (fun g1 h=>bnK h fun z0 hz0 h=>bnK h fun r0 hr0 h=>cutX [((1,1),(2,3072))] 7 (gg g1 (ta encI [v0] z0 (kk 1 (oa 1 Wp v0 (ox encI hz0 (oe encI z0 (rr (Zzo hr0) (ln encI z0 ee)))))))) (i_L1 h)) fun g1 h=>bnK h fun r1 hr1 h=>itK h (fun g2 h=>rtK h (gg g1 (lr encI v1 (rr (Kr hr1) (gg g2 (kk 1 (ob (show 0=([].map encI).length from rfl) ee))))))) fun g2 h=>rtK h (gg g1 (lr encI v1 (rr (Kr hr1) (gg g2 (kk 1 (oe encI v1 ee))))))
theorem Zzw {x0:Int} {x1:Int} {x2:Int} {r:List Int}:∀{m:Nat} {v0:Int} {v1:List Int},Zcs x0 x1 x2 m v0 v1=some r→CS (Zjy x0 x1 x2 r) Tryz.f185 [1,1,0,0] [(0,il v0),(1,il x1),(2,il x2),(7,.sl (1,1) 0 (v1.map encI).length)] [rx 1 3 (v1.map encI)]:=by
 intro m
 induction m with
 | zero=>intro v0 v1 h;cases h
 | succ m ih=>exact fun {v0} {v1} h=>bnK h fun r2 hr2 h=>itK h (fun g1 h=>bnK h fun r3 hr3 h=>cutX [((1,1),(1,1))] 4 (lr encI v1 (rr (Kr hr2) (gg g1 (kk 3 (rr (Zzo hr3) (kk 2 (ln encI v1 ee))))))) (Zqf ih h)) fun g1 h=>cutX [((1,1),(1,1))] 4 (lr encI v1 (rr (Kr hr2) (gg g1 (kk 5 (ln encI v1 ee))))) (Zqf ih h)
theorem Zwf {x0:Int} {x1:Int} {x2:Int} {r:List Int} (h:Zev x0 x1 x2=some r):Fine Tryz.prog Mo (Zjy x0 x1 x2 r):=
 Zb Tryz.func185 (cutX [((1,1),(2,0))] 6 (tp (.num ([].map encI).length 0 0 []) (ob (show 0=([].map encI).length from rfl) ee)) (Zzw h))
abbrev Z2c (x0:Int) (x1:Int) (x2:Int) (r:Bool):Y:=(174,[il x0,il x1,il x2],bl r,[.undef,.undef,.undef])
theorem Z6r {x0:Int} {x1:Int} {x2:Int} {r:Bool}:∀{m:Nat} {v0:List Int} {v1:Int},Zho x0 x1 x2 m v0 v1=some r→CS (Z2c x0 x1 x2 r) Tryz.f174 [1,1,0,1,0] [(7,.sl (1,1) 0 (v0.map encI).length),(8,il v1)] [rx 1 3 (v0.map encI)]:=by
 intro m
 induction m with
 | zero=>intro v0 v1 h;cases h
 | succ m ih=>exact fun {v0} {v1} h=>itK h (fun g1 h=>bnK h fun a0 ha0 h=>bnK h fun a1 ha1 h=>itK h (fun g2 h=>rtK h (lr encI v0 (gg g1 (xd encI ha0 (kk 1 (xd encI ha1 (kk 1 (gg g2 ee)))))))) fun g2 h=>cutX [((1,1),(1,1))] 14 (lr encI v0 (gg g1 (xd encI ha0 (kk 1 (xd encI ha1 (kk 1 (gg g2 (ln encI v0 ee)))))))) (ih h)) fun g1 h=>rtK h (lr encI v0 (gg g1 (lr encI v0 ee)))
theorem Zvu {x0:Int} {x1:Int} {x2:Int} {r:Bool} (h:Zk2 x0 x1 x2=some r):Fine Tryz.prog Mo (Z2c x0 x1 x2 r):=
 Zb Tryz.func174 (bnK h fun r0 hr0 h=>cutX [((1,1),(2,3072))] 8 (rr (Zwf hr0) (ln encI r0 ee)) (Z6r h))
abbrev Ydq (x0:Int) (r:Int):Y:=(135,[il x0],il r,[.undef])
theorem Qz {x0:Int} {r:Int} (h:Xi x0=some r):Fine Tryz.prog Mo (Ydq x0 r):=
 Zb Tryz.func135 (bnK h fun r0 hr0 h=>itK h (fun g1 h=>rtK h (rr (W1 hr0) (gg g1 ee))) fun g1 h=>bnK h fun r1 hr1 h=>bnK h fun n0 hn0 h=>rtK h (rr (W1 hr0) (gg g1 (rr (W1 hr1) (tp (.obl) (ob (nn0 hn0) ee))))))
abbrev Zp9 (x0:GL1Cur) (r:GReq×GL1Cur):Y:=(110,[.agg [.tr (x0.b.map encU),il x0.i,il x0.h]],.agg [bl r.1.write,il r.1.addr,il r.1.size,il r.1.burst,bl r.1.lock,.own 3 (r.1.data_.map encI)],[.agg [.tr (r.2.b.map encU),il r.2.i,il r.2.h]])
theorem Zy6 {x0:GL1Cur} {r:GReq×GL1Cur} {k_L1:GL1Cur→GReq→Int→Option (GReq×GL1Cur)} (i_L1:∀{vb0:GL1Cur} {vb1:GReq} {v0:Int},k_L1 vb0 vb1 v0=some r→CS (Zp9 x0 r) Tryz.f110 [1,1,1,1,1,0,1,0] [(0,.ptr (0,63) 0 0),(2,.ptr (1,1) 0 0),(3,.ptr (1,3) 0 0),(5,il v0)] [((0,63),⟨true,true,true,0,[(GL1Cur.enc vb0)]⟩),rx 2 3 ([].map encI),bx 1 [bl false,il 0,il 0,il 0,bl false,.sl (1,2) 0 ([].map encI).length],rx 4 3 (vb1.data_.map encI),bx 3 [bl vb1.write,il vb1.addr,il vb1.size,il vb1.burst,bl vb1.lock,.sl (1,4) 0 (vb1.data_.map encI).length]]) {vb0:GL1Cur} {vb1:GReq} {v0:Int} {v1:Bool} (h:Zlh x0 k_L1 vb0 vb1 v0 v1=some r):CS (Zp9 x0 r) Tryz.f110 [1,1,1,1,1,0,1,0,0,0,1] [(0,.ptr (0,63) 0 0),(2,.ptr (1,1) 0 0),(3,.ptr (1,3) 0 0),(5,il v0),(57,bl v1)] [((0,63),⟨true,true,true,0,[(GL1Cur.enc vb0)]⟩),rx 2 3 ([].map encI),bx 1 [bl false,il 0,il 0,il 0,bl false,.sl (1,2) 0 ([].map encI).length],rx 4 3 (vb1.data_.map encI),bx 3 [bl vb1.write,il vb1.addr,il vb1.size,il vb1.burst,bl vb1.lock,.sl (1,4) 0 (vb1.data_.map encI).length]]:=
 itK h (fun g1 h=>bnK h fun r0 hr0 h=>bnK h fun r1 hr1 h=>bnK h fun r2 hr2 h=>bnK h fun r3 hr3 h=>bnK h fun z0 hz0 h=>cutX (ffi 1 3++[((1,4),(2,15360))]) 7 (gg g1 (rr (Qz hr0) (rr (Qz hr1) (kk 1 (ob (show 2=([(minI r0 1000),r1].map encI).length from rfl) (rr (Xk hr2) (rr (Zw hr3) (ta encI [r3.1] z0 (kk 1 (oa 1 Wp r3.1 (ox encI hz0 (oe encI z0 (ln encI [] (ln encI z0 ee)))))))))))))) (i_L1 h)) fun g1 h=>rtK h (gg g1 (kk 1 (oe encI vb1.data_ ee)))
theorem Z9e {x0:GL1Cur} {r:GReq×GL1Cur}:∀{m:Nat} {vb0:GL1Cur} {vb1:GReq} {v0:Int},Zcp x0 m vb0 vb1 v0=some r→CS (Zp9 x0 r) Tryz.f110 [1,1,1,1,1,0,1,0] [(0,.ptr (0,63) 0 0),(2,.ptr (1,1) 0 0),(3,.ptr (1,3) 0 0),(5,il v0)] [((0,63),⟨true,true,true,0,[(GL1Cur.enc vb0)]⟩),rx 2 3 ([].map encI),bx 1 [bl false,il 0,il 0,il 0,bl false,.sl (1,2) 0 ([].map encI).length],rx 4 3 (vb1.data_.map encI),bx 3 [bl vb1.write,il vb1.addr,il vb1.size,il vb1.burst,bl vb1.lock,.sl (1,4) 0 (vb1.data_.map encI).length]]:=by
 intro m
 induction m with
 | zero=>intro vb0 vb1 v0 h;cases h
 | succ m ih=>exact fun {vb0} {vb1} {v0} h=>bnK h fun r4 hr4 h=>itK h (fun g1 h=>cutX (ffi 1 4) 4 (rr (Kr hr4) (gg g1 (kk 2 (ln encI [] (ln encI vb1.data_ ee))))) (Zy6 ih h)) fun g1 h=>cutX (ffi 1 4) 4 (rr (Kr hr4) (gg g1 (kk 2 (ln encI [] (ln encI vb1.data_ ee))))) (Zy6 ih h)
theorem Zza {x0:GL1Cur} {r:GReq×GL1Cur} {vb0:GL1Cur} {vb1:GReq} (h:Zgj x0 vb0 vb1=some r):CS (Zp9 x0 r) Tryz.f110 [1,1,1,1,1] [(0,.ptr (0,63) 0 0),(2,.ptr (1,1) 0 0),(3,.ptr (1,3) 0 0)] [((0,63),⟨true,true,true,0,[(GL1Cur.enc vb0)]⟩),rx 2 3 ([].map encI),bx 1 [bl false,il 0,il 0,il 0,bl false,.sl (1,2) 0 ([].map encI).length],rx 4 3 (vb1.data_.map encI),bx 3 [bl vb1.write,il vb1.addr,il vb1.size,il vb1.burst,bl vb1.lock,.sl (1,4) 0 (vb1.data_.map encI).length]]:=
 cutX (ffi 1 4) 4 (ln encI [] (ln encI vb1.data_ ee)) (Z9e h)
theorem Zut {x0:GL1Cur} {r:GReq×GL1Cur} (h:Zi0 x0=some r):Fine Tryz.prog Mo (Zp9 x0 r):=
 Zb Tryz.func110 (bnK h fun r5 hr5 h=>bnK h fun r6 hr6 h=>bnK h fun r7 hr7 h=>bnK h fun r8 hr8 h=>bnK h fun r9 hr9 h=>bnK h fun r10 hr10 h=>bnK h fun r11 hr11 h=>bnK h fun r12 hr12 h=>bnK h fun r13 hr13 h=>bnK h fun r14 hr14 h=>bnK h fun r15 hr15 h=>bnK h fun n0 hn0 h=>bnK h fun r16 hr16 h=>have p1 {q p} (k:Scr q p):=(rr (Zjq hr5) (kk 1 (ob (show 5=([2,2,2,0,1].map encI).length from rfl) (rr (Xk hr6) (kk 1 (ob (show 5=([0,0,1,2,3].map encI).length from rfl) (rr (Xk hr7) (rr (Zjq hr8) (rr (W1 hr9) (rr (Zw hr10) (rr (Zw hr11) (rr (Zw hr12) (rr (Zw hr13) (rr (Zw hr14) (kk 1 (ob (show 5=([r10.1,r11.1,(addW 128 r12.1),(addW 192 r13.1),r14.1].map encI).length from rfl) (rr (Xk hr15) (tp (.obl) (ob (nz0 hn0) (rr (Zvu hr16) k))))))))))))))))))));itK h (fun g1 h=>cutX [((1,1),(1,0)),((1,3),(2,11264))] 13 (p1 (gg g1 ee)) (Zza h)) fun g1 h=>cutX [((1,1),(1,0)),((1,3),(2,11264))] 13 (p1 (gg g1 ee)) (Zza h))
abbrev Ydu (x0:GL1Cur) (r:Int×GL1Cur):Y:=(188,[.agg [.tr (x0.b.map encU),il x0.i,il x0.h]],il r.1,[.agg [.tr (r.2.b.map encU),il r.2.i,il r.2.h]])
theorem Z2j {x0:GL1Cur} {r:Int×GL1Cur} (h:Zkt x0=some r):Fine Tryz.prog Mo (Ydu x0 r):=
 Zb Tryz.func188 (bnK h fun r0 hr0 h=>rtK h (rr (Zw hr0) ee))
abbrev Ylf (x0:GL1Cur) (r:GReq×GL1Cur):Y:=(112,[.agg [.tr (x0.b.map encU),il x0.i,il x0.h]],.agg [bl r.1.write,il r.1.addr,il r.1.size,il r.1.burst,bl r.1.lock,.own 3 (r.1.data_.map encI)],[.agg [.tr (r.2.b.map encU),il r.2.i,il r.2.h]])
theorem Z0d {x0:GL1Cur} {r:GReq×GL1Cur} (h:Zix x0=some r):Fine Tryz.prog Mo (Ylf x0 r):=
 Zb Tryz.func112 (bnK h fun r0 hr0 h=>bnK h fun r1 hr1 h=>have p1 {q p} (k:Scr q p):=(rr (Zut hr0) (rr (Zw hr1) k));itK h (fun g1 h=>bnK h fun r2 hr2 h=>rtK h (p1 (gg g1 (kk 1 (ob (show 4=([(-4),510,512,61].map encI).length from rfl) (rr (Xk hr2) (kk 1 (oe encI r0.1.data_ ee)))))))) fun g1 h=>itK h (fun g2 h=>rtK h (p1 (gg g1 (gg g2 (kk 1 (oe encI r0.1.data_ ee)))))) fun g2 h=>itK h (fun g3 h=>bnK h fun r3 hr3 h=>rtK h (p1 (gg g1 (gg g2 (gg g3 (rr (Z2j hr3) (kk 1 (oe encI r0.1.data_ ee)))))))) fun g3 h=>itK h (fun g4 h=>bnK h fun r4 hr4 h=>rtK h (p1 (gg g1 (gg g2 (gg g3 (gg g4 (rr (Z2j hr4) (kk 1 (oe encI r0.1.data_ ee))))))))) fun g4 h=>itK h (fun g5 h=>bnK h fun z0 hz0 h=>rtK h (p1 (gg g1 (gg g2 (gg g3 (gg g4 (gg g5 (ta encI [1] z0 (kk 2 (oa 1 Wp 1 (ox encI hz0 (oe encI z0 (oe encI z0 ee))))))))))))) fun g5 h=>rtK h (p1 (gg g1 (gg g2 (gg g3 (gg g4 (gg g5 (kk 1 (oe encI r0.1.data_ ee)))))))))
abbrev Zs6 (x0:List Int) (r:GConf×List GReq):Y:=(52,[.tr (x0.map encU)],.tup [.agg [.own 81 (r.1.masters.map GMConf.enc),il r.1.quantum,il r.1.maxWait,il r.1.maxRetry,il r.1.maxSplit,il r.1.lockMost],.own 72 (r.2.map GReq.enc)],[.undef])
theorem Zt5 {x0:List Int} {r:GConf×List GReq} {vb0:GL1Cur} {vb1:GConf} {v0:List GReq} {v1:Bool} (h:Zbp x0 vb0 vb1 v0 v1=some r):CS (Zs6 x0 r) Tryz.f52 [1,1,1,1,1,0,1] [(2,.ptr (1,1) 0 0),(4,.ptr (1,3) 0 0),(5,.ptr (1,4) 0 0),(6,.sl (1,6) 0 (v0.map GReq.enc).length),(30,bl v1)] [rx 2 81 ([].map GMConf.enc),bx 1 [.sl (1,2) 0 ([].map GMConf.enc).length,il 0,il 0,il 0,il 0,il 0],bx 3 (GL1Cur.enc vb0),rx 5 81 (vb1.masters.map GMConf.enc),bx 4 [.sl (1,5) 0 (vb1.masters.map GMConf.enc).length,il vb1.quantum,il vb1.maxWait,il vb1.maxRetry,il vb1.maxSplit,il vb1.lockMost],rx 6 72 (v0.map GReq.enc)]:=
 itK h (fun g1 h=>bnK h fun r0 hr0 h=>bnK h fun a0 ha0 h=>bnK h fun y0 hy0 h=>rtK h (gg g1 (rr (Z0d hr0) (xq GReq.enc ha0 y0 (kk 3 (oe encI r0.1.data_ (ob (seto GReq.enc hy0) (oe GMConf.enc vb1.masters (ob (setl GReq.enc hy0) ee))))))))) fun g1 h=>rtK h (gg g1 (kk 2 (oe GMConf.enc vb1.masters (oe GReq.enc v0 ee))))
theorem Z3z {x0:List Int} {r:GConf×List GReq}:∀{m:Nat} {vb0:GL1Cur} {vb1:GConf} {v0:List GReq} {v2:Int},Jj x0 m vb0 vb1 v0 v2=some r→CS (Zs6 x0 r) Tryz.f52 [1,1,1,1,0,1,0] [(2,.ptr (1,1) 0 0),(4,.ptr (1,3) 0 0),(5,.ptr (1,4) 0 0),(6,.sl (1,6) 0 (v0.map GReq.enc).length),(7,il v2)] [rx 2 81 ([].map GMConf.enc),bx 1 [.sl (1,2) 0 ([].map GMConf.enc).length,il 0,il 0,il 0,il 0,il 0],bx 3 (GL1Cur.enc vb0),rx 5 81 (vb1.masters.map GMConf.enc),bx 4 [.sl (1,5) 0 (vb1.masters.map GMConf.enc).length,il vb1.quantum,il vb1.maxWait,il vb1.maxRetry,il vb1.maxSplit,il vb1.lockMost],rx 6 72 (v0.map GReq.enc)]:=by
 intro m
 induction m with
 | zero=>intro vb0 vb1 v0 v2 h;cases h
 | succ m ih=>exact fun {vb0} {vb1} {v0} {v2} h=>itK h (fun g1 h=>bnK h fun r1 hr1 h=>bnK h fun z0 hz0 h=>cutX (ffi 1 5++[((1,6),(3,4096))]) 11 (gg g1 (rr (Zut hr1) (kk 1 (ta GReq.enc [r1.1] z0 (kk 1 (oe encI r1.1.data_ (oa 6 GReq.enc_len r1.1 (ox GReq.enc hz0 (ln GReq.enc z0 (oe GReq.enc z0 (ln GMConf.enc [] (ln GMConf.enc vb1.masters ee)))))))))))) (ih h)) fun g1 h=>itK h (fun g2 h=>bnK h fun r2 hr2 h=>cutX (ffi 1 6) 12 (gg g1 (lr GReq.enc v0 (gg g2 (kk 1 (rr (Zjq hr2) (kk 1 (ln GReq.enc v0 (ln GMConf.enc [] (ln GMConf.enc vb1.masters ee))))))))) (Zt5 h)) fun g2 h=>cutX (ffi 1 6) 12 (gg g1 (lr GReq.enc v0 (gg g2 (kk 2 (ln GReq.enc v0 (ln GMConf.enc [] (ln GMConf.enc vb1.masters ee))))))) (Zt5 h)
theorem Yc7 {x0:List Int} {r:GConf×List GReq} (h:Zn3 x0=some r):Fine Tryz.prog Mo (Zs6 x0 r):=
 Zb Tryz.func52 (bnK h fun r3 hr3 h=>bnK h fun r4 hr4 h=>bnK h fun r5 hr5 h=>cutX [((1,1),(1,0)),((1,3),(2,1087)),((1,4),(3,2048)),((1,5),(3,1024)),((1,6),(4,0))] 12 (rr (Z89 hr3) (rr (Z0c hr4) (rr (Zw hr5) (tp (.num ([].map GReq.enc).length 0 0 []) (ob (show 0=([].map GReq.enc).length from rfl) (ln GMConf.enc r4.1.masters ee)))))) (Z3z h))
abbrev Yiz (x0:Int) (x1:Int) (x2:Int) (r:Bool):Y:=(77,[il x0,il x1,il x2],bl r,[.undef,.undef,.undef])
theorem Zv {x0:Int} {x1:Int} {x2:Int} {r:Bool} (h:Z1 x0 x1 x2=some r):Fine Tryz.prog Mo (Yiz x0 x1 x2 r):=
 Zb Tryz.func77 (itK h (fun g1 h=>rtK h (gg g1 (kk 3 ee))) fun g1 h=>rtK h (gg g1 (kk 3 ee)))
abbrev Z5w (x0:GConf) (r:Int):Y:=(19,[.agg (GConf.enc x0)],il r,[.undef])
theorem Zwi {x0:GConf} {r:Int} {v0:Bool} (h:Zot x0 v0=some r):CS (Z5w x0 r) Tryz.f19 [1,0,1] [(1,.ptr (1,1) 0 0),(12,bl v0)] [bx 1 (GConf.enc x0)]:=
 itK h (fun g1 h=>rtK h (gg g1 ee)) fun g1 h=>rtK h (gg g1 ee)
theorem Zxz {x0:GConf} {r:Int} (h:Zm4 x0=some r):Fine Tryz.prog Mo (Z5w x0 r):=
 Zb Tryz.func19 (bnK h fun r0 hr0 h=>itK h (fun g1 h=>cutX [((1,1),(1,0))] 5 (rr (Zv hr0) (gg g1 (kk 4 ee))) (Zwi h)) fun g1 h=>bnK h fun r1 hr1 h=>cutX [((1,1),(1,0))] 5 (rr (Zv hr0) (gg g1 (kk 2 (rr (Zv hr1) (kk 2 ee))))) (Zwi h))
abbrev Yh8 (x0:GConf) (r:Int):Y:=(119,[.agg (GConf.enc x0)],il r,[.undef])
theorem Zyk {x0:GConf} {r:Int} (h:Znf x0=some r):Fine Tryz.prog Mo (Yh8 x0 r):=
 Zb Tryz.func119 (bnK h fun r0 hr0 h=>itK h (fun g1 h=>rtK h (rr (Zxz hr0) (gg g1 (kk 5 ee)))) fun g1 h=>bnK h fun r1 hr1 h=>have p1 {q p} (k:Scr q p):=(rr (Zxz hr0) (gg g1 (kk 2 (rr (Zv hr1) (kk 2 k)))));itK h (fun g2 h=>rtK h (p1 (gg g2 ee))) fun g2 h=>bnK h fun r2 hr2 h=>rtK h (p1 (gg g2 (rr (Zxz hr2) ee))))
abbrev Z80 (x0:GConf) (r:Int):Y:=(252,[.agg (GConf.enc x0)],il r,[.undef])
theorem Z9g {x0:GConf} {r:Int}:∀{m:Nat} {v0:Int} {v1:Int},Zlc x0 m v0 v1=some r→CS (Z80 x0 r) Tryz.f252 [1,1,0,1,0] [(3,il v0),(7,.tr (x0.masters.map GMConf.enc)),(8,il (x0.masters.length:Int)),(9,il v1)] []:=by
 intro m
 induction m with
 | zero=>intro v0 v1 h;cases h
 | succ m ih=>exact fun {v0} {v1} h=>itK h (fun g1 h=>bnK h fun a0 ha0 h=>itK h (fun g2 h=>cutX [] 16 (gg g1 (xb GMConf.enc ha0 (gg g2 ee))) (ih h)) fun g2 h=>cutX [] 16 (gg g1 (xb GMConf.enc ha0 (gg g2 ee))) (ih h)) fun g1 h=>rtK h (gg g1 ee)
theorem Yjo {x0:GConf} {r:Int} (h:Zvk x0=some r):Fine Tryz.prog Mo (Z80 x0 r):=
 Zb Tryz.func252 (cutX [] 8 (lr GMConf.enc x0.masters ee) (Z9g h))
abbrev Z7u (x0:GConf) (r:Int):Y:=(197,[.agg (GConf.enc x0)],il r,[.undef])
theorem Zwy {x0:GConf} {r:Int} (h:Zkh x0=some r):Fine Tryz.prog Mo (Z7u x0 r):=
 Zb Tryz.func197 (bnK h fun r0 hr0 h=>bnK h fun r1 hr1 h=>rtK h (rr (Zyk hr0) (rr (Yjo hr1) ee)))
abbrev Ycn (x0:GMConf) (x1:GConf) (r:Bool):Y:=(196,[.agg (GMConf.enc x0),.rp true (GConf.enc x1) 0],bl r,[.undef,.undef])
theorem Zzp {x0:GMConf} {x1:GConf} {r:Bool} (h:Zns x0 x1=some r):Fine Tryz.prog Mo (Ycn x0 x1 r):=
 Zb Tryz.func196 (bnK h fun r0 hr0 h=>have p1 {q p} (k:Scr q p):=(rr (Zv hr0) k);itK h (fun g1 h=>rtK h (p1 (gg g1 ee))) fun g1 h=>itK h (fun g2 h=>bnK h fun r1 hr1 h=>bnK h fun r2 hr2 h=>itK h (fun g3 h=>rtK h (p1 (gg g1 (gg g2 (rr (Zwy hr1) (rr (Zv hr2) (gg g3 (kk 4 ee)))))))) fun g3 h=>bnK h fun r3 hr3 h=>rtK h (p1 (gg g1 (gg g2 (rr (Zwy hr1) (rr (Zv hr2) (gg g3 (kk 2 (rr (Zv hr3) (kk 2 ee)))))))))) fun g2 h=>itK h (fun g3 h=>rtK h (p1 (gg g1 (gg g2 (gg g3 (kk 3 ee)))))) fun g3 h=>rtK h (p1 (gg g1 (gg g2 (gg g3 (kk 3 ee))))))
abbrev Km (x0:List GMConf) (x1c0:GConf) (r:Int):Y:=(251,[.tr (x0.map GMConf.enc),.fn 196 [.rp true (GConf.enc x1c0) 0]],il r,[.undef,.undef])
theorem Zck {x0:List GMConf} {x1c0:GConf} {r:Int}:∀{m:Nat} {v0:Int},Z3 x0 x1c0 m v0=some r→CS (Km x0 x1c0 r) Tryz.f251 [1,0,1,0] [(0,.tr (x0.map GMConf.enc)),(1,.fn 196 [.rp true (GConf.enc x1c0) 0]),(7,il (x0.length:Int)),(8,il v0)] []:=by
 intro m
 induction m with
 | zero=>intro v0 h;cases h
 | succ m ih=>exact fun {v0} h=>itK h (fun g1 h=>bnK h fun a0 ha0 h=>bnK h fun r0 hr0 h=>itK h (fun g2 h=>rtK h (gg g1 (xb GMConf.enc ha0 (rr (Zzp hr0) (gg g2 ee))))) fun g2 h=>cutX [] 16 (gg g1 (xb GMConf.enc ha0 (rr (Zzp hr0) (gg g2 ee)))) (ih h)) fun g1 h=>rtK h (gg g1 ee)
theorem Zep {x0:List GMConf} {x1c0:GConf} {r:Int} (h:Wd x0 x1c0=some r):Fine Tryz.prog Mo (Km x0 x1c0 r):=
 Zb Tryz.func251 (cutX [] 6 (lr GMConf.enc x0 ee) (Zck h))
abbrev Zde (x0:List GMConf) (x1c0:GConf) (r:Bool):Y:=(195,[.tr (x0.map GMConf.enc),.fn 196 [.rp true (GConf.enc x1c0) 0]],bl r,[.undef,.undef])
theorem Zcz {x0:List GMConf} {x1c0:GConf} {r:Bool} (h:Yz x0 x1c0=some r):Fine Tryz.prog Mo (Zde x0 x1c0 r):=
 Zb Tryz.func195 (bnK h fun r0 hr0 h=>rtK h (rr (Zep hr0) ee))
abbrev Yiu (x0:GConf) (r:Bool):Y:=(116,[.agg (GConf.enc x0)],bl r,[.undef])
theorem Zf8 {x0:GConf} {r:Bool} (h:Zgg x0=some r):Fine Tryz.prog Mo (Yiu x0 r):=
 Zb Tryz.func116 (bnK h fun r0 hr0 h=>have p1 {q p} (k:Scr q p):=(lr GMConf.enc x0.masters (rr (Zv hr0) k));itK h (fun g1 h=>rtK h (p1 (gg g1 (kk 14 ee)))) fun g1 h=>bnK h fun r1 hr1 h=>have p2 {q p} (k:Scr q p):=(p1 (gg g1 (kk 2 (rr (Zv hr1) (kk 2 k)))));itK h (fun g2 h=>rtK h (p2 (gg g2 (kk 9 ee)))) fun g2 h=>bnK h fun r2 hr2 h=>have p3 {q p} (k:Scr q p):=(p2 (gg g2 (kk 2 (rr (Zv hr2) (kk 2 k)))));itK h (fun g3 h=>rtK h (p3 (gg g3 (kk 4 ee)))) fun g3 h=>bnK h fun r3 hr3 h=>itK h (fun g4 h=>rtK h (p3 (gg g3 (kk 1 (rr (Zyk hr3) (kk 2 (gg g4 ee))))))) fun g4 h=>bnK h fun r4 hr4 h=>rtK h (p3 (gg g3 (kk 1 (rr (Zyk hr3) (kk 2 (gg g4 (rr (Zcz hr4) ee))))))))
abbrev Zgm (x0:List GMConf) (r:List GMConf):Y:=(204,[.tr (x0.map GMConf.enc)],.own 81 (r.map GMConf.enc),[.undef])
theorem Zq4 {x0:List GMConf} {r:List GMConf} (h:Q8 x0=some r):Fine Tryz.prog Mo (Zgm x0 r):=by
 refine Zb Tryz.func204 ?_
 unfold Q8 at h
 cases x0 with
 | nil=>
  obtain rfl:[]=r:=(Zyf h)
  have hn:CS (Zgm [] []) Tryz.f204 [1,0,0] [(0,.tr [])] []:=Zyu Mo fOk (k:=at_ [1,0,1] (Zta Tryz.f204) []) (x0:=.tmp 0) (d0:=3) (d1:=4) (t:=24) (e:=81) (y:=.const (.slice none 0 0)) (by kernel_rfl) (by kernel_rfl) rfl rfl fun b=>by
   cases b with
   | true=>exact rtQ rfl [.k] tt
   | false=>exact rtQ rfl [.k,.app [] true [] 0,.k] (aa (Eq.refl ([]:List (List V))) (aa (Eq.refl true) (aa (Eq.refl true) (aa (Eq.refl 0) (aa (apz 32) (aa (Eq.refl ([]:List (List V))) (aa (Eq.refl 0) (aa (Eq.refl 0) tt))))))))
  exact cutQ [] 4 [] tt hn
 | cons a l=>
  exact rtQ rfl [.k,.app ((a::l).map GMConf.enc) true (r.map GMConf.enc) (r.map GMConf.enc).length,.k] (aa (List.cons_ne_nil (GMConf.enc a) (l.map GMConf.enc)) (aa (Eq.refl ((a::l).map GMConf.enc)) (aa (ltr GMConf.enc_lit (a::l)) (aa (alr 4 GMConf.enc_len (a::l)) (aa (Eq.refl 0) (aa (apl GMConf.enc h) (aa (apm0 GMConf.enc h) (aa (lene GMConf.enc r) (aa (lene GMConf.enc r) tt)))))))))
abbrev Ye2 (x0:GConf) (r:GConf):Y:=(136,[.agg (GConf.enc x0)],.agg [.own 81 (r.masters.map GMConf.enc),il r.quantum,il r.maxWait,il r.maxRetry,il r.maxSplit,il r.lockMost],[.undef])
theorem Z29 {x0:GConf} {r:GConf} (h:Zk5 x0=some r):Fine Tryz.prog Mo (Ye2 x0 r):=
 Zb Tryz.func136 (bnK h fun r0 hr0 h=>rtK h (rr (Zq4 hr0) (kk 1 (oe GMConf.enc r0 ee))))
abbrev Yin  (r:GDev):Y:=(241,[],.agg (GDev.ow r),[])
theorem Yhf  {r:GDev} (h:Z4w  = some r):Fine Tryz.prog Mo (Yin  r):=
 Zb Tryz.func241 (bnK h fun m0 hm0 h=>rtK h (tp (.mk (4:Int).toNat (m0.map encI)) (kk 1 (ob (mkn hm0) (ob (mkn hm0) (ob (mkl hm0) (ob (mkr encI hm0) (oe encI m0 ee))))))))
abbrev Yc3  (r:GModel):Y:=(176,[],.agg (GModel.ow r),[])
theorem Yak  {r:GModel} (h:Zmy  = some r):Fine Tryz.prog Mo (Yc3  r):=
 Zb Tryz.func176 (bnK h fun m0 hm0 h=>bnK h fun r0 hr0 h=>rtK h (tp (.mk (192:Int).toNat (m0.map encI)) (ob (mkn hm0) (ob (mkn hm0) (ob (mkl hm0) (ob (mkr encI hm0) (rr (Yhf hr0) (kk 3 (oe encI m0 (GDev.so r0 ee))))))))))
abbrev Z91 (x0:GMConf) (r:GBucket):Y:=(177,[.agg (GMConf.enc x0)],.agg (GBucket.enc r),[.undef])
theorem Z9j {x0:GMConf} {r:GBucket} (h:Zlk x0=some r):Fine Tryz.prog Mo (Z91 x0 r):=
 Zb Tryz.func177 (itK h (fun g1 h=>rtK h (gg g1 ee)) fun g1 h=>rtK h (gg g1 ee))
abbrev Z5l (x0:GConf) (r:GBus×Bool):Y:=(94,[.agg (GConf.enc x0)],.tup [.agg (GBus.ow r.1),bl r.2],[.undef])
theorem Z78 {x0:GConf} {r:GBus×Bool}:∀{m:Nat} {vb0:GBus} {v0:Int},Zjh x0 m vb0 v0=some r→CS (Z5l x0 r) Tryz.f94 [1,1,1,0,1,0] [(2,.ptr (1,1) 0 0),(4,.ptr (1,10) 0 0),(16,.tr (x0.masters.map GMConf.enc)),(17,il (x0.masters.length:Int)),(18,il v0)] (GBus.bk GBus.z0 2++[bx 1 (GBus.rl GBus.z0 2)]++GBus.bk vb0 11++[bx 10 (GBus.rl vb0 11)]):=by
 intro m
 induction m with
 | zero=>intro vb0 v0 h;cases h
 | succ m ih=>exact fun {vb0} {v0} h=>itK h (fun g1 h=>bnK h fun a0 ha0 h=>bnK h fun z0 hz0 h=>bnK h fun r0 hr0 h=>bnK h fun z1 hz1 h=>bnK h fun z2 hz2 h=>cutX (ffi 1 11++[((1,12),(4,4096)),((1,13),(5,5120)),((1,14),(6,3072))]++ffi 15 4) 17 (gg g1 (xb GMConf.enc ha0 (ta GMst.enc [GMst.z0] z0 (kk 1 (oa 6 GMst.enc_len GMst.z0 (ox GMst.enc hz0 (oe GMst.enc z0 (rr (Z9j hr0) (ta GBucket.enc [r0] z1 (kk 1 (ta encI [0] z2 (kk 1 (oa 2 GBucket.enc_len r0 (ox GBucket.enc hz1 (oe GBucket.enc z1 (oa 1 Wp 0 (ox encI hz2 (oe encI z2 (GBus.sc GBus.z0 (GBus.sc {vb0 with m:=z0,buckets:=z1,splits:=z2} ee)))))))))))))))))))) (ih h)) fun g1 h=>rtK h (gg g1 (kk 8 (GBus.so vb0 ee)))
theorem Zxu {x0:GConf} {r:GBus×Bool} (h:Zru x0=some r):Fine Tryz.prog Mo (Z5l x0 r):=
 Zb Tryz.func94 (bnK h fun r1 hr1 h=>itK h (fun g1 h=>rtK h (rr (Zf8 hr1) (gg g1 ee))) fun g1 h=>bnK h fun r2 hr2 h=>bnK h fun r3 hr3 h=>cutX [((1,1),(1,1024)),((1,10),(3,4096)),((1,11),(3,1024)),((1,15),(3,2048)),((1,16),(3,2049)),((1,17),(3,2051))] 13 (rr (Zf8 hr1) (gg g1 (rr (Z29 hr2) (rr (Yak hr3) (lr GMConf.enc x0.masters (ln GMConf.enc r2.masters (tp (.num (r3.mem.map encI).length 0 0 []) (tp (.num (r3.dev.regs.map encI).length 0 0 []) (tp (.num (r3.dev.fifo.map encI).length 0 0 []) (GModel.so r3 ee)))))))))) (Z78 h))
abbrev Yeh (x0:Int) (r:Int):Y:=(190,[il x0],il r,[.undef])
theorem Zpx {x0:Int} {r:Int} (h:Zd5 x0=some r):Fine Tryz.prog Mo (Yeh x0 r):=
 Zb Tryz.func190 (bnK h fun r0 hr0 h=>itK h (fun g1 h=>rtK h (rr (Zv hr0) (gg g1 ee))) fun g1 h=>bnK h fun a0 ha0 h=>rtK h (rr (Zv hr0) (gg g1 (xd encI ha0 ee))))
abbrev Yfe (x0:Int) (r:Int):Y:=(256,[il x0],il r,[.undef])
theorem Jz {x0:Int} {r:Int} (h:Q5 x0=some r):Fine Tryz.prog Mo (Yfe x0 r):=
 Zb Tryz.func256 (bnK h fun r0 hr0 h=>itK h (fun g1 h=>rtK h (rr (Zv hr0) (gg g1 ee))) fun g1 h=>bnK h fun n0 hn0 h=>rtK h (rr (Zv hr0) (gg g1 (tp (.obl) (ob (nn0 hn0) ee)))))
abbrev Yf2 (x0:Int) (x1:Int) (r:Bool):Y:=(213,[il x0,il x1],bl r,[.undef,.undef])
theorem Zdx {x0:Int} {x1:Int} {r:Bool} (h:Zdy x0 x1=some r):Fine Tryz.prog Mo (Yf2 x0 x1 r):=
 Zb Tryz.func213 (bnK h fun r0 hr0 h=>itK h (fun g1 h=>itK h (fun g2 h=>bnK h fun r1 hr1 h=>bnK h fun n0 hn0 h=>rtK h (rr (Zv hr0) (gg g1 (kk 2 (gg g2 (kk 2 (rr (Jz hr1) (kk 1 (tp (.obl) (kk 2 (ob (nz0 hn0) ee))))))))))) fun g2 h=>rtK h (rr (Zv hr0) (gg g1 (kk 2 (gg g2 (kk 5 ee)))))) fun g1 h=>rtK h (rr (Zv hr0) (gg g1 (kk 8 ee))))
abbrev Z0j (x0:Int) (x1:Int) (x2:Int) (r:Int):Y:=(260,[il x0,il x1,il x2],il r,[.undef,.undef,.undef])
theorem Zly {x0:Int} {x1:Int} {x2:Int} {r:Int} {v0:Bool} (h:Zby x0 x1 x2 v0=some r):CS (Z0j x0 x1 x2 r) Tryz.f260 [1,0,1] [(0,il x0),(1,il x1),(2,il x2),(21,bl v0)] []:=
 itK h (fun g1 h=>rtK h (gg g1 ee)) fun g1 h=>bnK h fun r0 hr0 h=>bnK h fun r1 hr1 h=>have p1 {q p} (k:Scr q p):=(gg g1 (rr (Jz hr0) (rr (Jz hr1) k)));itK h (fun g2 h=>bnK h fun n0 hn0 h=>itK h (fun g3 h=>rtK h (p1 (gg g2 (kk 2 (tp (.obl) (kk 2 (ob (nz0 hn0) (gg g3 ee)))))))) fun g3 h=>rtK h (p1 (gg g2 (kk 2 (tp (.obl) (kk 2 (ob (nz0 hn0) (gg g3 ee)))))))) fun g2 h=>rtK h (p1 (gg g2 (kk 5 ee)))
theorem Z0n {x0:Int} {x1:Int} {x2:Int} {r:Int} (h:Zog x0 x1 x2=some r):Fine Tryz.prog Mo (Z0j x0 x1 x2 r):=
 Zb Tryz.func260 (bnK h fun r2 hr2 h=>itK h (fun g1 h=>cutX [] 5 (rr (Zdx hr2) (gg g1 (kk 6 ee))) (Zly h)) fun g1 h=>itK h (fun g2 h=>cutX [] 5 (rr (Zdx hr2) (gg g1 (kk 2 (gg g2 (kk 3 ee))))) (Zly h)) fun g2 h=>bnK h fun r3 hr3 h=>cutX [] 5 (rr (Zdx hr2) (gg g1 (kk 2 (gg g2 (kk 1 (rr (Zpx hr3) (kk 2 ee))))))) (Zly h))
abbrev Zwq (x0:Int) (x1:Int) (x2:Int) (r:List Int):Y:=(215,[il x0,il x1,il x2],.own 3 (r.map encI),[.undef,.undef,.undef])
theorem Z0x {x0:Int} {x1:Int} {x2:Int} {r:List Int}:∀{m:Nat} {v0:Int} {v1:List Int} {v2:Int} {v3:Int},Zdg x0 x1 x2 m v0 v1 v2 v3=some r→CS (Zwq x0 x1 x2 r) Tryz.f215 [1,1,0,1,0] [(0,il v0),(1,il x1),(2,il x2),(7,.sl (1,1) 0 (v1.map encI).length),(11,il v2),(12,il v3)] [rx 1 3 (v1.map encI)]:=by
 intro m
 induction m with
 | zero=>intro v0 v1 v2 v3 h;cases h
 | succ m ih=>exact fun {v0} {v1} {v2} {v3} h=>itK h (fun g1 h=>bnK h fun r0 hr0 h=>itK h (fun g2 h=>rtK h (gg g1 (rr (Z0n hr0) (gg g2 ee)))) fun g2 h=>bnK h fun z0 hz0 h=>cutX [((1,1),(5,3072))] 20 (gg g1 (rr (Z0n hr0) (gg g2 (ta encI [v0] z0 (kk 1 (oa 1 Wp v0 (ox encI hz0 (ln encI z0 (oe encI z0 ee))))))))) (ih h)) fun g1 h=>rtK h (gg g1 (kk 1 (oe encI v1 ee)))
theorem Zwh {x0:Int} {x1:Int} {x2:Int} {r:List Int} (h:Zeq x0 x1 x2=some r):Fine Tryz.prog Mo (Zwq x0 x1 x2 r):=
 Zb Tryz.func215 (bnK h fun r1 hr1 h=>cutX [((1,1),(2,0))] 8 (rr (Zpx hr1) (tp (.num ([].map encI).length 0 0 []) (ob (show 0=([].map encI).length from rfl) ee))) (Z0x h))
abbrev Z2q (x0:Int) (x1:Int) (x2:Int) (r:Bool):Y:=(191,[il x0,il x1,il x2],bl r,[.undef,.undef,.undef])
theorem Z55 {x0:Int} {x1:Int} {x2:Int} {r:Bool}:∀{m:Nat} {v0:List Int} {v1:Int} {v2:Int},Zh3 x0 x1 x2 m v0 v1 v2=some r→CS (Z2q x0 x1 x2 r) Tryz.f191 [1,1,0,1,0] [(7,.sl (1,1) 0 (v0.map encI).length),(14,.sl (1,1) 0 (v0.map encI).length),(15,il v1),(16,il v2)] [rx 1 3 (v0.map encI)]:=by
 intro m
 induction m with
 | zero=>intro v0 v1 v2 h;cases h
 | succ m ih=>exact fun {v0} {v1} {v2} h=>itK h (fun g1 h=>bnK h fun a0 ha0 h=>bnK h fun a1 ha1 h=>itK h (fun g2 h=>rtK h (gg g1 (xd encI ha0 (kk 1 (xd encI ha1 (kk 1 (gg g2 ee))))))) fun g2 h=>cutX [((1,1),(1,1))] 16 (gg g1 (xd encI ha0 (kk 1 (xd encI ha1 (kk 1 (gg g2 (ln encI v0 (ln encI v0 ee)))))))) (ih h)) fun g1 h=>rtK h (gg g1 (lr encI v0 ee))
theorem Zvs {x0:Int} {x1:Int} {x2:Int} {r:Bool} (h:Zpj x0 x1 x2=some r):Fine Tryz.prog Mo (Z2q x0 x1 x2 r):=
 Zb Tryz.func191 (bnK h fun r0 hr0 h=>cutX [((1,1),(2,3072))] 8 (rr (Zwh hr0) (lr encI r0 (ln encI r0 (ln encI r0 ee)))) (Z55 h))
abbrev Ydz (x0:Int) (r:Int):Y:=(250,[il x0],il r,[.undef])
theorem Z2z {x0:Int} {r:Int} (h:Zkq x0=some r):Fine Tryz.prog Mo (Ydz x0 r):=
 Zb Tryz.func250 (bnK h fun r0 hr0 h=>itK h (fun g1 h=>rtK h (rr (Jz hr0) (gg g1 ee))) fun g1 h=>bnK h fun r1 hr1 h=>bnK h fun n0 hn0 h=>rtK h (rr (Jz hr0) (gg g1 (rr (Jz hr1) (tp (.obl) (ob (nn0 hn0) ee))))))
abbrev Ylt (x0:Int) (x1:Int) (r:Bool):Y:=(194,[il x0,il x1],bl r,[.undef,.undef])
theorem Ziu {x0:Int} {x1:Int} {r:Bool} (h:Za9 x0 x1=some r):Fine Tryz.prog Mo (Ylt x0 x1 r):=
 Zb Tryz.func194 (bnK h fun r0 hr0 h=>bnK h fun r1 hr1 h=>rtK h (rr (Z2z hr0) (rr (Zv hr1) ee)))
abbrev Yfw (x0:Int) (x1:GReq) (r:Bool):Y:=(193,[il x0,.rp true (GReq.enc x1) 0],bl r,[.undef,.undef])
theorem Z2d {x0:Int} {x1:GReq} {r:Bool} (h:Zpc x0 x1=some r):Fine Tryz.prog Mo (Yfw x0 x1 r):=
 Zb Tryz.func193 (bnK h fun r0 hr0 h=>rtK h (rr (Ziu hr0) ee))
abbrev Jx (x0:List Int) (x1c0:GReq) (r:Int):Y:=(249,[.tr (x0.map encI),.fn 193 [.rp true (GReq.enc x1c0) 0]],il r,[.undef,.undef])
theorem Ze5 {x0:List Int} {x1c0:GReq} {r:Int}:∀{m:Nat} {v0:Int},Wk x0 x1c0 m v0=some r→CS (Jx x0 x1c0 r) Tryz.f249 [1,0,1,0] [(0,.tr (x0.map encI)),(1,.fn 193 [.rp true (GReq.enc x1c0) 0]),(7,il (x0.length:Int)),(8,il v0)] []:=by
 intro m
 induction m with
 | zero=>intro v0 h;cases h
 | succ m ih=>exact fun {v0} h=>itK h (fun g1 h=>bnK h fun a0 ha0 h=>bnK h fun r0 hr0 h=>itK h (fun g2 h=>rtK h (gg g1 (xb encI ha0 (rr (Z2d hr0) (gg g2 ee))))) fun g2 h=>cutX [] 16 (gg g1 (xb encI ha0 (rr (Z2d hr0) (gg g2 ee)))) (ih h)) fun g1 h=>rtK h (gg g1 ee)
theorem Zic {x0:List Int} {x1c0:GReq} {r:Int} (h:W6 x0 x1c0=some r):Fine Tryz.prog Mo (Jx x0 x1c0 r):=
 Zb Tryz.func249 (cutX [] 6 (lr encI x0 ee) (Ze5 h))
abbrev Zgf (x0:List Int) (x1c0:GReq) (r:Bool):Y:=(192,[.tr (x0.map encI),.fn 193 [.rp true (GReq.enc x1c0) 0]],bl r,[.undef,.undef])
theorem Zfw {x0:List Int} {x1c0:GReq} {r:Bool} (h:Xf x0 x1c0=some r):Fine Tryz.prog Mo (Zgf x0 x1c0 r):=
 Zb Tryz.func192 (bnK h fun r0 hr0 h=>rtK h (rr (Zic hr0) ee))
abbrev Z8b (x0:GReq) (r:Bool):Y:=(115,[.agg (GReq.enc x0)],bl r,[.undef])
theorem Zy3 {x0:GReq} {r:Bool} {v0:Int} (h:Zlb x0 v0=some r):CS (Z8b x0 r) Tryz.f115 [1,1,1] [(1,.ptr (1,1) 0 0),(3,il v0)] [bx 1 (GReq.enc x0)]:=
 bnK h fun r0 hr0 h=>itK h (fun g1 h=>itK h (fun g2 h=>bnK h fun r1 hr1 h=>rtK h (rr (Zvs hr0) (gg g1 (kk 2 (lr encI x0.data_ (kk 3 (gg g2 (kk 3 (rr (Zfw hr1) (kk 2 ee)))))))))) fun g2 h=>rtK h (rr (Zvs hr0) (gg g1 (kk 2 (lr encI x0.data_ (kk 3 (gg g2 (kk 5 ee)))))))) fun g1 h=>rtK h (rr (Zvs hr0) (gg g1 (kk 11 ee)))
theorem Zud {x0:GReq} {r:Bool} (h:Zmb x0=some r):Fine Tryz.prog Mo (Z8b x0 r):=
 Zb Tryz.func115 (itK h (fun g1 h=>bnK h fun r2 hr2 h=>cutX [((1,1),(1,0))] 9 (gg g1 (rr (Zpx hr2) ee)) (Zy3 h)) fun g1 h=>cutX [((1,1),(1,0))] 9 (gg g1 ee) (Zy3 h))
abbrev Yjg (x0:GReq) (r:Bool):Y:=(114,[.agg (GReq.enc x0)],bl r,[.undef])
theorem Z4e {x0:GReq} {r:Bool} (h:Zrs x0=some r):Fine Tryz.prog Mo (Yjg x0 r):=
 Zb Tryz.func114 (bnK h fun r0 hr0 h=>rtK h (rr (Zud hr0) ee))
abbrev Zab (x0:List GReq) (r:Int):Y:=(189,[.tr (x0.map GReq.enc),.fn 114 []],il r,[.undef,.undef])
theorem Zf3 {x0:List GReq} {r:Int}:∀{m:Nat} {v0:Int},Xe x0 m v0=some r→CS (Zab x0 r) Tryz.f189 [1,0,1,0] [(0,.tr (x0.map GReq.enc)),(1,.fn 114 []),(7,il (x0.length:Int)),(8,il v0)] []:=by
 intro m
 induction m with
 | zero=>intro v0 h;cases h
 | succ m ih=>exact fun {v0} h=>itK h (fun g1 h=>bnK h fun a0 ha0 h=>bnK h fun r0 hr0 h=>itK h (fun g2 h=>rtK h (gg g1 (xb GReq.enc ha0 (rr (Z4e hr0) (gg g2 ee))))) fun g2 h=>cutX [] 16 (gg g1 (xb GReq.enc ha0 (rr (Z4e hr0) (gg g2 ee)))) (ih h)) fun g1 h=>rtK h (gg g1 ee)
theorem Zi1 {x0:List GReq} {r:Int} (h:Qc x0=some r):Fine Tryz.prog Mo (Zab x0 r):=
 Zb Tryz.func189 (cutX [] 6 (lr GReq.enc x0 ee) (Zf3 h))
abbrev Zgi (x0:List GReq) (r:Bool):Y:=(113,[.tr (x0.map GReq.enc),.fn 114 []],bl r,[.undef,.undef])
theorem Zgq {x0:List GReq} {r:Bool} (h:Wz x0=some r):Fine Tryz.prog Mo (Zgi x0 r):=
 Zb Tryz.func113 (bnK h fun r0 hr0 h=>rtK h (rr (Zi1 hr0) ee))
abbrev Zkr (x0:List Int) (r:List Int):Y:=(139,[.tr (x0.map encI)],.own 3 (r.map encI),[.undef])
theorem Xh {x0:List Int} {r:List Int} (h:Yd x0=some r):Fine Tryz.prog Mo (Zkr x0 r):=by
 refine Zb Tryz.func139 ?_
 unfold Yd at h
 cases x0 with
 | nil=>
  obtain rfl:[]=r:=(Zyf h)
  have hn:CS (Zkr [] []) Tryz.f139 [1,0,0] [(0,.tr [])] []:=Zyu Mo fOk (k:=at_ [1,0,1] (Zta Tryz.f139) []) (x0:=.tmp 0) (d0:=3) (d1:=4) (t:=31) (e:=3) (y:=.const (.slice none 0 0)) (by kernel_rfl) (by kernel_rfl) rfl rfl fun b=>by
   cases b with
   | true=>exact rtQ rfl [.k] tt
   | false=>exact rtQ rfl [.k,.app [] true [] 0,.k] (aa (Eq.refl ([]:List (List V))) (aa (Eq.refl true) (aa (Eq.refl true) (aa (Eq.refl 0) (aa (apz 8) (aa (Eq.refl ([]:List (List V))) (aa (Eq.refl 0) (aa (Eq.refl 0) tt))))))))
  exact cutQ [] 4 [] tt hn
 | cons a l=>
  exact rtQ rfl [.k,.app ((a::l).map encI) true (r.map encI) (r.map encI).length,.k] (aa (List.cons_ne_nil (encI a) (l.map encI)) (aa (Eq.refl ((a::l).map encI)) (aa (ltr Zlw (a::l)) (aa (alr 1 Wp (a::l)) (aa (Eq.refl 0) (aa (apl encI h) (aa (apm0 encI h) (aa (lene encI r) (aa (lene encI r) tt)))))))))
abbrev Yix (x0:GReq) (r:GReq):Y:=(205,[.agg (GReq.enc x0)],.agg [bl r.write,il r.addr,il r.size,il r.burst,bl r.lock,.own 3 (r.data_.map encI)],[.undef])
theorem Zyx {x0:GReq} {r:GReq} (h:Zfq x0=some r):Fine Tryz.prog Mo (Yix x0 r):=
 Zb Tryz.func205 (bnK h fun r0 hr0 h=>rtK h (rr (Xh hr0) (kk 1 (oe encI r0 ee))))
abbrev Z5z (x0:GMst) (r:GMst):Y:=(137,[.agg (GMst.enc x0)],.agg [.own 72 (r.queue.map GReq.enc),il r.beat,il r.done,il r.tries,bl r.parted,bl r.broken],[.undef])
theorem Z7z {x0:GMst} {r:GMst}:∀{m:Nat} {v0:List GReq} {v1:Int},Zj6 x0 m v0 v1=some r→CS (Z5z x0 r) Tryz.f137 [1,1,0,1,0] [(1,.ptr (1,1) 0 0),(2,.ptr (1,2) 0 0),(3,.sl (1,4) 0 (v0.map GReq.enc).length),(8,.tr (x0.queue.map GReq.enc)),(9,il (x0.queue.length:Int)),(10,il v1)] [bx 1 (GMst.enc x0),rx 3 72 ([].map GReq.enc),bx 2 [.sl (1,3) 0 ([].map GReq.enc).length,il 0,il 0,il 0,bl false,bl false],rx 4 72 (v0.map GReq.enc)]:=by
 intro m
 induction m with
 | zero=>intro v0 v1 h;cases h
 | succ m ih=>exact fun {v0} {v1} h=>itK h (fun g1 h=>bnK h fun a0 ha0 h=>bnK h fun r0 hr0 h=>bnK h fun z0 hz0 h=>cutX (ffi 1 3++[((1,4),(4,4096))]) 13 (gg g1 (xb GReq.enc ha0 (rr (Zyx hr0) (kk 1 (ta GReq.enc [r0] z0 (kk 1 (oe encI r0.data_ (oa 6 GReq.enc_len r0 (ox GReq.enc hz0 (ln GReq.enc z0 (oe GReq.enc z0 (ln GReq.enc [] ee)))))))))))) (ih h)) fun g1 h=>rtK h (gg g1 (kk 1 (oe GReq.enc v0 ee)))
theorem Zdm {x0:GMst} {r:GMst} (h:Zc4 x0=some r):Fine Tryz.prog Mo (Z5z x0 r):=
 Zb Tryz.func137 (cutX [((1,1),(1,0)),((1,2),(1,1024)),((1,4),(2,0))] 8 (lr GReq.enc x0.queue (tp (.num ([].map GReq.enc).length 0 0 []) (ob (show 0=([].map GReq.enc).length from rfl) ee))) (Z7z h))
abbrev Zem (x0:List GBucket) (r:List GBucket):Y:=(138,[.tr (x0.map GBucket.enc)],.own 110 (r.map GBucket.enc),[.undef])
theorem Zol {x0:List GBucket} {r:List GBucket} (h:Qn x0=some r):Fine Tryz.prog Mo (Zem x0 r):=by
 refine Zb Tryz.func138 ?_
 unfold Qn at h
 cases x0 with
 | nil=>
  obtain rfl:[]=r:=(Zyf h)
  have hn:CS (Zem [] []) Tryz.f138 [1,0,0] [(0,.tr [])] []:=Zyu Mo fOk (k:=at_ [1,0,1] (Zta Tryz.f138) []) (x0:=.tmp 0) (d0:=3) (d1:=4) (t:=30) (e:=110) (y:=.const (.slice none 0 0)) (by kernel_rfl) (by kernel_rfl) rfl rfl fun b=>by
   cases b with
   | true=>exact rtQ rfl [.k] tt
   | false=>exact rtQ rfl [.k,.app [] true [] 0,.k] (aa (Eq.refl ([]:List (List V))) (aa (Eq.refl true) (aa (Eq.refl true) (aa (Eq.refl 0) (aa (apz 16) (aa (Eq.refl ([]:List (List V))) (aa (Eq.refl 0) (aa (Eq.refl 0) tt))))))))
  exact cutQ [] 4 [] tt hn
 | cons a l=>
  exact rtQ rfl [.k,.app ((a::l).map GBucket.enc) true (r.map GBucket.enc) (r.map GBucket.enc).length,.k] (aa (List.cons_ne_nil (GBucket.enc a) (l.map GBucket.enc)) (aa (Eq.refl ((a::l).map GBucket.enc)) (aa (ltr GBucket.enc_lit (a::l)) (aa (alr 2 GBucket.enc_len (a::l)) (aa (Eq.refl 0) (aa (apl GBucket.enc h) (aa (apm0 GBucket.enc h) (aa (lene GBucket.enc r) (aa (lene GBucket.enc r) tt)))))))))
abbrev Yim (x0:GDev) (r:GDev):Y:=(206,[.agg (GDev.enc x0)],.agg (GDev.ow r),[.undef])
theorem Z5q {x0:GDev} {r:GDev} (h:Zml x0=some r):Fine Tryz.prog Mo (Yim x0 r):=
 Zb Tryz.func206 (bnK h fun r0 hr0 h=>bnK h fun r1 hr1 h=>rtK h (rr (Xh hr0) (rr (Xh hr1) (kk 2 (oe encI r0 (oe encI r1 ee))))))
abbrev Ya8 (x0:GModel) (r:GModel):Y:=(140,[.agg (GModel.enc x0)],.agg (GModel.ow r),[.undef])
theorem Ztf {x0:GModel} {r:GModel} (h:Ze0 x0=some r):Fine Tryz.prog Mo (Ya8 x0 r):=
 Zb Tryz.func140 (bnK h fun r0 hr0 h=>bnK h fun r1 hr1 h=>rtK h (rr (Xh hr0) (rr (Z5q hr1) (kk 3 (oe encI r0 (GDev.so r1 ee))))))
abbrev Ziy (x0:List GDone) (r:List GDone):Y:=(106,[.tr (x0.map GDone.enc)],.own 52 (r.map GDone.enc),[.undef])
theorem Ztb {x0:List GDone} {r:List GDone} (h:Kz x0=some r):Fine Tryz.prog Mo (Ziy x0 r):=by
 refine Zb Tryz.func106 ?_
 unfold Kz at h
 cases x0 with
 | nil=>
  obtain rfl:[]=r:=(Zyf h)
  have hn:CS (Ziy [] []) Tryz.f106 [1,0,0] [(0,.tr [])] []:=Zyu Mo fOk (k:=at_ [1,0,1] (Zta Tryz.f106) []) (x0:=.tmp 0) (d0:=3) (d1:=4) (t:=38) (e:=52) (y:=.const (.slice none 0 0)) (by kernel_rfl) (by kernel_rfl) rfl rfl fun b=>by
   cases b with
   | true=>exact rtQ rfl [.k] tt
   | false=>exact rtQ rfl [.k,.app [] true [] 0,.k] (aa (Eq.refl ([]:List (List V))) (aa (Eq.refl true) (aa (Eq.refl true) (aa (Eq.refl 0) (aa (apz 56) (aa (Eq.refl ([]:List (List V))) (aa (Eq.refl 0) (aa (Eq.refl 0) tt))))))))
  exact cutQ [] 4 [] tt hn
 | cons a l=>
  exact rtQ rfl [.k,.app ((a::l).map GDone.enc) true (r.map GDone.enc) (r.map GDone.enc).length,.k] (aa (List.cons_ne_nil (GDone.enc a) (l.map GDone.enc)) (aa (Eq.refl ((a::l).map GDone.enc)) (aa (ltr GDone.enc_lit (a::l)) (aa (alr 7 GDone.enc_len (a::l)) (aa (Eq.refl 0) (aa (apl GDone.enc h) (aa (apm0 GDone.enc h) (aa (lene GDone.enc r) (aa (lene GDone.enc r) tt)))))))))
abbrev Z5k (x0:GBus) (r:GBus):Y:=(72,[.agg (GBus.enc x0)],.agg (GBus.ow r),[.undef])
theorem Z7r {x0:GBus} {r:GBus}:∀{m:Nat} {vb0:GBus} {v0:List GMst} {v1:Int},Zel x0 m vb0 v0 v1=some r→CS (Z5k x0 r) Tryz.f72 [1,1,1,0,1,0] [(1,.ptr (1,1) 0 0),(2,.ptr (1,3) 0 0),(3,.sl (1,12) 0 (v0.map GMst.enc).length),(12,.tr (x0.m.map GMst.enc)),(13,il (x0.m.length:Int)),(14,il v1)] ([rx 2 81 (vb0.conf.masters.map GMConf.enc),bx 1 [.sl (1,2) 0 (vb0.conf.masters.map GMConf.enc).length,il vb0.conf.quantum,il vb0.conf.maxWait,il vb0.conf.maxRetry,il vb0.conf.maxSplit,il vb0.conf.lockMost,il vb0.now,.tr (vb0.m.map GMst.enc),il vb0.arb.at_,il vb0.arb.credit,.tr (vb0.buckets.map GBucket.enc),.tr (vb0.splits.map encI),il vb0.holder,il vb0.held,il vb0.last,bl vb0.addr.live,il vb0.addr.who,il vb0.addr.beat,bl vb0.addr.first,il vb0.addr.by_,il vb0.addr.left,il vb0.addr.resp,bl vb0.addr.second,bl vb0.data_.live,il vb0.data_.who,il vb0.data_.beat,bl vb0.data_.first,il vb0.data_.by_,il vb0.data_.left,il vb0.data_.resp,bl vb0.data_.second,.tr (vb0.model.mem.map encI),.tr (vb0.model.dev.regs.map encI),il vb0.model.dev.timer,.tr (vb0.model.dev.fifo.map encI),il vb0.picks,.tr (vb0.log.map GDone.enc)]]++GBus.bk GBus.z0 4++[bx 3 (GBus.rl GBus.z0 4),rx 12 107 (v0.map GMst.enc)]):=by
 intro m
 induction m with
 | zero=>intro vb0 v0 v1 h;cases h
 | succ m ih=>exact fun {vb0} {v0} {v1} h=>itK h (fun g1 h=>bnK h fun a0 ha0 h=>bnK h fun r0 hr0 h=>bnK h fun z0 hz0 h=>cutX (ffi 1 11++[((1,12),(4,4096))]) 13 (gg g1 (xb GMst.enc ha0 (rr (Zdm hr0) (kk 1 (ta GMst.enc [r0] z0 (kk 1 (oe GReq.enc r0.queue (oa 6 GMst.enc_len r0 (ox GMst.enc hz0 (ln GMst.enc z0 (oe GMst.enc z0 (ln GMConf.enc vb0.conf.masters (GBus.sc GBus.z0 ee))))))))))))) (ih h)) fun g1 h=>bnK h fun r1 hr1 h=>bnK h fun r2 hr2 h=>bnK h fun r3 hr3 h=>bnK h fun r4 hr4 h=>rtK h (gg g1 (rr (Zol hr1) (rr (Xh hr2) (rr (Ztf hr3) (rr (Ztb hr4) (kk 8 (oe GMConf.enc vb0.conf.masters (oe GMst.enc v0 (oe GBucket.enc r1 (oe encI r2 (GModel.so r3 (oe GDone.enc r4 ee))))))))))))
theorem Zx1 {x0:GBus} {r:GBus} (h:Zm1 x0=some r):Fine Tryz.prog Mo (Z5k x0 r):=
 Zb Tryz.func72 (bnK h fun r5 hr5 h=>cutX [((1,1),(1,0)),((1,2),(2,2048)),((1,3),(1,1024)),((1,12),(3,0))] 10 (rr (Z29 hr5) (lr GMst.enc x0.m (tp (.num ([].map GMst.enc).length 0 0 []) (ob (show 0=([].map GMst.enc).length from rfl) (ln GMConf.enc r5.masters ee))))) (Z7r h))
abbrev Zzx (x0:GReq) (r:Bool):Y:=(254,[.agg (GReq.enc x0)],bl r,[.undef])
theorem Zqa {x0:GReq} {r:Bool} (h:Zc8 x0=some r):Fine Tryz.prog Mo (Zzx x0 r):=
 Zb Tryz.func254 (bnK h fun r0 hr0 h=>rtK h (rr (Zud hr0) ee))
abbrev Q1 (x0:List GReq) (r:Int):Y:=(189,[.tr (x0.map GReq.enc),.fn 254 []],il r,[.undef,.undef])
theorem Zbv {x0:List GReq} {r:Int}:∀{m:Nat} {v0:Int},Xo x0 m v0=some r→CS (Q1 x0 r) Tryz.f189 [1,0,1,0] [(0,.tr (x0.map GReq.enc)),(1,.fn 254 []),(7,il (x0.length:Int)),(8,il v0)] []:=by
 intro m
 induction m with
 | zero=>intro v0 h;cases h
 | succ m ih=>exact fun {v0} h=>itK h (fun g1 h=>bnK h fun a0 ha0 h=>bnK h fun r0 hr0 h=>itK h (fun g2 h=>rtK h (gg g1 (xb GReq.enc ha0 (rr (Zqa hr0) (gg g2 ee))))) fun g2 h=>cutX [] 16 (gg g1 (xb GReq.enc ha0 (rr (Zqa hr0) (gg g2 ee)))) (ih h)) fun g1 h=>rtK h (gg g1 ee)
theorem Zdw {x0:List GReq} {r:Int} (h:X5 x0=some r):Fine Tryz.prog Mo (Q1 x0 r):=
 Zb Tryz.func189 (cutX [] 6 (lr GReq.enc x0 ee) (Zbv h))
abbrev Zcj (x0:List GReq) (r:Bool):Y:=(113,[.tr (x0.map GReq.enc),.fn 254 []],bl r,[.undef,.undef])
theorem Zcg {x0:List GReq} {r:Bool} (h:Yt x0=some r):Fine Tryz.prog Mo (Zcj x0 r):=
 Zb Tryz.func113 (bnK h fun r0 hr0 h=>rtK h (rr (Zdw hr0) ee))
abbrev Z9k (x0:GMst) (r:Int):Y:=(214,[.rp true (GMst.enc x0) 0],il r,[.undef])
theorem Zal {x0:GMst} {r:Int} (h:Ja x0=some r):Fine Tryz.prog Mo (Z9k x0 r):=
 Zb Tryz.func214 (itK h (fun g1 h=>rtK h (lr GReq.enc x0.queue (gg g1 ee))) fun g1 h=>bnK h fun a0 ha0 h=>bnK h fun r0 hr0 h=>rtK h (lr GReq.enc x0.queue (gg g1 (xb GReq.enc ha0 (rr (Zpx hr0) ee)))))
abbrev Zs5 (x0:GMst) (r:Bool):Y:=(207,[.agg (GMst.enc x0)],bl r,[.undef])
theorem Zgc {x0:GMst} {r:Bool} {v0:Bool} (h:Xg x0 v0=some r):CS (Zs5 x0 r) Tryz.f207 [1,0,1] [(1,.ptr (1,1) 0 0),(16,bl v0)] [bx 1 (GMst.enc x0)]:=
 itK h (fun g1 h=>rtK h (gg g1 ee)) fun g1 h=>have p1 {q p} (k:Scr q p):=(gg g1 (lr GReq.enc x0.queue k));itK h (fun g2 h=>itK h (fun g3 h=>itK h (fun g4 h=>have p2 {q p} (k:Scr q p):=(p1 (gg g2 (gg g3 (kk 3 (gg g4 (kk 3 k))))));itK h (fun g5 h=>itK h (fun g6 h=>rtK h (p2 (gg g5 (kk 3 (gg g6 (kk 3 ee)))))) fun g6 h=>rtK h (p2 (gg g5 (kk 3 (gg g6 (kk 3 ee)))))) fun g5 h=>rtK h (p2 (gg g5 (kk 7 ee)))) fun g4 h=>rtK h (p1 (gg g2 (gg g3 (kk 3 (gg g4 (kk 11 ee))))))) fun g3 h=>rtK h (p1 (gg g2 (gg g3 (kk 15 ee))))) fun g2 h=>bnK h fun r0 hr0 h=>bnK h fun r1 hr1 h=>itK h (fun g3 h=>bnK h fun r2 hr2 h=>bnK h fun r3 hr3 h=>rtK h (p1 (gg g2 (rr (Zal hr0) (rr (Zv hr1) (gg g3 (kk 7 (rr (Zal hr2) (kk 2 (rr (Zv hr3) (kk 1 ee))))))))))) fun g3 h=>rtK h (p1 (gg g2 (rr (Zal hr0) (rr (Zv hr1) (gg g3 (kk 10 ee))))))
theorem X3 {x0:GMst} {r:Bool} (h:Wu x0=some r):Fine Tryz.prog Mo (Zs5 x0 r):=
 Zb Tryz.func207 (itK h (fun g1 h=>cutX [((1,1),(1,0))] 5 (lr GReq.enc x0.queue (gg g1 (kk 7 ee))) (Zgc h)) fun g1 h=>itK h (fun g2 h=>cutX [((1,1),(1,0))] 5 (lr GReq.enc x0.queue (gg g1 (kk 3 (gg g2 (kk 3 ee))))) (Zgc h)) fun g2 h=>bnK h fun r4 hr4 h=>cutX [((1,1),(1,0))] 5 (lr GReq.enc x0.queue (gg g1 (kk 3 (gg g2 (kk 2 (rr (Zcg hr4) (kk 1 ee))))))) (Zgc h))
abbrev Yb4 (x0:GBucket) (x1:GMConf) (r:Bool):Y:=(208,[.agg (GBucket.enc x0),.agg (GMConf.enc x1)],bl r,[.undef,.undef])
theorem Zzf {x0:GBucket} {x1:GMConf} {r:Bool} (h:Zih x0 x1=some r):Fine Tryz.prog Mo (Yb4 x0 x1 r):=
 Zb Tryz.func208 (itK h (fun g1 h=>rtK h (gg g1 ee)) fun g1 h=>bnK h fun r0 hr0 h=>itK h (fun g2 h=>itK h (fun g3 h=>rtK h (gg g1 (rr (Zv hr0) (gg g2 (kk 3 (gg g3 (kk 5 ee))))))) fun g3 h=>rtK h (gg g1 (rr (Zv hr0) (gg g2 (kk 3 (gg g3 (kk 5 ee))))))) fun g2 h=>rtK h (gg g1 (rr (Zv hr0) (gg g2 (kk 9 ee)))))
abbrev Zil (x0:GBus) (r:Bool):Y:=(141,[.rp true (GBus.enc x0) 0],bl r,[.undef])
theorem Zvv {x0:GBus} {r:Bool}:∀{m:Nat} {v0:Int},Zd4 x0 m v0=some r→CS (Zil x0 r) Tryz.f141 [1,1,1,0,1,0] [(0,.rp true (GBus.enc x0) 0),(40,.tr (x0.m.map GMst.enc)),(41,il (x0.m.length:Int)),(42,il v0)] []:=by
 intro m
 induction m with
 | zero=>intro v0 h;cases h
 | succ m ih=>exact fun {v0} h=>itK h (fun g1 h=>bnK h fun a0 ha0 h=>bnK h fun r0 hr0 h=>have p1 {q p} (k:Scr q p):=(gg g1 (xb GMst.enc ha0 (rr (X3 hr0) k)));itK h (fun g2 h=>rtK h (p1 (gg g2 (kk 42 ee)))) fun g2 h=>itK h (fun g3 h=>rtK h (p1 (gg g2 (kk 8 (gg g3 (kk 33 ee)))))) fun g3 h=>bnK h fun a1 ha1 h=>bnK h fun a2 ha2 h=>bnK h fun r1 hr1 h=>have p2 {q p} (k:Scr q p):=(p1 (gg g2 (kk 8 (gg g3 (kk 5 (xb GBucket.enc ha1 (kk 8 (xb GMConf.enc ha2 (kk 2 (rr (Zzf hr1) (kk 2 k)))))))))));itK h (fun g4 h=>rtK h (p2 (gg g4 (kk 15 ee)))) fun g4 h=>bnK h fun a3 ha3 h=>bnK h fun r2 hr2 h=>have p3 {q p} (k:Scr q p):=(p2 (gg g4 (kk 5 (xb encI ha3 (kk 7 (rr (Zv hr2) (kk 2 k)))))));itK h (fun g5 h=>rtK h (p3 (gg g5 ee))) fun g5 h=>cutX [] 16 (p3 (gg g5 ee)) (ih h)) fun g1 h=>rtK h (gg g1 ee)
theorem Zdz {x0:GBus} {r:Bool} {v1:Bool} (h:X4 x0 v1=some r):CS (Zil x0 r) Tryz.f141 [1,1,0,1] [(0,.rp true (GBus.enc x0) 0),(36,bl v1)] []:=
 itK h (fun g1 h=>rtK h (gg g1 ee)) fun g1 h=>cutX [] 6 (gg g1 (lr GMst.enc x0.m ee)) (Zvv h)
theorem Z0p {x0:GBus} {r:Bool} (h:Zdp x0=some r):Fine Tryz.prog Mo (Zil x0 r):=
 Zb Tryz.func141 (have p1 {q p} (k:Scr q p):=(lr GMConf.enc x0.conf.masters (lr GMst.enc x0.m k));itK h (fun g1 h=>cutX [] 7 (p1 (gg g1 (kk 15 ee))) (Zdz h)) fun g1 h=>itK h (fun g2 h=>cutX [] 7 (p1 (gg g1 (kk 4 (lr GBucket.enc x0.buckets (kk 3 (gg g2 (kk 7 ee))))))) (Zdz h)) fun g2 h=>cutX [] 7 (p1 (gg g1 (kk 4 (lr GBucket.enc x0.buckets (kk 3 (gg g2 (kk 4 (lr encI x0.splits (kk 3 ee))))))))) (Zdz h))
abbrev Ydc (x0:GConf) (x1:Int) (r:Bool):Y:=(143,[.agg (GConf.enc x0),il x1],bl r,[.undef,.undef])
theorem Zbl {x0:GConf} {x1:Int} {r:Bool} (h:Qh x0 x1=some r):Fine Tryz.prog Mo (Ydc x0 x1 r):=
 Zb Tryz.func143 (bnK h fun r0 hr0 h=>rtK h (lr GMConf.enc x0.masters (rr (Zv hr0) ee)))
abbrev Z6t (x0:GConf) (x1:Int) (r:Int):Y:=(198,[.agg (GConf.enc x0),il x1],il r,[.undef,.undef])
theorem Zwu {x0:GConf} {x1:Int} {r:Int} {v0:Bool} (h:Zov x0 x1 v0=some r):CS (Z6t x0 x1 r) Tryz.f198 [1,0,1] [(1,il x1),(2,.ptr (1,1) 0 0),(13,bl v0)] [bx 1 (GConf.enc x0)]:=
 itK h (fun g1 h=>rtK h (gg g1 ee)) fun g1 h=>bnK h fun a0 ha0 h=>rtK h (gg g1 (xb GMConf.enc ha0 ee))
theorem Zya {x0:GConf} {x1:Int} {r:Int} (h:Zjx x0 x1=some r):Fine Tryz.prog Mo (Z6t x0 x1 r):=
 Zb Tryz.func198 (bnK h fun r0 hr0 h=>itK h (fun g1 h=>cutX [((1,1),(1,0))] 5 (rr (Zf8 hr0) (gg g1 (kk 4 ee))) (Zwu h)) fun g1 h=>bnK h fun r1 hr1 h=>cutX [((1,1),(1,0))] 5 (rr (Zf8 hr0) (gg g1 (kk 2 (rr (Zbl hr1) (kk 2 ee))))) (Zwu h))
abbrev Yjq (x0:GWrr) (x1:GConf) (r:Bool):Y:=(142,[.agg (GWrr.enc x0),.agg (GConf.enc x1)],bl r,[.undef,.undef])
theorem Zqq {x0:GWrr} {x1:GConf} {r:Bool} (h:Zig x0 x1=some r):Fine Tryz.prog Mo (Yjq x0 x1 r):=
 Zb Tryz.func142 (bnK h fun r0 hr0 h=>itK h (fun g1 h=>bnK h fun r1 hr1 h=>have p1 {q p} (k:Scr q p):=(rr (Zf8 hr0) (gg g1 (kk 3 (rr (Zbl hr1) (kk 1 k)))));itK h (fun g2 h=>bnK h fun r2 hr2 h=>bnK h fun r3 hr3 h=>rtK h (p1 (gg g2 (kk 5 (rr (Zya hr2) (kk 1 (rr (Zv hr3) (kk 1 ee)))))))) fun g2 h=>rtK h (p1 (gg g2 (kk 7 ee)))) fun g1 h=>rtK h (rr (Zf8 hr0) (gg g1 (kk 12 ee))))
abbrev Yif (x0:Int) (r:Bool):Y:=(255,[il x0],bl r,[.undef])
theorem Z5s {x0:Int} {r:Bool} (h:Zrm x0=some r):Fine Tryz.prog Mo (Yif x0 r):=
 Zb Tryz.func255 (bnK h fun r0 hr0 h=>rtK h (rr (Zv hr0) ee))
abbrev J9 (x0:List Int) (r:Int):Y:=(249,[.tr (x0.map encI),.fn 255 []],il r,[.undef,.undef])
theorem Zfp {x0:List Int} {r:Int}:∀{m:Nat} {v0:Int},Wq x0 m v0=some r→CS (J9 x0 r) Tryz.f249 [1,0,1,0] [(0,.tr (x0.map encI)),(1,.fn 255 []),(7,il (x0.length:Int)),(8,il v0)] []:=by
 intro m
 induction m with
 | zero=>intro v0 h;cases h
 | succ m ih=>exact fun {v0} h=>itK h (fun g1 h=>bnK h fun a0 ha0 h=>bnK h fun r0 hr0 h=>itK h (fun g2 h=>rtK h (gg g1 (xb encI ha0 (rr (Z5s hr0) (gg g2 ee))))) fun g2 h=>cutX [] 16 (gg g1 (xb encI ha0 (rr (Z5s hr0) (gg g2 ee)))) (ih h)) fun g1 h=>rtK h (gg g1 ee)
theorem Zio {x0:List Int} {r:Int} (h:Qg x0=some r):Fine Tryz.prog Mo (J9 x0 r):=
 Zb Tryz.func249 (cutX [] 6 (lr encI x0 ee) (Zfp h))
abbrev Zgl (x0:List Int) (r:Bool):Y:=(192,[.tr (x0.map encI),.fn 255 []],bl r,[.undef,.undef])
theorem Zgp {x0:List Int} {r:Bool} (h:Xl x0=some r):Fine Tryz.prog Mo (Zgl x0 r):=
 Zb Tryz.func192 (bnK h fun r0 hr0 h=>rtK h (rr (Zio hr0) ee))
abbrev Ymu (x0:List Int) (x1:Int) (x2:Int) (r:Bool):Y:=(209,[.tr (x0.map encI),il x1,il x2],bl r,[.undef,.undef,.undef])
theorem Zor {x0:List Int} {x1:Int} {x2:Int} {r:Bool} (h:Zoo x0 x1 x2=some r):Fine Tryz.prog Mo (Ymu x0 x1 x2 r):=
 Zb Tryz.func209 (itK h (fun g1 h=>bnK h fun r0 hr0 h=>have p1 {q p} (k:Scr q p):=(lr encI x0 (gg g1 (kk 1 (rr (Zgp hr0) (kk 2 k)))));itK h (fun g2 h=>bnK h fun r1 hr1 h=>itK h (fun g3 h=>bnK h fun r2 hr2 h=>rtK h (p1 (gg g2 (kk 2 (rr (Zdx hr1) (kk 1 (gg g3 (kk 2 (lr encI x0 (kk 2 (rr (Jz hr2) (kk 3 ee)))))))))))) fun g3 h=>rtK h (p1 (gg g2 (kk 2 (rr (Zdx hr1) (kk 1 (gg g3 (kk 7 ee)))))))) fun g2 h=>rtK h (p1 (gg g2 (kk 11 ee)))) fun g1 h=>rtK h (lr encI x0 (gg g1 (kk 15 ee))))
abbrev Yfz (x0:Int) (r:Bool):Y:=(257,[il x0],bl r,[.undef])
theorem Z17 {x0:Int} {r:Bool} (h:Zo5 x0=some r):Fine Tryz.prog Mo (Yfz x0 r):=
 Zb Tryz.func257 (bnK h fun r0 hr0 h=>rtK h (rr (Ziu hr0) ee))
abbrev Jw (x0:List Int) (r:Int):Y:=(249,[.tr (x0.map encI),.fn 257 []],il r,[.undef,.undef])
theorem Ze4 {x0:List Int} {r:Int}:∀{m:Nat} {v0:Int},Wj x0 m v0=some r→CS (Jw x0 r) Tryz.f249 [1,0,1,0] [(0,.tr (x0.map encI)),(1,.fn 257 []),(7,il (x0.length:Int)),(8,il v0)] []:=by
 intro m
 induction m with
 | zero=>intro v0 h;cases h
 | succ m ih=>exact fun {v0} h=>itK h (fun g1 h=>bnK h fun a0 ha0 h=>bnK h fun r0 hr0 h=>itK h (fun g2 h=>rtK h (gg g1 (xb encI ha0 (rr (Z17 hr0) (gg g2 ee))))) fun g2 h=>cutX [] 16 (gg g1 (xb encI ha0 (rr (Z17 hr0) (gg g2 ee)))) (ih h)) fun g1 h=>rtK h (gg g1 ee)
theorem Zid {x0:List Int} {r:Int} (h:W5 x0=some r):Fine Tryz.prog Mo (Jw x0 r):=
 Zb Tryz.func249 (cutX [] 6 (lr encI x0 ee) (Ze4 h))
abbrev Zfo (x0:List Int) (r:Bool):Y:=(192,[.tr (x0.map encI),.fn 257 []],bl r,[.undef,.undef])
theorem Kx {x0:List Int} {r:Bool} (h:Yr x0=some r):Fine Tryz.prog Mo (Zfo x0 r):=
 Zb Tryz.func192 (bnK h fun r0 hr0 h=>rtK h (rr (Zid hr0) ee))
abbrev Ykq (x0:GDev) (r:Bool):Y:=(210,[.agg (GDev.enc x0)],bl r,[.undef])
theorem Z8u {x0:GDev} {r:Bool} (h:Zqh x0=some r):Fine Tryz.prog Mo (Ykq x0 r):=
 Zb Tryz.func210 (itK h (fun g1 h=>have p1 {q p} (k:Scr q p):=(lr encI x0.regs (gg g1 (kk 2 (lr encI x0.fifo (kk 2 k)))));itK h (fun g2 h=>bnK h fun r0 hr0 h=>have p2 {q p} (k:Scr q p):=(p1 (gg g2 (kk 3 (rr (Kx hr0) (kk 2 k)))));itK h (fun g3 h=>bnK h fun r1 hr1 h=>have p3 {q p} (k:Scr q p):=(p2 (gg g3 (kk 3 (rr (Kx hr1) (kk 2 k)))));itK h (fun g4 h=>bnK h fun r2 hr2 h=>rtK h (p3 (gg g4 (kk 2 (rr (Ziu hr2) (kk 1 ee)))))) fun g4 h=>rtK h (p3 (gg g4 (kk 3 ee)))) fun g3 h=>rtK h (p2 (gg g3 (kk 9 ee)))) fun g2 h=>rtK h (p1 (gg g2 (kk 15 ee)))) fun g1 h=>rtK h (lr encI x0.regs (gg g1 (kk 20 ee))))
abbrev Yd1 (x0:GModel) (r:Bool):Y:=(144,[.agg (GModel.enc x0)],bl r,[.undef])
theorem Zvm {x0:GModel} {r:Bool} (h:Zd1 x0=some r):Fine Tryz.prog Mo (Yd1 x0 r):=
 Zb Tryz.func144 (itK h (fun g1 h=>bnK h fun r0 hr0 h=>itK h (fun g2 h=>bnK h fun r1 hr1 h=>rtK h (lr encI x0.mem (gg g1 (kk 2 (rr (Zor hr0) (kk 1 (gg g2 (kk 2 (rr (Z8u hr1) (kk 1 ee)))))))))) fun g2 h=>rtK h (lr encI x0.mem (gg g1 (kk 2 (rr (Zor hr0) (kk 1 (gg g2 (kk 3 ee)))))))) fun g1 h=>rtK h (lr encI x0.mem (gg g1 (kk 7 ee))))
abbrev Z6w (x0:GBeat) (r:Bool):Y:=(259,[.agg (GBeat.enc x0)],bl r,[.undef])
theorem Zoy {x0:GBeat} {r:Bool} (h:Zke x0=some r):Fine Tryz.prog Mo (Z6w x0 r):=
 Zb Tryz.func259 (rtK h ee)
abbrev Kk (x0:List GBeat) (r:Int):Y:=(273,[.tr (x0.map GBeat.enc),.fn 259 []],il r,[.undef,.undef])
theorem Zcl {x0:List GBeat} {r:Int}:∀{m:Nat} {v0:Int},Xx x0 m v0=some r→CS (Kk x0 r) Tryz.f273 [1,0,1,0] [(0,.tr (x0.map GBeat.enc)),(1,.fn 259 []),(7,il (x0.length:Int)),(8,il v0)] []:=by
 intro m
 induction m with
 | zero=>intro v0 h;cases h
 | succ m ih=>exact fun {v0} h=>itK h (fun g1 h=>bnK h fun a0 ha0 h=>bnK h fun r0 hr0 h=>itK h (fun g2 h=>rtK h (gg g1 (xb GBeat.enc ha0 (rr (Zoy hr0) (gg g2 ee))))) fun g2 h=>cutX [] 16 (gg g1 (xb GBeat.enc ha0 (rr (Zoy hr0) (gg g2 ee)))) (ih h)) fun g1 h=>rtK h (gg g1 ee)
theorem Zet {x0:List GBeat} {r:Int} (h:Wf x0=some r):Fine Tryz.prog Mo (Kk x0 r):=
 Zb Tryz.func273 (cutX [] 6 (lr GBeat.enc x0 ee) (Zcl h))
abbrev Kc (x0:List GBeat) (r:List GBeat):Y:=(258,[.own 33 (x0.map GBeat.enc),.fn 259 []],.own 33 (r.map GBeat.enc),[.undef,.undef])
theorem Zci {x0:List GBeat} {r:List GBeat}:∀{m:Nat} {v0:List GBeat} {v1:Int} {v2:Int},Xs x0 m v0 v1 v2=some r→CS (Kc x0 r) Tryz.f258 [1,1,1,0,1,0] [(0,.sl (1,1) 0 (v0.map GBeat.enc).length),(1,.fn 259 []),(5,il v1),(6,il v2)] [rx 1 33 (v0.map GBeat.enc)]:=by
 intro m
 induction m with
 | zero=>intro v0 v1 v2 h;cases h
 | succ m ih=>exact fun {v0} {v1} {v2} h=>itK h (fun g1 h=>bnK h fun a0 ha0 h=>bnK h fun r0 hr0 h=>have p1 {q p} (k:Scr q p):=(lr GBeat.enc v0 (gg g1 (xd GBeat.enc ha0 (rr (Zoy hr0) k))));itK h (fun g2 h=>bnK h fun a1 ha1 h=>bnK h fun y0 hy0 h=>cutX [((1,1),(1,1))] 18 (p1 (gg g2 (xp GBeat.enc ha1 hy0 (tp (.num (y0.map GBeat.enc).length 0 0 []) (ob (setl GBeat.enc hy0) ee))))) (ih h)) fun g2 h=>cutX [((1,1),(1,1))] 16 (p1 (gg g2 (ln GBeat.enc v0 ee))) (ih h)) fun g1 h=>bnK h fun s0 hs0 h=>bnK h fun y1 hy1 h=>bnK h fun s1 hs1 h=>rtK h (lr GBeat.enc v0 (gg g1 (tp (.num (v1:Int).toNat ((v0.length:Int):Int).toNat (((v0.length:Int):Int).toNat - (v1:Int).toNat) []) (kk 1 (tp (.app (y1.map GBeat.enc) true [] 0) (tp (.num (0:Int).toNat (v1:Int).toNat ((v1:Int).toNat - (0:Int).toNat) []) (kk 1 (tp (.mk 0 (s1.map GBeat.enc)) (oe GBeat.enc v0 (ob (sln hs0).1 (ob (lenr GBeat.enc v0) (ob (sll GBeat.enc hs0) (ob (alr 8 GBeat.enc_len v0) (ob (Eq.refl (((v0.length:Int):Int).toNat - (v1:Int).toNat)) (ob (clrl GBeat.enc hy1) (ob (clrr GBeat.enc hy1) (ob (clrs GBeat.enc hy1) (ob (Eq.refl 0) (ob (sln hs1).2 (ob (sll GBeat.enc hs1) (ob (alr 8 GBeat.enc_len y1) (ob (Eq.refl ((v1:Int).toNat - (0:Int).toNat)) (ob (sla GBeat.enc hs1) (ob (slr GBeat.enc hs1) ee))))))))))))))))))))))))
theorem Zd6 {x0:List GBeat} {r:List GBeat} (h:Y4 x0=some r):Fine Tryz.prog Mo (Kc x0 r):=
 Zb Tryz.func258 (bnK h fun r1 hr1 h=>have p1 {q p} (k:Scr q p):=(kk 1 (oe GBeat.enc x0 (rr (Zet hr1) k)));itK h (fun g1 h=>rtK h (p1 (gg g1 (kk 1 (oe GBeat.enc x0 ee))))) fun g1 h=>cutX [((1,1),(0,0))] 13 (p1 (gg g1 (ln GBeat.enc x0 ee))) (Zci h))
abbrev Ya9 (x0:GBus) (r:List GBeat):Y:=(211,[.rp true (GBus.enc x0) 0],.own 33 (r.map GBeat.enc),[.undef])
theorem Ybi {x0:GBus} {r:List GBeat} (h:Znv x0=some r):Fine Tryz.prog Mo (Ya9 x0 r):=
 Zb Tryz.func211 (bnK h fun r0 hr0 h=>rtK h (kk 1 (ob (show 2=([x0.addr,x0.data_].map GBeat.enc).length from rfl) (rr (Zd6 hr0) (kk 1 (oe GBeat.enc r0 ee))))))
abbrev Wv (x0:GBus) (r:Bool):Y:=(145,[.rp true (GBus.enc x0) 0],bl r,[.undef])
theorem Zfi {x0:GBus} {r:Bool} {k_L1:(List Int)→(List GBeat)→Int→Int→Option Bool} (i_L1:∀{v0:List Int} {v1:List GBeat} {v2:Int} {v3:Int},k_L1 v0 v1 v2 v3=some r→CS (Wv x0 r) Tryz.f145 [1,1,0,1,0] [(0,.rp true (GBus.enc x0) 0),(3,.sl (1,1) 0 (v0.map encI).length),(18,.sl (1,2) 0 (v1.map GBeat.enc).length),(19,il v2),(20,il v3)] [rx 1 3 (v0.map encI),rx 2 33 (v1.map GBeat.enc)]) {vb0:GBeat} {v0:List Int} {v1:List GBeat} {v2:Int} {v3:Int} {v4:Bool} (h:Wr x0 k_L1 vb0 v0 v1 v2 v3 v4=some r):CS (Wv x0 r) Tryz.f145 [1,1,0,1,0,0,1,1,0,0,1,0,1] [(0,.rp true (GBus.enc x0) 0),(3,.sl (1,2) 0 (v0.map encI).length),(5,.ptr (1,1) 0 0),(18,.sl (1,3) 0 (v1.map GBeat.enc).length),(19,il v2),(20,il v3),(48,bl v4)] [bx 1 (GBeat.enc vb0),rx 2 3 (v0.map encI),rx 3 33 (v1.map GBeat.enc)]:=
 itK h (fun g1 h=>rtK h (gg g1 ee)) fun g1 h=>bnK h fun a0 ha0 h=>bnK h fun y0 hy0 h=>cutX [((1,1),(1,2)),((1,2),(1,3))] 5 (gg g1 (xd encI ha0 (xp encI ha0 hy0 (tp (.num (y0.map encI).length 0 0 []) (ob (setl encI hy0) (ln GBeat.enc v1 ee)))))) (i_L1 h)
theorem Zfn {x0:GBus} {r:Bool} {v5:Bool} (h:X1 x0 v5=some r):CS (Wv x0 r) Tryz.f145 [1,1,1,1,1,1,1,1,0,0,1,1,1,1,1] [(0,.rp true (GBus.enc x0) 0),(9,.ptr (1,1) 0 0),(179,bl v5)] [bx 1 (GBeat.enc x0.data_)]:=
 itK h (fun g1 h=>rtK h (gg g1 ee)) fun g1 h=>itK h (fun g2 h=>rtK h (gg g1 (gg g2 (kk 7 ee)))) fun g2 h=>itK h (fun g3 h=>itK h (fun g4 h=>rtK h (gg g1 (gg g2 (kk 3 (gg g3 (kk 5 (gg g4 (kk 8 ee)))))))) fun g4 h=>rtK h (gg g1 (gg g2 (kk 3 (gg g3 (kk 5 (gg g4 (kk 8 ee)))))))) fun g3 h=>rtK h (gg g1 (gg g2 (kk 3 (gg g3 (kk 14 ee)))))
theorem Zms {x0:GBus} {r:Bool} {vb1:GMst} {v6:Bool} (h:Kw x0 vb1 v6=some r):CS (Wv x0 r) Tryz.f145 [1,1,1,1,1,1,1,1,0,0,1,1,1] [(0,.rp true (GBus.enc x0) 0),(9,.ptr (1,1) 0 0),(10,.ptr (1,2) 0 0),(165,bl v6)] [bx 1 (GBeat.enc x0.data_),bx 2 (GMst.enc vb1)]:=
 itK h (fun g1 h=>rtK h (gg g1 ee)) fun g1 h=>itK h (fun g2 h=>itK h (fun g3 h=>cutX [((1,1),(1,1))] 3 (gg g1 (gg g2 (kk 2 (gg g3 (kk 9 ee))))) (Zfn h)) fun g3 h=>cutX [((1,1),(1,1))] 3 (gg g1 (gg g2 (kk 2 (gg g3 (kk 9 ee))))) (Zfn h)) fun g2 h=>cutX [((1,1),(1,1))] 3 (gg g1 (gg g2 (kk 4 ee))) (Zfn h)
theorem Zfd {x0:GBus} {r:Bool} {vb1:GMst} {v7:Bool} (h:Qm x0 vb1 v7=some r):CS (Wv x0 r) Tryz.f145 [1,1,1,1,1,1,1,1,0,0,1] [(0,.rp true (GBus.enc x0) 0),(9,.ptr (1,1) 0 0),(10,.ptr (1,2) 0 0),(141,bl v7)] [bx 1 (GBeat.enc x0.data_),bx 2 (GMst.enc vb1)]:=
 itK h (fun g1 h=>rtK h (gg g1 ee)) fun g1 h=>itK h (fun g2 h=>cutX [((1,1),(1,1)),((1,2),(1,2))] 3 (gg g1 (gg g2 (kk 8 ee))) (Zms h)) fun g2 h=>cutX [((1,1),(1,1)),((1,2),(1,2))] 3 (gg g1 (gg g2 (kk 8 ee))) (Zms h)
theorem X0 {x0:GBus} {r:Bool} {v8:Bool} (h:Yf x0 v8=some r):CS (Wv x0 r) Tryz.f145 [1,1,1,1,0,1,1] [(0,.rp true (GBus.enc x0) 0),(122,bl v8)] []:=
 itK h (fun g1 h=>rtK h (gg g1 ee)) fun g1 h=>itK h (fun g2 h=>rtK h (gg g1 (gg g2 ee))) fun g2 h=>bnK h fun a1 ha1 h=>have p1 {q p} (k:Scr q p):=(gg g1 (gg g2 (xb GMst.enc ha1 k)));itK h (fun g3 h=>cutX [((1,1),(2,4096)),((1,2),(4,8192))] 15 (p1 (gg g3 (kk 15 ee))) (Zfd h)) fun g3 h=>bnK h fun r0 hr0 h=>itK h (fun g4 h=>cutX [((1,1),(2,4096)),((1,2),(4,8192))] 15 (p1 (gg g3 (kk 8 (rr (Zv hr0) (kk 2 (gg g4 (kk 4 ee))))))) (Zfd h)) fun g4 h=>bnK h fun r1 hr1 h=>cutX [((1,1),(2,4096)),((1,2),(4,8192))] 15 (p1 (gg g3 (kk 8 (rr (Zv hr0) (kk 2 (gg g4 (kk 2 (rr (Zv hr1) (kk 2 ee))))))))) (Zfd h)
theorem Zxw {x0:GBus} {r:Bool}:∀{m:Nat} {v0:List Int} {v9:Int},Kv x0 m v0 v9=some r→CS (Wv x0 r) Tryz.f145 [1,1,1,0,1,0] [(0,.rp true (GBus.enc x0) 0),(3,.sl (1,1) 0 (v0.map encI).length),(60,.tr (x0.m.map GMst.enc)),(61,il (x0.m.length:Int)),(62,il v9)] [rx 1 3 (v0.map encI)]:=by
 intro m
 induction m with
 | zero=>intro v0 v9 h;cases h
 | succ m ih=>exact fun {v0} {v9} h=>itK h (fun g1 h=>bnK h fun a2 ha2 h=>bnK h fun a3 ha3 h=>itK h (fun g2 h=>rtK h (gg g1 (xb GMst.enc ha2 (xd encI ha3 (gg g2 ee))))) fun g2 h=>cutX [((1,1),(1,1))] 16 (gg g1 (xb GMst.enc ha2 (xd encI ha3 (gg g2 (ln encI v0 ee))))) (ih h)) fun g1 h=>itK h (fun g2 h=>bnK h fun a4 ha4 h=>have p1 {q p} (k:Scr q p):=(gg g1 (gg g2 (kk 8 (xb GMst.enc ha4 (kk 5 k)))));itK h (fun g3 h=>cutX [] 14 (p1 (gg g3 (kk 22 ee))) (X0 h)) fun g3 h=>itK h (fun g4 h=>cutX [] 14 (p1 (gg g3 (kk 5 (gg g4 (kk 16 ee))))) (X0 h)) fun g4 h=>have p2 {q p} (k:Scr q p):=(p1 (gg g3 (kk 5 (gg g4 (kk 5 k)))));itK h (fun g5 h=>cutX [] 14 (p2 (gg g5 (kk 10 ee))) (X0 h)) fun g5 h=>itK h (fun g6 h=>cutX [] 14 (p2 (gg g5 (kk 4 (gg g6 (kk 5 ee))))) (X0 h)) fun g6 h=>itK h (fun g7 h=>cutX [] 14 (p2 (gg g5 (kk 4 (gg g6 (kk 3 (gg g7 (kk 5 ee))))))) (X0 h)) fun g7 h=>cutX [] 14 (p2 (gg g5 (kk 4 (gg g6 (kk 3 (gg g7 (kk 5 ee))))))) (X0 h)) fun g2 h=>itK h (fun g3 h=>cutX [] 14 (gg g1 (gg g2 (kk 23 (gg g3 (kk 5 ee))))) (X0 h)) fun g3 h=>cutX [] 14 (gg g1 (gg g2 (kk 23 (gg g3 (kk 5 ee))))) (X0 h)
theorem Zxm {x0:GBus} {r:Bool}:∀{m:Nat} {v0:List Int} {v1:List GBeat} {v2:Int} {v3:Int},Zaz x0 m v0 v1 v2 v3=some r→CS (Wv x0 r) Tryz.f145 [1,1,0,1,0] [(0,.rp true (GBus.enc x0) 0),(3,.sl (1,1) 0 (v0.map encI).length),(18,.sl (1,2) 0 (v1.map GBeat.enc).length),(19,il v2),(20,il v3)] [rx 1 3 (v0.map encI),rx 2 33 (v1.map GBeat.enc)]:=by
 intro m
 induction m with
 | zero=>intro v0 v1 v2 v3 h;cases h
 | succ m ih=>exact fun {v0} {v1} {v2} {v3} h=>itK h (fun g1 h=>bnK h fun a5 ha5 h=>bnK h fun r2 hr2 h=>have p1 {q p} (k:Scr q p):=(gg g1 (xd GBeat.enc ha5 (rr (Zbl hr2) k)));itK h (fun g2 h=>cutX [((1,1),(3,2048)),((1,2),(1,1)),((1,3),(1,2))] 13 (p1 (gg g2 (kk 14 (ln encI v0 (ln GBeat.enc v1 ee))))) (Zfi ih h)) fun g2 h=>bnK h fun r3 hr3 h=>itK h (fun g3 h=>cutX [((1,1),(3,2048)),((1,2),(1,1)),((1,3),(1,2))] 13 (p1 (gg g2 (kk 2 (rr (Zv hr3) (kk 2 (gg g3 (kk 9 (ln encI v0 (ln GBeat.enc v1 ee))))))))) (Zfi ih h)) fun g3 h=>bnK h fun a6 ha6 h=>cutX [((1,1),(3,2048)),((1,2),(1,1)),((1,3),(1,2))] 13 (p1 (gg g2 (kk 2 (rr (Zv hr3) (kk 2 (gg g3 (kk 6 (xb encI ha6 (kk 3 (ln encI v0 (ln GBeat.enc v1 ee))))))))))) (Zfi ih h)) fun g1 h=>cutX [((1,1),(1,1))] 13 (gg g1 (lr GMst.enc x0.m (ln encI v0 ee))) (Zxw h)
theorem Zs0 {x0:GBus} {r:Bool} (h:Jt x0=some r):Fine Tryz.prog Mo (Wv x0 r):=
 Zb Tryz.func145 (bnK h fun m0 hm0 h=>bnK h fun r4 hr4 h=>cutX [((1,1),(2,5120)),((1,2),(3,1024))] 8 (lr GMst.enc x0.m (tp (.mk ((x0.m.length:Int):Int).toNat (m0.map encI)) (ob (mkn hm0) (ob (mkn hm0) (ob (mkl hm0) (ob (mkr encI hm0) (rr (Ybi hr4) (lr GBeat.enc r4 (ln encI m0 (ln GBeat.enc r4 ee)))))))))) (Zxm h))
abbrev Ylp (x0:GMst) (r:Bool):Y:=(212,[.agg (GMst.enc x0)],bl r,[.undef])
theorem Zui {x0:GMst} {r:Bool} (h:Zma x0=some r):Fine Tryz.prog Mo (Ylp x0 r):=
 Zb Tryz.func212 (itK h (fun g1 h=>bnK h fun a0 ha0 h=>itK h (fun g2 h=>rtK h (lr GReq.enc x0.queue (gg g1 (kk 2 (xb GReq.enc ha0 (kk 3 (gg g2 (kk 3 ee)))))))) fun g2 h=>rtK h (lr GReq.enc x0.queue (gg g1 (kk 2 (xb GReq.enc ha0 (kk 3 (gg g2 (kk 3 ee)))))))) fun g1 h=>rtK h (lr GReq.enc x0.queue (gg g1 (kk 9 ee))))
abbrev Zw2 (x0:GBus) (r:Bool):Y:=(146,[.rp true (GBus.enc x0) 0],bl r,[.undef])
theorem Z1c {x0:GBus} {r:Bool}:∀{m:Nat} {v0:Int},Zjc x0 m v0=some r→CS (Zw2 x0 r) Tryz.f146 [1,0,1,0] [(0,.rp true (GBus.enc x0) 0),(8,.tr (x0.m.map GMst.enc)),(9,il (x0.m.length:Int)),(10,il v0)] []:=by
 intro m
 induction m with
 | zero=>intro v0 h;cases h
 | succ m ih=>exact fun {v0} h=>itK h (fun g1 h=>bnK h fun a0 ha0 h=>have p1 {q p} (k:Scr q p):=(gg g1 (xb GMst.enc ha0 k));itK h (fun g2 h=>bnK h fun r0 hr0 h=>have p2 {q p} (k:Scr q p):=(p1 (gg g2 (kk 1 (rr (Zui hr0) (kk 1 k)))));itK h (fun g3 h=>itK h (fun g4 h=>rtK h (p2 (gg g3 (kk 6 (gg g4 ee))))) fun g4 h=>cutX [] 16 (p2 (gg g3 (kk 6 (gg g4 ee)))) (ih h)) fun g3 h=>cutX [] 16 (p2 (gg g3 (kk 7 ee))) (ih h)) fun g2 h=>cutX [] 16 (p1 (gg g2 (kk 10 ee))) (ih h)) fun g1 h=>itK h (fun g2 h=>rtK h (gg g1 (gg g2 ee))) fun g2 h=>bnK h fun r1 hr1 h=>have p3 {q p} (k:Scr q p):=(gg g1 (gg g2 (rr (Zbl hr1) k)));itK h (fun g3 h=>bnK h fun a1 ha1 h=>bnK h fun r2 hr2 h=>have p4 {q p} (k:Scr q p):=(p3 (gg g3 (kk 8 (xb GMst.enc ha1 (kk 2 (rr (Zui hr2) (kk 1 k)))))));itK h (fun g4 h=>bnK h fun a2 ha2 h=>itK h (fun g5 h=>bnK h fun r3 hr3 h=>rtK h (p4 (gg g4 (kk 8 (xb encI ha2 (kk 3 (gg g5 (kk 9 (rr (Zv hr3) (kk 1 ee)))))))))) fun g5 h=>rtK h (p4 (gg g4 (kk 8 (xb encI ha2 (kk 3 (gg g5 (kk 10 ee)))))))) fun g4 h=>rtK h (p4 (gg g4 (kk 22 ee)))) fun g3 h=>rtK h (p3 (gg g3 (kk 34 ee)))
theorem Zj3 {x0:GBus} {r:Bool} (h:Zbc x0=some r):Fine Tryz.prog Mo (Zw2 x0 r):=
 Zb Tryz.func146 (cutX [] 6 (lr GMst.enc x0.m ee) (Z1c h))
abbrev Zsf (x0:GBus) (r:Bool):Y:=(147,[.rp true (GBus.enc x0) 0],bl r,[.undef])
theorem Zyp {x0:GBus} {r:Bool}:∀{m:Nat} {v0:Int} {v1:Int},Za2 x0 m v0 v1=some r→CS (Zsf x0 r) Tryz.f147 [1,1,0,1,0] [(0,.rp true (GBus.enc x0) 0),(3,il v0),(9,.tr (x0.log.map GDone.enc)),(10,il (x0.log.length:Int)),(11,il v1)] []:=by
 intro m
 induction m with
 | zero=>intro v0 v1 h;cases h
 | succ m ih=>exact fun {v0} {v1} h=>itK h (fun g1 h=>bnK h fun a0 ha0 h=>have p1 {q p} (k:Scr q p):=(gg g1 (xb GDone.enc ha0 k));itK h (fun g2 h=>rtK h (p1 (gg g2 (kk 41 ee)))) fun g2 h=>have p2 {q p} (k:Scr q p):=(p1 (gg g2 (kk 7 k)));itK h (fun g3 h=>rtK h (p2 (gg g3 (kk 33 ee)))) fun g3 h=>bnK h fun r0 hr0 h=>have p3 {q p} (k:Scr q p):=(p2 (gg g3 (kk 6 (rr (Zbl hr0) (kk 2 k)))));itK h (fun g4 h=>rtK h (p3 (gg g4 (kk 24 ee)))) fun g4 h=>bnK h fun r1 hr1 h=>have p4 {q p} (k:Scr q p):=(p3 (gg g4 (kk 4 (rr (Zdx hr1) (kk 2 k)))));itK h (fun g5 h=>rtK h (p4 (gg g5 (kk 17 ee)))) fun g5 h=>itK h (fun g6 h=>rtK h (p4 (gg g5 (kk 3 (gg g6 (kk 13 ee)))))) fun g6 h=>bnK h fun r2 hr2 h=>have p5 {q p} (k:Scr q p):=(p4 (gg g5 (kk 3 (gg g6 (kk 4 (rr (Ziu hr2) (kk 2 k)))))));itK h (fun g7 h=>rtK h (p5 (gg g7 (kk 6 ee)))) fun g7 h=>itK h (fun g8 h=>itK h (fun g9 h=>rtK h (p5 (gg g7 (kk 3 (gg g8 (kk 5 (gg g9 ee))))))) fun g9 h=>cutX [] 18 (p5 (gg g7 (kk 3 (gg g8 (kk 5 (gg g9 ee)))))) (ih h)) fun g8 h=>cutX [] 18 (p5 (gg g7 (kk 3 (gg g8 (kk 6 ee))))) (ih h)) fun g1 h=>rtK h (gg g1 ee)
theorem Zsj {x0:GBus} {r:Bool} (h:Jr x0=some r):Fine Tryz.prog Mo (Zsf x0 r):=
 Zb Tryz.func147 (cutX [] 8 (lr GDone.enc x0.log ee) (Zyp h))
abbrev Yln (x0:GBus) (r:Bool):Y:=(73,[.agg (GBus.enc x0)],bl r,[.undef])
theorem Z8n {x0:GBus} {r:Bool} (h:Zmf x0=some r):Fine Tryz.prog Mo (Yln x0 r):=
 Zb Tryz.func73 (bnK h fun r0 hr0 h=>have p1 {q p} (k:Scr q p):=(rr (Zf8 hr0) k);itK h (fun g1 h=>bnK h fun r1 hr1 h=>have p2 {q p} (k:Scr q p):=(p1 (gg g1 (kk 2 (rr (Zv hr1) (kk 1 k)))));itK h (fun g2 h=>bnK h fun r2 hr2 h=>have p3 {q p} (k:Scr q p):=(p2 (gg g2 (rr (Z0p hr2) (kk 1 k))));itK h (fun g3 h=>bnK h fun r3 hr3 h=>have p4 {q p} (k:Scr q p):=(p3 (gg g3 (kk 4 (rr (Zqq hr3) (kk 1 k)))));itK h (fun g4 h=>have p5 {q p} (k:Scr q p):=(p4 (gg g4 (kk 3 k)));itK h (fun g5 h=>bnK h fun r4 hr4 h=>have p6 {q p} (k:Scr q p):=(p5 (gg g5 (kk 10 (rr (Zvm hr4) (kk 1 k)))));itK h (fun g6 h=>bnK h fun r5 hr5 h=>have p7 {q p} (k:Scr q p):=(p6 (gg g6 (kk 4 (rr (Zv hr5) (kk 1 k)))));itK h (fun g7 h=>bnK h fun r6 hr6 h=>have p8 {q p} (k:Scr q p):=(p7 (gg g7 (rr (Zs0 hr6) (kk 1 k))));itK h (fun g8 h=>bnK h fun r7 hr7 h=>itK h (fun g9 h=>bnK h fun r8 hr8 h=>rtK h (p8 (gg g8 (rr (Zj3 hr7) (kk 1 (gg g9 (rr (Zsj hr8) (kk 1 ee)))))))) fun g9 h=>rtK h (p8 (gg g8 (rr (Zj3 hr7) (kk 1 (gg g9 (kk 1 ee))))))) fun g8 h=>rtK h (p8 (gg g8 (kk 3 ee)))) fun g7 h=>rtK h (p7 (gg g7 (kk 5 ee)))) fun g6 h=>rtK h (p6 (gg g6 (kk 11 ee)))) fun g5 h=>bnK h fun r9 hr9 h=>have p9 {q p} (k:Scr q p):=(p5 (gg g5 (kk 4 (rr (Zbl hr9) (kk 3 k)))));itK h (fun g6 h=>bnK h fun r4 hr4 h=>have p10 {q p} (k:Scr q p):=(p9 (gg g6 (kk 2 (rr (Zvm hr4) (kk 1 k)))));itK h (fun g7 h=>bnK h fun r5 hr5 h=>have p11 {q p} (k:Scr q p):=(p10 (gg g7 (kk 4 (rr (Zv hr5) (kk 1 k)))));itK h (fun g8 h=>bnK h fun r6 hr6 h=>have p12 {q p} (k:Scr q p):=(p11 (gg g8 (rr (Zs0 hr6) (kk 1 k))));itK h (fun g9 h=>bnK h fun r7 hr7 h=>itK h (fun g10 h=>bnK h fun r8 hr8 h=>rtK h (p12 (gg g9 (rr (Zj3 hr7) (kk 1 (gg g10 (rr (Zsj hr8) (kk 1 ee)))))))) fun g10 h=>rtK h (p12 (gg g9 (rr (Zj3 hr7) (kk 1 (gg g10 (kk 1 ee))))))) fun g9 h=>rtK h (p12 (gg g9 (kk 3 ee)))) fun g8 h=>rtK h (p11 (gg g8 (kk 5 ee)))) fun g7 h=>rtK h (p10 (gg g7 (kk 11 ee)))) fun g6 h=>rtK h (p9 (gg g6 (kk 15 ee)))) fun g4 h=>rtK h (p4 (gg g4 (kk 21 ee)))) fun g3 h=>rtK h (p3 (gg g3 (kk 27 ee)))) fun g2 h=>rtK h (p2 (gg g2 (kk 29 ee)))) fun g1 h=>rtK h (p1 (gg g1 (kk 33 ee))))
abbrev Zzs (x0:GScript) (r:Int):Y:=(34,[.agg (GScript.enc x0)],il r,[.undef])
theorem Z3y {x0:GScript} {r:Int}:∀{m:Nat} {v0:Int} {v1:Int},Zfg x0 m v0 v1=some r→CS (Zzs x0 r) Tryz.f34 [1,1,0,1,0] [(3,il v0),(7,.tr (x0.posts.map GPost.enc)),(8,il (x0.posts.length:Int)),(9,il v1)] []:=by
 intro m
 induction m with
 | zero=>intro v0 v1 h;cases h
 | succ m ih=>exact fun {v0} {v1} h=>itK h (fun g1 h=>bnK h fun a0 ha0 h=>cutX [] 13 (gg g1 (xb GPost.enc ha0 ee)) (ih h)) fun g1 h=>rtK h (gg g1 ee)
theorem Yde {x0:GScript} {r:Int} (h:Znz x0=some r):Fine Tryz.prog Mo (Zzs x0 r):=
 Zb Tryz.func34 (cutX [] 8 (lr GPost.enc x0.posts ee) (Z3y h))
abbrev Z37 (x0:GMst) (r:Bool):Y:=(162,[.agg (GMst.enc x0)],bl r,[.undef])
theorem Zs1 {x0:GMst} {r:Bool} (h:Zb6 x0=some r):Fine Tryz.prog Mo (Z37 x0 r):=
 Zb Tryz.func162 (rtK h (lr GReq.enc x0.queue ee))
abbrev Ko (x0:List GMst) (r:Int):Y:=(226,[.tr (x0.map GMst.enc),.fn 162 []],il r,[.undef,.undef])
theorem Zcm {x0:List GMst} {r:Int}:∀{m:Nat} {v0:Int},Yw x0 m v0=some r→CS (Ko x0 r) Tryz.f226 [1,0,1,0] [(0,.tr (x0.map GMst.enc)),(1,.fn 162 []),(7,il (x0.length:Int)),(8,il v0)] []:=by
 intro m
 induction m with
 | zero=>intro v0 h;cases h
 | succ m ih=>exact fun {v0} h=>itK h (fun g1 h=>bnK h fun a0 ha0 h=>bnK h fun r0 hr0 h=>itK h (fun g2 h=>rtK h (gg g1 (xb GMst.enc ha0 (rr (Zs1 hr0) (gg g2 ee))))) fun g2 h=>cutX [] 16 (gg g1 (xb GMst.enc ha0 (rr (Zs1 hr0) (gg g2 ee)))) (ih h)) fun g1 h=>rtK h (gg g1 ee)
theorem Zeu {x0:List GMst} {r:Int} (h:We x0=some r):Fine Tryz.prog Mo (Ko x0 r):=
 Zb Tryz.func226 (cutX [] 6 (lr GMst.enc x0 ee) (Zcm h))
abbrev Zda (x0:List GMst) (r:Bool):Y:=(161,[.tr (x0.map GMst.enc),.fn 162 []],bl r,[.undef,.undef])
theorem Zc1 {x0:List GMst} {r:Bool} (h:Xz x0=some r):Fine Tryz.prog Mo (Zda x0 r):=
 Zb Tryz.func161 (bnK h fun r0 hr0 h=>rtK h (rr (Zeu hr0) ee))
abbrev Z7i (x0:GBus) (r:Bool):Y:=(88,[.rp true (GBus.enc x0) 0],bl r,[.undef])
theorem Z76 {x0:GBus} {r:Bool} (h:Zjz x0=some r):Fine Tryz.prog Mo (Z7i x0 r):=
 Zb Tryz.func88 (bnK h fun r0 hr0 h=>rtK h (rr (Zc1 hr0) ee))
abbrev Z1z (x0:GMst) (x1:Int) (r:Int):Y:=(148,[.agg (GMst.enc x0),il x1],il r,[.undef,.undef])
theorem Zva {x0:GMst} {x1:Int} {r:Int} {v0:Bool} (h:Zhp x0 x1 v0=some r):CS (Z1z x0 x1 r) Tryz.f148 [1,0,1] [(1,il x1),(2,.ptr (1,1) 0 0),(15,bl v0)] [bx 1 (GMst.enc x0)]:=
 itK h (fun g1 h=>rtK h (gg g1 ee)) fun g1 h=>bnK h fun a0 ha0 h=>bnK h fun r0 hr0 h=>bnK h fun a1 ha1 h=>rtK h (gg g1 (xb GReq.enc ha0 (rr (Zwh hr0) (xd encI ha1 ee))))
theorem Zd0 {x0:GMst} {x1:Int} {r:Int} (h:Za3 x0 x1=some r):Fine Tryz.prog Mo (Z1z x0 x1 r):=
 Zb Tryz.func148 (bnK h fun r1 hr1 h=>itK h (fun g1 h=>cutX [((1,1),(1,0))] 5 (rr (X3 hr1) (gg g1 (kk 5 ee))) (Zva h)) fun g1 h=>bnK h fun r2 hr2 h=>bnK h fun r3 hr3 h=>cutX [((1,1),(1,0))] 5 (rr (X3 hr1) (gg g1 (kk 1 (rr (Zal hr2) (kk 2 (rr (Zv hr3) (kk 2 ee))))))) (Zva h))
abbrev Z2t (x0:GScript) (x1:Int) (r:List GPost):Y:=(149,[.agg (GScript.enc x0),il x1],.own 74 (r.map GPost.enc),[.undef,.undef])
theorem Z5c {x0:GScript} {x1:Int} {r:List GPost}:∀{m:Nat} {v0:List GPost} {v1:Int},Zh2 x0 x1 m v0 v1=some r→CS (Z2t x0 x1 r) Tryz.f149 [1,1,0,1,0] [(1,il x1),(5,.sl (1,1) 0 (v0.map GPost.enc).length),(10,.tr (x0.posts.map GPost.enc)),(11,il (x0.posts.length:Int)),(12,il v1)] [rx 1 74 (v0.map GPost.enc)]:=by
 intro m
 induction m with
 | zero=>intro v0 v1 h;cases h
 | succ m ih=>exact fun {v0} {v1} h=>itK h (fun g1 h=>bnK h fun a0 ha0 h=>itK h (fun g2 h=>bnK h fun r0 hr0 h=>bnK h fun z0 hz0 h=>cutX [((1,1),(6,3072))] 18 (gg g1 (xb GPost.enc ha0 (gg g2 (rr (Zyx hr0) (kk 1 (ta GPost.enc [{a0 with req:=r0}] z0 (kk 1 (oe encI r0.data_ (oa 8 GPost.enc_len {a0 with req:=r0} (ox GPost.enc hz0 (ln GPost.enc z0 (oe GPost.enc z0 ee)))))))))))) (ih h)) fun g2 h=>cutX [((1,1),(1,1))] 16 (gg g1 (xb GPost.enc ha0 (gg g2 (ln GPost.enc v0 ee)))) (ih h)) fun g1 h=>rtK h (gg g1 (kk 1 (oe GPost.enc v0 ee)))
theorem Ye4 {x0:GScript} {x1:Int} {r:List GPost} (h:Zpw x0 x1=some r):Fine Tryz.prog Mo (Z2t x0 x1 r):=
 Zb Tryz.func149 (cutX [((1,1),(2,0))] 8 (lr GPost.enc x0.posts (tp (.num ([].map GPost.enc).length 0 0 []) (ob (show 0=([].map GPost.enc).length from rfl) ee))) (Z5c h))
abbrev Z3c (x0:GMst) (x1:GReq) (r:GMst×Bool):Y:=(150,[.agg (GMst.enc x0),.agg (GReq.enc x1)],.tup [.agg [.own 72 (r.1.queue.map GReq.enc),il r.1.beat,il r.1.done,il r.1.tries,bl r.1.parted,bl r.1.broken],bl r.2],[.undef,.undef])
theorem Zm8 {x0:GMst} {x1:GReq} {r:GMst×Bool} {vb0:GMst} {v0:Bool} (h:Zdh x0 x1 vb0 v0=some r):CS (Z3c x0 x1 r) Tryz.f150 [1,1,0,1] [(3,.ptr (1,1) 0 0),(4,.ptr (1,2) 0 0),(6,.ptr (1,4) 0 0),(22,bl v0)] [bx 1 (GReq.enc x1),rx 3 72 ([].map GReq.enc),bx 2 [.sl (1,3) 0 ([].map GReq.enc).length,il 0,il 0,il 0,bl false,bl false],rx 5 72 (vb0.queue.map GReq.enc),bx 4 [.sl (1,5) 0 (vb0.queue.map GReq.enc).length,il vb0.beat,il vb0.done,il vb0.tries,bl vb0.parted,bl vb0.broken]]:=
 itK h (fun g1 h=>rtK h (gg g1 (kk 1 (oe GReq.enc vb0.queue ee)))) fun g1 h=>bnK h fun r0 hr0 h=>bnK h fun z0 hz0 h=>rtK h (gg g1 (rr (Zyx hr0) (kk 1 (ta GReq.enc [r0] z0 (kk 2 (oe encI r0.data_ (oa 6 GReq.enc_len r0 (ox GReq.enc hz0 (oe GReq.enc z0 (oe GReq.enc z0 ee))))))))))
theorem Ydv {x0:GMst} {x1:GReq} {r:GMst×Bool} (h:Zo1 x0 x1=some r):Fine Tryz.prog Mo (Z3c x0 x1 r):=
 Zb Tryz.func150 (bnK h fun r1 hr1 h=>bnK h fun r2 hr2 h=>have p1 {q p} (k:Scr q p):=(rr (Zdm hr1) (rr (X3 hr2) k));itK h (fun g1 h=>cutX [((1,1),(1,1024)),((1,2),(1,2048)),((1,4),(2,2048)),((1,5),(2,1024))] 7 (p1 (gg g1 (kk 8 (ln GReq.enc r1.queue ee)))) (Zm8 h)) fun g1 h=>bnK h fun r3 hr3 h=>itK h (fun g2 h=>cutX [((1,1),(1,1024)),((1,2),(1,2048)),((1,4),(2,2048)),((1,5),(2,1024))] 7 (p1 (gg g1 (kk 1 (rr (Zud hr3) (kk 2 (gg g2 (kk 4 (ln GReq.enc r1.queue ee)))))))) (Zm8 h)) fun g2 h=>cutX [((1,1),(1,1024)),((1,2),(1,2048)),((1,4),(2,2048)),((1,5),(2,1024))] 7 (p1 (gg g1 (kk 1 (rr (Zud hr3) (kk 2 (gg g2 (kk 2 (lr GReq.enc x0.queue (kk 2 (ln GReq.enc r1.queue ee)))))))))) (Zm8 h))
abbrev Yhm (x0:GBucket) (x1:GMConf) (r:Bool):Y:=(216,[.agg (GBucket.enc x0),.agg (GMConf.enc x1)],bl r,[.undef,.undef])
theorem Zdj {x0:GBucket} {x1:GMConf} {r:Bool} (h:Zj1 x0 x1=some r):Fine Tryz.prog Mo (Yhm x0 x1 r):=
 Zb Tryz.func216 (itK h (fun g1 h=>bnK h fun r0 hr0 h=>rtK h (gg g1 (kk 2 (rr (Zzf hr0) (kk 1 ee))))) fun g1 h=>rtK h (gg g1 (kk 3 ee)))
abbrev Z65 (x0:GBucket) (x1:GMConf) (r:GBucket):Y:=(151,[.agg (GBucket.enc x0),.agg (GMConf.enc x1)],.agg (GBucket.enc r),[.undef,.undef])
theorem Z64 {x0:GBucket} {x1:GMConf} {r:GBucket} (h:Zjv x0 x1=some r):Fine Tryz.prog Mo (Z65 x0 x1 r):=
 Zb Tryz.func151 (bnK h fun r0 hr0 h=>itK h (fun g1 h=>rtK h (rr (Zdj hr0) (gg g1 ee))) fun g1 h=>itK h (fun g2 h=>rtK h (rr (Zdj hr0) (gg g1 (gg g2 ee)))) fun g2 h=>rtK h (rr (Zdj hr0) (gg g1 (gg g2 ee))))
abbrev Z2v (x0:GMst) (r:GMst×Bool):Y:=(261,[.agg (GMst.enc x0)],.tup [.agg [.own 72 (r.1.queue.map GReq.enc),il r.1.beat,il r.1.done,il r.1.tries,bl r.1.parted,bl r.1.broken],bl r.2],[.undef])
theorem Zt7 {x0:GMst} {r:GMst×Bool} {vb0:GMst} {v0:Bool} (h:Zh8 x0 vb0 v0=some r):CS (Z2v x0 r) Tryz.f261 [1,1,0,1] [(2,.ptr (1,1) 0 0),(4,.ptr (1,3) 0 0),(16,bl v0)] [rx 2 72 ([].map GReq.enc),bx 1 [.sl (1,2) 0 ([].map GReq.enc).length,il 0,il 0,il 0,bl false,bl false],rx 4 72 (vb0.queue.map GReq.enc),bx 3 [.sl (1,4) 0 (vb0.queue.map GReq.enc).length,il vb0.beat,il vb0.done,il vb0.tries,bl vb0.parted,bl vb0.broken]]:=
 itK h (fun g1 h=>rtK h (gg g1 (kk 1 (oe GReq.enc vb0.queue ee)))) fun g1 h=>rtK h (gg g1 (kk 1 (oe GReq.enc vb0.queue ee)))
theorem Yex {x0:GMst} {r:GMst×Bool} (h:Zpa x0=some r):Fine Tryz.prog Mo (Z2v x0 r):=
 Zb Tryz.func261 (bnK h fun r0 hr0 h=>bnK h fun r1 hr1 h=>itK h (fun g1 h=>cutX [((1,1),(1,1024)),((1,3),(2,2048)),((1,4),(2,1024))] 7 (rr (Zdm hr0) (rr (X3 hr1) (gg g1 (kk 5 (ln GReq.enc r0.queue ee))))) (Zt7 h)) fun g1 h=>cutX [((1,1),(1,1024)),((1,3),(2,2048)),((1,4),(2,1024))] 7 (rr (Zdm hr0) (rr (X3 hr1) (gg g1 (kk 5 (ln GReq.enc r0.queue ee))))) (Zt7 h))
abbrev Z7s (x0:GBucket) (x1:GMConf) (r:GBucket):Y:=(262,[.agg (GBucket.enc x0),.agg (GMConf.enc x1)],.agg (GBucket.enc r),[.undef,.undef])
theorem Z6u {x0:GBucket} {x1:GMConf} {r:GBucket} (h:Zkd x0 x1=some r):Fine Tryz.prog Mo (Z7s x0 x1 r):=
 Zb Tryz.func262 (bnK h fun r0 hr0 h=>itK h (fun g1 h=>itK h (fun g2 h=>rtK h (rr (Zdj hr0) (gg g1 (kk 5 (gg g2 ee))))) fun g2 h=>rtK h (rr (Zdj hr0) (gg g1 (kk 5 (gg g2 ee))))) fun g1 h=>rtK h (rr (Zdj hr0) (gg g1 (kk 6 ee))))
abbrev Z2b (x0:GWrr) (x1:GConf) (x2:Int) (r:GWrr):Y:=(263,[.agg (GWrr.enc x0),.agg (GConf.enc x1),il x2],.agg (GWrr.enc r),[.undef,.undef,.undef])
theorem Zvg {x0:GWrr} {x1:GConf} {x2:Int} {r:GWrr} {v0:Bool} (h:Zg7 x0 x1 x2 v0=some r):CS (Z2b x0 x1 x2 r) Tryz.f263 [1,0,1] [(2,il x2),(3,.ptr (1,1) 0 0),(4,.ptr (1,2) 0 0),(6,.ptr (1,3) 0 0),(15,bl v0)] [bx 1 (GWrr.enc x0),bx 2 (GConf.enc x1),bx 3 (GWrr.enc GWrr.z0)]:=
 itK h (fun g1 h=>bnK h fun r0 hr0 h=>rtK h (gg g1 (rr (Zya hr0) ee))) fun g1 h=>rtK h (gg g1 ee)
theorem Yfj {x0:GWrr} {x1:GConf} {x2:Int} {r:GWrr} (h:Zpr x0 x1 x2=some r):Fine Tryz.prog Mo (Z2b x0 x1 x2 r):=
 Zb Tryz.func263 (bnK h fun r1 hr1 h=>itK h (fun g1 h=>cutX [((1,1),(1,0)),((1,2),(1,1024)),((1,3),(1,2048))] 5 (rr (Zqq hr1) (gg g1 (kk 4 ee))) (Zvg h)) fun g1 h=>cutX [((1,1),(1,0)),((1,2),(1,1024)),((1,3),(1,2048))] 5 (rr (Zqq hr1) (gg g1 (kk 4 ee))) (Zvg h))
abbrev Z7q (x0:GBus) (x1:GBeat) (r:GBus):Y:=(217,[.agg (GBus.ow x0),.agg (GBeat.enc x1)],.tup [],[.agg (GBus.ow r),.undef])
theorem Zoq {x0:GBus} {x1:GBeat} {r:GBus} (h:Zbe x0 x1=some r):Fine Tryz.prog Mo (Z7q x0 x1 r):=
 Zb Tryz.func217 (bnK h fun a0 ha0 h=>bnK h fun r0 hr0 h=>bnK h fun y0 hy0 h=>have p1 {q p} (k:Scr q p):=(xd GMst.enc ha0 (rr (Yex hr0) (xq GMst.enc ha0 y0 (kk 1 (oe GReq.enc r0.1.queue (ob (seto GMst.enc hy0) k))))));itK h (fun g1 h=>bnK h fun a1 ha1 h=>bnK h fun a2 ha2 h=>bnK h fun r1 hr1 h=>bnK h fun y1 hy1 h=>rtK h (p1 (gg g1 (xd GBucket.enc ha1 (xd GMConf.enc ha2 (rr (Z6u hr1) (xp GBucket.enc ha1 hy1 (kk 8 (oe GMConf.enc x0.conf.masters (ob (setl GMst.enc hy0) (ob (setl GBucket.enc hy1) (oe encI x0.splits (GModel.so x0.model (oe GDone.enc x0.log ee)))))))))))))) fun g1 h=>itK h (fun g2 h=>bnK h fun r2 hr2 h=>rtK h (p1 (gg g1 (gg g2 (kk 1 (oe GMConf.enc x0.conf.masters (rr (Yfj hr2) (kk 8 (oe GMConf.enc x0.conf.masters (ob (setl GMst.enc hy0) (oe GBucket.enc x0.buckets (oe encI x0.splits (GModel.so x0.model (oe GDone.enc x0.log ee)))))))))))))) fun g2 h=>rtK h (p1 (gg g1 (gg g2 (kk 8 (oe GMConf.enc x0.conf.masters (ob (setl GMst.enc hy0) (oe GBucket.enc x0.buckets (oe encI x0.splits (GModel.so x0.model (oe GDone.enc x0.log ee)))))))))))
abbrev Z2x (x0:List Int) (x1:Int) (r:Int):Y:=(264,[.tr (x0.map encI),il x1],il r,[.undef,.undef])
theorem Zuk {x0:List Int} {x1:Int} {r:Int} {v0:Bool} (h:Zhh x0 x1 v0=some r):CS (Z2x x0 x1 r) Tryz.f264 [1,0,1] [(0,.tr (x0.map encI)),(1,il x1),(11,bl v0)] []:=
 itK h (fun g1 h=>rtK h (gg g1 ee)) fun g1 h=>bnK h fun n0 hn0 h=>bnK h fun a0 ha0 h=>rtK h (gg g1 (lr encI x0 (tp (.obl) (ob (nz0 hn0) (xb encI ha0 ee)))))
theorem Zk4 {x0:List Int} {x1:Int} {r:Int} (h:Zg4 x0 x1=some r):Fine Tryz.prog Mo (Z2x x0 x1 r):=
 Zb Tryz.func264 (itK h (fun g1 h=>cutX [] 5 (lr encI x0 (gg g1 (kk 2 ee))) (Zuk h)) fun g1 h=>cutX [] 5 (lr encI x0 (gg g1 (kk 2 ee))) (Zuk h))
abbrev Ye1 (x0:GConf) (x1:GScript) (x2:Int) (r:Int):Y:=(218,[.agg (GConf.enc x0),.agg (GScript.enc x1),il x2],il r,[.undef,.undef,.undef])
theorem Yd5 {x0:GConf} {x1:GScript} {x2:Int} {r:Int} (h:Zp1 x0 x1 x2=some r):Fine Tryz.prog Mo (Ye1 x0 x1 x2 r):=
 Zb Tryz.func218 (bnK h fun r0 hr0 h=>rtK h (rr (Zk4 hr0) ee))
abbrev Z7y (x0:GMst) (x1:Int) (r:Int):Y:=(266,[.rp true (GMst.enc x0) 0,il x1],il r,[.undef,.undef])
end Go.Proofs.YtciimjnpdmmfnaaGreat.Ev
