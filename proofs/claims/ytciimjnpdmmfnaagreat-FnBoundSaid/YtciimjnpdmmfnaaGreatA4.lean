/- A part of the proof of FnBound: see the text YtciimjnpdmmfnaaGreatLawFnBound for what is proved and its conditions. Conditions here: those in each line. -/
import Derived.Test.YtciimjnpdmmfnaaGreatA3
namespace Go.Proofs.YtciimjnpdmmfnaaGreat.Ev
open Go Go.Proofs
set_option linter.unusedVariables false
set_option linter.unusedSimpArgs false
def Mo:Hints:=⟨fun f=>(List.lookup f [(156,[.io]),(76,[.io]),(111,[.io]),(125,[.io,.mv]),(188,[.io]),(272,[.io]),(110,[.io]),(112,[.io]),(159,[.io]),(109,[.io]),(225,[.io]),(160,[.io,.iov]),(173,[.io,.iov]),(92,[.io]),(253,[.io]),(201,[.io]),(200,[.io]),(127,[.io]),(199,[.io]),(126,[.io]),(124,[.io]),(60,[.io]),(84,[.io]),(153,[.io]),(217,[.io]),(219,[.io]),(223,[.io]),(155,[.io]),(74,[.io]),(152,[.io,.rd,.io]),(169,[.mv]),(170,[.mv]),(172,[.mv]),(171,[.mv]),(105,[.mv,.rd]),(258,[.mv,.rd])]).getD [],fun _=>false⟩
abbrev Y:=FuncId×List V×V×List V
abbrev RF (fn:Func) (y:Y):Ex→St→Prop:=RetC Tryz.prog Mo y.1 fn y.2.1 y.2.2
theorem Z9m {P:Program} (hm:P.follows .mixedOrders=true) (h:P.funcs.toList.all (fun fn=>(match fn.body with|some c=>Qj fn.ntmps c|none=>true)&&!(fn.name == "runtime.NumGoroutine"))=true):FuncsOk P:=by
 rw[List.all_eq_true] at h
 refine⟨hm,fun f fn c hf hc=>?_,fun f fn hf=>?_⟩
 ·have:=h fn (Array.mem_toList_iff.2 (Array.mem_of_getElem? hf))
  rw[hc] at this
  simp only[Bool.and_eq_true] at this
  exact this.1
 ·have:=h fn (Array.mem_toList_iff.2 (Array.mem_of_getElem? hf))
  simp only[Bool.and_eq_true,Bool.not_eq_true'] at this
  exact this.2
theorem fOk:FuncsOk Tryz.prog:=Z9m (by kernel_rfl) (by kernel_rfl)
theorem bnK {α β:Type} {x:Option α} {f:α→Option β} {b:β} {G:Prop} (h:x.bind f=some b) (k:∀a,x=some a→f a=some b→G):G:=by
 obtain⟨a,h1,h2⟩:=Yd8 h;exact k a h1 h2
theorem itK {β:Type} {t:Bool} {x y:Option β} {b:β} {G:Prop} (h:(if t=true then x else y)=some b) (k1:t=true→x=some b→G) (k2:t=false→y=some b→G):G:=by
 rcases Ydm h with⟨h1,h2⟩|⟨h1,h2⟩
 ·exact k1 h1 h2
 ·exact k2 h1 h2
theorem rtQ {α:Type} {F:α→Y} {fn:Func} {a r:α} {p:Prop} {stk:List It} {s:St} (h:some a=some r) (q:List O) (hp:p) (e:told (runK Tryz.prog Mo (F a).1 fn (F a).2.1 100000 stk s q)=some (p,(F a).2.2):=by kernel_rfl):SX Tryz.prog (RF fn (F r)) stk .normal s:=by
 cases h;exact Z7p fOk 100000 q hp e
theorem rtK {α:Type} {F:α→Y} {fn:Func} {a r:α} {p:Prop} {stk:List It} {s:St} {q:List O} (h:some a=some r) (hp:Scr q p) (e:told (runK Tryz.prog Mo (F a).1 fn (F a).2.1 100000 stk s q)=some (p,(F a).2.2):=by kernel_rfl):SX Tryz.prog (RF fn (F r)) stk .normal s:=by
 cases h;exact Z7p fOk 100000 q hp e
theorem cutQ {y:Y} {fn:Func} {stk k2:List It} {s:St} {p:Prop} {l:List (Nat×V)} {h:List (Id×Blk)} {ep:Nat} (f:List (Id×Id)) (n:Nat) (q:List O) (hp:p) (hn:SX Tryz.prog (RF fn y) k2 .normal (mkS l h ep))
  (e:told (cutK Tryz.prog Mo f l h n stk s q)=some (p,(k2,renL f l h)):=by kernel_rfl) (hb:(isC k2&&cutB f l h ep)=true:=by kernel_rfl):SX Tryz.prog (RF fn y) stk .normal s:=Z7s (M:=Mo) fOk f n q hp hn e hb
theorem cutX {y:Y} {fn:Func} {stk k2:List It} {s:St} {p:Prop} {l:List (Nat×V)} {h:List (Id×Blk)} {ep:Nat} {q:List O} (f:List (Id×Id)) (n:Nat) (hp:Scr q p) (hn:SX Tryz.prog (RF fn y) k2 .normal (mkS l h ep))
  (e:told (cutK Tryz.prog Mo f l h n stk s q)=some (p,(k2,renL f l h)):=by kernel_rfl) (hb:(isC k2&&cutB f l h ep)=true:=by kernel_rfl):SX Tryz.prog (RF fn y) stk .normal s:=Z7s (M:=Mo) fOk f n q hp hn e hb
theorem Zf {α:Type} {F:α→Y} {fn:Func} {r:α} (hfn:Tryz.prog.funcs[(F r).1]?=some fn) (h:SX Tryz.prog (RF fn (F r)) [.c (Zoq fn)] .normal (entS Mo (F r).1 (F r).2.1)) (hc:fn.body=some (Zoq fn):=by kernel_rfl) (hs:(St.enters ⟨fun _=>.undef,fun _=>none,0⟩ 0 (Mo.modes (F r).1) (F r).2.1).isSome=true:=by kernel_rfl):
  Fine Tryz.prog Mo (F r):=Yfg fOk hfn hc hs h
abbrev CS (y:Y) (fn:Func) (p:List Nat) (l:List (Nat×V)) (h:List (Id×Blk)):Prop:=SX Tryz.prog (RF fn y) (at_ p (Zoq fn) []) .normal (mkS l h 1)
abbrev Yf4 (x0:List Int) (r:Bool):Y:=(13,[.tr (x0.map encU)],bl r,[.undef])
theorem Z7w {x0:List Int} {r:Bool} (h:Zzb x0=some r):Fine Tryz.prog Mo (Yf4 x0 r):=
 Zf Tryz.func13 (rtK h (lr encU x0 ee))
abbrev Zp6 (x0:List Int) (r:GL1Cur):Y:=(61,[.tr (x0.map encU)],.obx [.tr (r.b.map encU),il r.i,il r.h],[.undef])
theorem Zs0 {x0:List Int} {r:GL1Cur} {k_L1:Int→Int→Option GL1Cur} (i_L1:∀{v0:Int} {v1:Int},k_L1 v0 v1=some r→CS (Zp6 x0 r) Tryz.f61 [1,1,0,1,0] [(0,.tr (x0.map encU)),(3,il v0),(4,il v1)] []) {v0:Int} {v1:Int} {v2:Bool} (h:Zh3 x0 k_L1 v0 v1 v2=some r):CS (Zp6 x0 r) Tryz.f61 [1,1,0,1,0,0,0,1] [(0,.tr (x0.map encU)),(3,il v0),(4,il v1),(15,bl v2)] []:=
 itK h (fun g1 h=>bnK h fun a0 ha0 h=>cutX [] 7 (gg g1 (xb encU ha0 ee)) (i_L1 h)) fun g1 h=>rtK h (gg g1 ee)
theorem Z1s {x0:List Int} {r:GL1Cur}:∀{m:Nat} {v0:Int} {v1:Int},Zbc x0 m v0 v1=some r→CS (Zp6 x0 r) Tryz.f61 [1,1,0,1,0] [(0,.tr (x0.map encU)),(3,il v0),(4,il v1)] []:=by
 intro m
 induction m with
 | zero=>intro v0 v1 h;cases h
 | succ m ih=>exact fun {v0} {v1} h=>itK h (fun g1 h=>cutX [] 4 (lr encU x0 (gg g1 (kk 2 ee))) (Zs0 ih h)) fun g1 h=>cutX [] 4 (lr encU x0 (gg g1 (kk 2 ee))) (Zs0 ih h)
theorem Ya6 {x0:List Int} {r:GL1Cur} (h:Zmk x0=some r):Fine Tryz.prog Mo (Zp6 x0 r):=
 Zf Tryz.func61 (cutX [] 8 (lr encU x0 ee) (Z1s h))
abbrev Z78 (x0:GL1Cur) (r:Int×GL1Cur):Y:=(156,[.agg [.tr (x0.b.map encU),il x0.i,il x0.h]],il r.1,[.agg [.tr (r.2.b.map encU),il r.2.i,il r.2.h]])
theorem Zkd {x0:GL1Cur} {r:Int×GL1Cur} (h:Zbi x0=some r):Fine Tryz.prog Mo (Z78 x0 r):=
 Zf Tryz.func156 (itK h (fun g1 h=>bnK h fun a0 ha0 h=>rtK h (kk 2 (lr encU x0.b (gg g1 (xb encU ha0 ee))))) fun g1 h=>rtK h (kk 2 (lr encU x0.b (gg g1 ee))))
abbrev Z5p (x0:GL1Cur) (x1:Int) (r:Int×GL1Cur):Y:=(76,[.agg [.tr (x0.b.map encU),il x0.i,il x0.h],il x1],il r.1,[.agg [.tr (r.2.b.map encU),il r.2.i,il r.2.h],.undef])
theorem Zt {x0:GL1Cur} {x1:Int} {r:Int×GL1Cur} (h:Zl x0 x1=some r):Fine Tryz.prog Mo (Z5p x0 x1 r):=
 Zf Tryz.func76 (itK h (fun g1 h=>rtK h (gg g1 ee)) fun g1 h=>itK h (fun g2 h=>bnK h fun r0 hr0 h=>bnK h fun n0 hn0 h=>rtK h (gg g1 (gg g2 (rr (Zkd hr0) (tp (.obl) (ob (nz0 hn0) ee)))))) fun g2 h=>bnK h fun r1 hr1 h=>bnK h fun r2 hr2 h=>bnK h fun r3 hr3 h=>bnK h fun r4 hr4 h=>bnK h fun n1 hn1 h=>rtK h (gg g1 (gg g2 (rr (Zkd hr1) (rr (Zkd hr2) (rr (Zkd hr3) (rr (Zkd hr4) (tp (.obl) (ob (nz0 hn1) ee)))))))))
abbrev Z9c (x0:GL1Cur) (x1:Int) (r:Bool×GL1Cur):Y:=(111,[.agg [.tr (x0.b.map encU),il x0.i,il x0.h],il x1],bl r.1,[.agg [.tr (r.2.b.map encU),il r.2.i,il r.2.h],.undef])
theorem Zjq {x0:GL1Cur} {x1:Int} {r:Bool×GL1Cur} (h:Zbf x0 x1=some r):Fine Tryz.prog Mo (Z9c x0 x1 r):=
 Zf Tryz.func111 (bnK h fun r0 hr0 h=>rtK h (rr (Zt hr0) ee))
abbrev Yem (x0:Int) (x1:Int) (x2:Int) (r:Bool):Y:=(63,[il x0,il x1,il x2],bl r,[.undef,.undef,.undef])
theorem Yr {x0:Int} {x1:Int} {x2:Int} {r:Bool} (h:Zj x0 x1 x2=some r):Fine Tryz.prog Mo (Yem x0 x1 x2 r):=
 Zf Tryz.func63 (itK h (fun g1 h=>rtK h (gg g1 (kk 3 ee))) fun g1 h=>rtK h (gg g1 (kk 3 ee)))
abbrev Zy3 (x0:GConf) (r:Int):Y:=(121,[.agg (GConf.enc x0)],il r,[.undef])
theorem Zrg {x0:GConf} {r:Int} {v0:Bool} (h:Zg7 x0 v0=some r):CS (Zy3 x0 r) Tryz.f121 [1,0,1] [(1,.ptr (1,1) 0 0),(12,bl v0)] [bx 1 (GConf.enc x0)]:=
 itK h (fun g1 h=>rtK h (gg g1 ee)) fun g1 h=>rtK h (gg g1 ee)
theorem Zek {x0:GConf} {r:Int} (h:Jw x0=some r):Fine Tryz.prog Mo (Zy3 x0 r):=
 Zf Tryz.func121 (bnK h fun r0 hr0 h=>itK h (fun g1 h=>cutX [((1,1),(1,0))] 5 (rr (Yr hr0) (gg g1 (kk 4 ee))) (Zrg h)) fun g1 h=>bnK h fun r1 hr1 h=>cutX [((1,1),(1,0))] 5 (rr (Yr hr0) (gg g1 (kk 2 (rr (Yr hr1) (kk 2 ee))))) (Zrg h))
abbrev Z93 (x0:GConf) (r:Int):Y:=(123,[.agg (GConf.enc x0)],il r,[.undef])
theorem Zgy {x0:GConf} {r:Int} (h:Qs x0=some r):Fine Tryz.prog Mo (Z93 x0 r):=
 Zf Tryz.func123 (bnK h fun r0 hr0 h=>itK h (fun g1 h=>rtK h (rr (Zek hr0) (gg g1 (kk 5 ee)))) fun g1 h=>bnK h fun r1 hr1 h=>itK h (fun g2 h=>rtK h (rr (Zek hr0) (gg g1 (kk 2 (rr (Yr hr1) (kk 2 (gg g2 ee))))))) fun g2 h=>bnK h fun r2 hr2 h=>rtK h (rr (Zek hr0) (gg g1 (kk 2 (rr (Yr hr1) (kk 2 (gg g2 (rr (Zek hr2) ee))))))))
abbrev Zxr (x0:GL1Cur) (r:GConf×GL1Cur):Y:=(159,[.agg [.tr (x0.b.map encU),il x0.i,il x0.h]],.agg [.own 81 (r.1.masters.map GMConf.enc),il r.1.quantum,il r.1.maxWait,il r.1.maxRetry,il r.1.maxSplit,il r.1.lockMost],[.agg [.tr (r.2.b.map encU),il r.2.i,il r.2.h]])
theorem Zzy {x0:GL1Cur} {r:GConf×GL1Cur}:∀{m:Nat} {vb0:GL1Cur} {vb1:GConf} {v0:Int},Zai x0 m vb0 vb1 v0=some r→CS (Zxr x0 r) Tryz.f159 [1,1,0,1,0] [(0,.ptr (0,63) 0 0),(2,.ptr (1,1) 0 0),(3,.ptr (1,3) 0 0),(4,il v0)] [((0,63),⟨true,true,true,0,[(GL1Cur.enc vb0)]⟩),rx 2 81 ([].map GMConf.enc),bx 1 [.sl (1,2) 0 ([].map GMConf.enc).length,il 0,il 0,il 0,il 0,il 0],rx 4 81 (vb1.masters.map GMConf.enc),bx 3 [.sl (1,4) 0 (vb1.masters.map GMConf.enc).length,il vb1.quantum,il vb1.maxWait,il vb1.maxRetry,il vb1.maxSplit,il vb1.lockMost]]:=by
 intro m
 induction m with
 | zero=>intro vb0 vb1 v0 h;cases h
 | succ m ih=>exact fun {vb0} {vb1} {v0} h=>itK h (fun g1 h=>bnK h fun r0 hr0 h=>bnK h fun z0 hz0 h=>cutX (ffi 1 3++[((1,4),(3,7168))]) 11 (gg g1 (rr (Zt hr0) (ta GMConf.enc [(GMConf.mk (addW 1 r0.1) false 0 0)] z0 (kk 1 (oa 4 GMConf.enc_len (GMConf.mk (addW 1 r0.1) false 0 0) (ox GMConf.enc hz0 (oe GMConf.enc z0 (ln GMConf.enc [] (ln GMConf.enc z0 ee))))))))) (ih h)) fun g1 h=>bnK h fun r1 hr1 h=>itK h (fun g2 h=>bnK h fun r2 hr2 h=>bnK h fun a0 ha0 h=>bnK h fun y0 hy0 h=>bnK h fun r3 hr3 h=>bnK h fun r4 hr4 h=>bnK h fun a1 ha1 h=>bnK h fun y1 hy1 h=>bnK h fun r5 hr5 h=>bnK h fun a2 ha2 h=>bnK h fun y2 hy2 h=>rtK h (gg g1 (rr (Zjq hr1) (gg g2 (lr GMConf.enc vb1.masters (rr (Zt hr2) (xp GMConf.enc ha0 hy0 (kk 1 (ob (setl GMConf.enc hy0) (rr (Zgy hr3) (rr (Zt hr4) (tp (.row (r2.1:Int).toNat (GMConf.enc a1)) (tp (.put (GMConf.enc a1) (y1.map GMConf.enc)) (ob (ixn ha1) (ob (ixc GMConf.enc ha1 (setl GMConf.enc hy0)) (ob (ixr GMConf.enc ha1) (ob (ixr GMConf.enc ha1) (ob (seto GMConf.enc hy1) (rr (Zt hr5) (tp (.row (r2.1:Int).toNat (GMConf.enc a2)) (tp (.put (GMConf.enc a2) (y2.map GMConf.enc)) (kk 1 (ob (ixn ha2) (ob (ixc GMConf.enc ha2 ((setl GMConf.enc hy0).trans (setl GMConf.enc hy1))) (ob (ixr GMConf.enc ha2) (ob (ixr GMConf.enc ha2) (ob (seto GMConf.enc hy2) (ob ((setl GMConf.enc hy0).trans ((setl GMConf.enc hy1).trans (setl GMConf.enc hy2))) ee)))))))))))))))))))))))))))) fun g2 h=>rtK h (gg g1 (rr (Zjq hr1) (gg g2 (kk 1 (oe GMConf.enc vb1.masters ee)))))
theorem Zyc {x0:GL1Cur} {r:GConf×GL1Cur} (h:Zjl x0=some r):Fine Tryz.prog Mo (Zxr x0 r):=
 Zf Tryz.func159 (bnK h fun r6 hr6 h=>bnK h fun r7 hr7 h=>bnK h fun r8 hr8 h=>bnK h fun r9 hr9 h=>bnK h fun r10 hr10 h=>bnK h fun r11 hr11 h=>cutX [((1,1),(1,0)),((1,3),(2,14336))] 8 (rr (Zt hr6) (rr (Zt hr7) (rr (Zt hr8) (rr (Zt hr9) (rr (Zt hr10) (rr (Zt hr11) ee)))))) (Zzy h))
abbrev Z1w (x0:GL1Cur) (x1:List Int) (r:Int×GL1Cur):Y:=(125,[.agg [.tr (x0.b.map encU),il x0.i,il x0.h],.own 3 (x1.map encI)],il r.1,[.agg [.tr (r.2.b.map encU),il r.2.i,il r.2.h],.undef])
theorem Xl {x0:GL1Cur} {x1:List Int} {r:Int×GL1Cur} (h:Yn x0 x1=some r):Fine Tryz.prog Mo (Z1w x0 x1 r):=
 Zf Tryz.func125 (bnK h fun r0 hr0 h=>bnK h fun a0 ha0 h=>rtK h (lr encI x1 (rr (Zt hr0) (xd encI ha0 ee))))
abbrev Ybu (x0:GL1Cur) (r:GConf×GL1Cur):Y:=(109,[.agg [.tr (x0.b.map encU),il x0.i,il x0.h]],.agg [.own 81 (r.1.masters.map GMConf.enc),il r.1.quantum,il r.1.maxWait,il r.1.maxRetry,il r.1.maxSplit,il r.1.lockMost],[.agg [.tr (r.2.b.map encU),il r.2.i,il r.2.h]])
theorem Z0k {x0:GL1Cur} {r:GConf×GL1Cur} (h:Zpx x0=some r):Fine Tryz.prog Mo (Ybu x0 r):=
 Zf Tryz.func109 (bnK h fun r0 hr0 h=>bnK h fun r1 hr1 h=>have p1 {q p} (k:Scr q p):=(rr (Zyc hr0) (rr (Zt hr1) k));itK h (fun g1 h=>bnK h fun r2 hr2 h=>bnK h fun a0 ha0 h=>bnK h fun y0 hy0 h=>rtK h (p1 (gg g1 (kk 1 (ob (show 2=([0,5].map encI).length from rfl) (rr (Xl hr2) (xp GMConf.enc ha0 hy0 (kk 1 (ob (setl GMConf.enc hy0) ee))))))))) fun g1 h=>itK h (fun g2 h=>bnK h fun a1 ha1 h=>bnK h fun y1 hy1 h=>rtK h (p1 (gg g1 (gg g2 (xd GMConf.enc ha1 (xp GMConf.enc ha1 hy1 (kk 1 (ob (setl GMConf.enc hy1) ee)))))))) fun g2 h=>itK h (fun g3 h=>bnK h fun r3 hr3 h=>rtK h (p1 (gg g1 (gg g2 (gg g3 (kk 1 (ob (show 3=([0,5,4].map encI).length from rfl) (rr (Xl hr3) (kk 1 (oe GMConf.enc r0.1.masters ee)))))))))) fun g3 h=>have p2 {q p} (k:Scr q p):=(p1 (gg g1 (gg g2 (gg g3 k))));itK h (fun g4 h=>bnK h fun r4 hr4 h=>rtK h (p2 (gg g4 (kk 1 (ob (show 3=([(-1),4,3].map encI).length from rfl) (rr (Xl hr4) (kk 1 (oe GMConf.enc r0.1.masters ee)))))))) fun g4 h=>itK h (fun g5 h=>bnK h fun r5 hr5 h=>rtK h (p2 (gg g4 (gg g5 (kk 1 (ob (show 2=([0,13].map encI).length from rfl) (rr (Xl hr5) (kk 1 (oe GMConf.enc r0.1.masters ee))))))))) fun g5 h=>itK h (fun g6 h=>rtK h (p2 (gg g4 (gg g5 (gg g6 (kk 1 (ob (show 0=([].map GMConf.enc).length from rfl) ee))))))) fun g6 h=>itK h (fun g7 h=>bnK h fun r6 hr6 h=>rtK h (p2 (gg g4 (gg g5 (gg g6 (gg g7 (kk 1 (ob (show 3=([(-1),4,3].map encI).length from rfl) (rr (Xl hr6) (kk 1 (oe GMConf.enc r0.1.masters ee))))))))))) fun g7 h=>rtK h (p2 (gg g4 (gg g5 (gg g6 (gg g7 (kk 1 (oe GMConf.enc r0.1.masters ee))))))))
abbrev Z58 (x0:Int) (r:Int):Y:=(187,[il x0],il r,[.undef])
theorem K2 {x0:Int} {r:Int} (h:Q2 x0=some r):Fine Tryz.prog Mo (Z58 x0 r):=
 Zf Tryz.func187 (bnK h fun r0 hr0 h=>itK h (fun g1 h=>rtK h (rr (Yr hr0) (gg g1 ee))) fun g1 h=>bnK h fun n0 hn0 h=>rtK h (rr (Yr hr0) (gg g1 (tp (.obl) (ob (nn0 hn0) ee)))))
abbrev Z46 (x0:Int) (r:Int):Y:=(175,[il x0],il r,[.undef])
theorem K1 {x0:Int} {r:Int} (h:Qm x0=some r):Fine Tryz.prog Mo (Z46 x0 r):=
 Zf Tryz.func175 (bnK h fun r0 hr0 h=>itK h (fun g1 h=>rtK h (rr (Yr hr0) (gg g1 ee))) fun g1 h=>bnK h fun a0 ha0 h=>rtK h (rr (Yr hr0) (gg g1 (xd encI ha0 ee))))
abbrev Z5q (x0:Int) (x1:Int) (r:Bool):Y:=(134,[il x0,il x1],bl r,[.undef,.undef])
theorem Z6q {x0:Int} {x1:Int} {r:Bool} (h:J4 x0 x1=some r):Fine Tryz.prog Mo (Z5q x0 x1 r):=
 Zf Tryz.func134 (bnK h fun r0 hr0 h=>itK h (fun g1 h=>itK h (fun g2 h=>bnK h fun r1 hr1 h=>bnK h fun n0 hn0 h=>rtK h (rr (K2 hr0) (gg g1 (kk 2 (gg g2 (kk 2 (rr (K2 hr1) (kk 1 (tp (.obl) (kk 2 (ob (nz0 hn0) ee))))))))))) fun g2 h=>rtK h (rr (K2 hr0) (gg g1 (kk 2 (gg g2 (kk 5 ee)))))) fun g1 h=>rtK h (rr (K2 hr0) (gg g1 (kk 8 ee))))
abbrev Zn5 (x0:Int) (x1:Int) (x2:Int) (r:Int):Y:=(248,[il x0,il x1,il x2],il r,[.undef,.undef,.undef])
theorem Znv {x0:Int} {x1:Int} {x2:Int} {r:Int} {v0:Int} {v1:Bool} (h:Zec x0 x1 x2 v0 v1=some r):CS (Zn5 x0 x1 x2 r) Tryz.f248 [1,1,1,0,1] [(0,il x0),(7,il v0),(34,bl v1)] []:=
 itK h (fun g1 h=>rtK h (gg g1 ee)) fun g1 h=>rtK h (gg g1 ee)
theorem Zil {x0:Int} {x1:Int} {x2:Int} {r:Int} {v0:Int} {v2:Bool} (h:Zap x0 x1 x2 v0 v2=some r):CS (Zn5 x0 x1 x2 r) Tryz.f248 [1,1,0,1] [(0,il x0),(2,il x2),(7,il v0),(23,bl v2)] []:=
 itK h (fun g1 h=>rtK h (gg g1 ee)) fun g1 h=>itK h (fun g2 h=>bnK h fun n0 hn0 h=>cutX [] 5 (gg g1 (gg g2 (kk 5 (tp (.obl) (kk 2 (ob (nz0 hn0) ee)))))) (Znv h)) fun g2 h=>cutX [] 5 (gg g1 (gg g2 (kk 7 ee))) (Znv h)
theorem Ztl {x0:Int} {x1:Int} {x2:Int} {r:Int} (h:Zgo x0 x1 x2=some r):Fine Tryz.prog Mo (Zn5 x0 x1 x2 r):=
 Zf Tryz.func248 (bnK h fun r0 hr0 h=>bnK h fun r1 hr1 h=>have p1 {q p} (k:Scr q p):=(rr (K2 hr0) (rr (Z6q hr1) k));itK h (fun g1 h=>cutX [] 7 (p1 (gg g1 (kk 7 ee))) (Zil h)) fun g1 h=>bnK h fun r2 hr2 h=>itK h (fun g2 h=>cutX [] 7 (p1 (gg g1 (kk 1 (rr (Yr hr2) (kk 2 (gg g2 (kk 3 ee))))))) (Zil h)) fun g2 h=>bnK h fun r3 hr3 h=>cutX [] 7 (p1 (gg g1 (kk 1 (rr (Yr hr2) (kk 2 (gg g2 (kk 1 (rr (K1 hr3) (kk 2 ee))))))))) (Zil h))
abbrev Zg8 (x0:Int) (x1:Int) (x2:Int) (r:List Int):Y:=(185,[il x0,il x1,il x2],.own 3 (r.map encI),[.undef,.undef,.undef])
theorem Zmd {x0:Int} {x1:Int} {x2:Int} {r:List Int} {k_L1:Int→(List Int)→Option (List Int)} (i_L1:∀{v0:Int} {v1:List Int},k_L1 v0 v1=some r→CS (Zg8 x0 x1 x2 r) Tryz.f185 [1,1,0,0] [(0,il v0),(1,il x1),(2,il x2),(7,.sl (1,1) 0 (v1.map encI).length)] [rx 1 3 (v1.map encI)]) {v0:Int} {v1:List Int} {v2:Bool} (h:Jb x0 x1 x2 k_L1 v0 v1 v2=some r):CS (Zg8 x0 x1 x2 r) Tryz.f185 [1,1,0,0,0,0,1] [(0,il v0),(1,il x1),(2,il x2),(7,.sl (1,1) 0 (v1.map encI).length),(20,bl v2)] [rx 1 3 (v1.map encI)]:=
 itK h (fun g1 h=>bnK h fun z0 hz0 h=>bnK h fun r0 hr0 h=>cutX [((1,1),(2,3072))] 7 (gg g1 (ta encI [v0] z0 (kk 1 (oa 1 Zee v0 (ox encI hz0 (oe encI z0 (rr (Ztl hr0) (ln encI z0 ee)))))))) (i_L1 h)) fun g1 h=>bnK h fun r1 hr1 h=>itK h (fun g2 h=>rtK h (gg g1 (lr encI v1 (rr (K1 hr1) (gg g2 (kk 1 (ob (show 0=([].map encI).length from rfl) ee))))))) fun g2 h=>rtK h (gg g1 (lr encI v1 (rr (K1 hr1) (gg g2 (kk 1 (oe encI v1 ee))))))
theorem Zum {x0:Int} {x1:Int} {x2:Int} {r:List Int}:∀{m:Nat} {v0:Int} {v1:List Int},Zbo x0 x1 x2 m v0 v1=some r→CS (Zg8 x0 x1 x2 r) Tryz.f185 [1,1,0,0] [(0,il v0),(1,il x1),(2,il x2),(7,.sl (1,1) 0 (v1.map encI).length)] [rx 1 3 (v1.map encI)]:=by
 intro m
 induction m with
 | zero=>intro v0 v1 h;cases h
 | succ m ih=>exact fun {v0} {v1} h=>bnK h fun r2 hr2 h=>itK h (fun g1 h=>bnK h fun r3 hr3 h=>cutX [((1,1),(1,1))] 4 (lr encI v1 (rr (K1 hr2) (gg g1 (kk 3 (rr (Ztl hr3) (kk 2 (ln encI v1 ee))))))) (Zmd ih h)) fun g1 h=>cutX [((1,1),(1,1))] 4 (lr encI v1 (rr (K1 hr2) (gg g1 (kk 5 (ln encI v1 ee))))) (Zmd ih h)
theorem Zzj {x0:Int} {x1:Int} {x2:Int} {r:List Int} (h:Zg6 x0 x1 x2=some r):Fine Tryz.prog Mo (Zg8 x0 x1 x2 r):=
 Zf Tryz.func185 (cutX [((1,1),(2,0))] 6 (tp (.num ([].map encI).length 0 0 []) (ob (show 0=([].map encI).length from rfl) ee)) (Zum h))
abbrev Zvf (x0:Int) (x1:Int) (x2:Int) (r:Bool):Y:=(174,[il x0,il x1,il x2],bl r,[.undef,.undef,.undef])
theorem Zyo {x0:Int} {x1:Int} {x2:Int} {r:Bool}:∀{m:Nat} {v0:List Int} {v1:Int},Zfu x0 x1 x2 m v0 v1=some r→CS (Zvf x0 x1 x2 r) Tryz.f174 [1,1,0,1,0] [(7,.sl (1,1) 0 (v0.map encI).length),(8,il v1)] [rx 1 3 (v0.map encI)]:=by
 intro m
 induction m with
 | zero=>intro v0 v1 h;cases h
 | succ m ih=>exact fun {v0} {v1} h=>itK h (fun g1 h=>bnK h fun a0 ha0 h=>bnK h fun a1 ha1 h=>itK h (fun g2 h=>rtK h (lr encI v0 (gg g1 (xd encI ha0 (kk 1 (xd encI ha1 (kk 1 (gg g2 ee)))))))) fun g2 h=>cutX [((1,1),(1,1))] 14 (lr encI v0 (gg g1 (xd encI ha0 (kk 1 (xd encI ha1 (kk 1 (gg g2 (ln encI v0 ee)))))))) (ih h)) fun g1 h=>rtK h (lr encI v0 (gg g1 (lr encI v0 ee)))
theorem Zqq {x0:Int} {x1:Int} {x2:Int} {r:Bool} (h:Zhs x0 x1 x2=some r):Fine Tryz.prog Mo (Zvf x0 x1 x2 r):=
 Zf Tryz.func174 (bnK h fun r0 hr0 h=>cutX [((1,1),(2,3072))] 8 (rr (Zzj hr0) (ln encI r0 ee)) (Zyo h))
abbrev Z6v (x0:Int) (r:Int):Y:=(135,[il x0],il r,[.undef])
theorem Zqe {x0:Int} {r:Int} (h:Wx x0=some r):Fine Tryz.prog Mo (Z6v x0 r):=
 Zf Tryz.func135 (bnK h fun r0 hr0 h=>itK h (fun g1 h=>rtK h (rr (K2 hr0) (gg g1 ee))) fun g1 h=>bnK h fun r1 hr1 h=>bnK h fun n0 hn0 h=>rtK h (rr (K2 hr0) (gg g1 (rr (K2 hr1) (tp (.obl) (ob (nn0 hn0) ee))))))
abbrev Zmi (x0:GL1Cur) (r:GReq×GL1Cur):Y:=(110,[.agg [.tr (x0.b.map encU),il x0.i,il x0.h]],.agg [bl r.1.write,il r.1.addr,il r.1.size,il r.1.burst,bl r.1.lock,.own 3 (r.1.data_.map encI)],[.agg [.tr (r.2.b.map encU),il r.2.i,il r.2.h]])
theorem Zs4 {x0:GL1Cur} {r:GReq×GL1Cur} {k_L1:GL1Cur→GReq→Int→Option (GReq×GL1Cur)} (i_L1:∀{vb0:GL1Cur} {vb1:GReq} {v0:Int},k_L1 vb0 vb1 v0=some r→CS (Zmi x0 r) Tryz.f110 [1,1,1,1,1,0,1,0] [(0,.ptr (0,63) 0 0),(2,.ptr (1,1) 0 0),(3,.ptr (1,3) 0 0),(5,il v0)] [((0,63),⟨true,true,true,0,[(GL1Cur.enc vb0)]⟩),rx 2 3 ([].map encI),bx 1 [bl false,il 0,il 0,il 0,bl false,.sl (1,2) 0 ([].map encI).length],rx 4 3 (vb1.data_.map encI),bx 3 [bl vb1.write,il vb1.addr,il vb1.size,il vb1.burst,bl vb1.lock,.sl (1,4) 0 (vb1.data_.map encI).length]]) {vb0:GL1Cur} {vb1:GReq} {v0:Int} {v1:Bool} (h:Zh5 x0 k_L1 vb0 vb1 v0 v1=some r):CS (Zmi x0 r) Tryz.f110 [1,1,1,1,1,0,1,0,0,0,1] [(0,.ptr (0,63) 0 0),(2,.ptr (1,1) 0 0),(3,.ptr (1,3) 0 0),(5,il v0),(57,bl v1)] [((0,63),⟨true,true,true,0,[(GL1Cur.enc vb0)]⟩),rx 2 3 ([].map encI),bx 1 [bl false,il 0,il 0,il 0,bl false,.sl (1,2) 0 ([].map encI).length],rx 4 3 (vb1.data_.map encI),bx 3 [bl vb1.write,il vb1.addr,il vb1.size,il vb1.burst,bl vb1.lock,.sl (1,4) 0 (vb1.data_.map encI).length]]:=
 itK h (fun g1 h=>bnK h fun r0 hr0 h=>bnK h fun r1 hr1 h=>bnK h fun r2 hr2 h=>bnK h fun r3 hr3 h=>bnK h fun z0 hz0 h=>cutX (ffi 1 3++[((1,4),(2,15360))]) 7 (gg g1 (rr (Zqe hr0) (rr (Zqe hr1) (kk 1 (ob (show 2=([(minI r0 1000),r1].map encI).length from rfl) (rr (Xl hr2) (rr (Zt hr3) (ta encI [r3.1] z0 (kk 1 (oa 1 Zee r3.1 (ox encI hz0 (oe encI z0 (ln encI [] (ln encI z0 ee)))))))))))))) (i_L1 h)) fun g1 h=>rtK h (gg g1 (kk 1 (oe encI vb1.data_ ee)))
theorem Z1g {x0:GL1Cur} {r:GReq×GL1Cur}:∀{m:Nat} {vb0:GL1Cur} {vb1:GReq} {v0:Int},Zbe x0 m vb0 vb1 v0=some r→CS (Zmi x0 r) Tryz.f110 [1,1,1,1,1,0,1,0] [(0,.ptr (0,63) 0 0),(2,.ptr (1,1) 0 0),(3,.ptr (1,3) 0 0),(5,il v0)] [((0,63),⟨true,true,true,0,[(GL1Cur.enc vb0)]⟩),rx 2 3 ([].map encI),bx 1 [bl false,il 0,il 0,il 0,bl false,.sl (1,2) 0 ([].map encI).length],rx 4 3 (vb1.data_.map encI),bx 3 [bl vb1.write,il vb1.addr,il vb1.size,il vb1.burst,bl vb1.lock,.sl (1,4) 0 (vb1.data_.map encI).length]]:=by
 intro m
 induction m with
 | zero=>intro vb0 vb1 v0 h;cases h
 | succ m ih=>exact fun {vb0} {vb1} {v0} h=>bnK h fun r4 hr4 h=>itK h (fun g1 h=>cutX (ffi 1 4) 4 (rr (K1 hr4) (gg g1 (kk 2 (ln encI [] (ln encI vb1.data_ ee))))) (Zs4 ih h)) fun g1 h=>cutX (ffi 1 4) 4 (rr (K1 hr4) (gg g1 (kk 2 (ln encI [] (ln encI vb1.data_ ee))))) (Zs4 ih h)
theorem Zs1 {x0:GL1Cur} {r:GReq×GL1Cur} {vb0:GL1Cur} {vb1:GReq} (h:Zes x0 vb0 vb1=some r):CS (Zmi x0 r) Tryz.f110 [1,1,1,1,1] [(0,.ptr (0,63) 0 0),(2,.ptr (1,1) 0 0),(3,.ptr (1,3) 0 0)] [((0,63),⟨true,true,true,0,[(GL1Cur.enc vb0)]⟩),rx 2 3 ([].map encI),bx 1 [bl false,il 0,il 0,il 0,bl false,.sl (1,2) 0 ([].map encI).length],rx 4 3 (vb1.data_.map encI),bx 3 [bl vb1.write,il vb1.addr,il vb1.size,il vb1.burst,bl vb1.lock,.sl (1,4) 0 (vb1.data_.map encI).length]]:=
 cutX (ffi 1 4) 4 (ln encI [] (ln encI vb1.data_ ee)) (Z1g h)
theorem Zuk {x0:GL1Cur} {r:GReq×GL1Cur} (h:Ziw x0=some r):Fine Tryz.prog Mo (Zmi x0 r):=
 Zf Tryz.func110 (bnK h fun r5 hr5 h=>bnK h fun r6 hr6 h=>bnK h fun r7 hr7 h=>bnK h fun r8 hr8 h=>bnK h fun r9 hr9 h=>bnK h fun r10 hr10 h=>bnK h fun r11 hr11 h=>bnK h fun r12 hr12 h=>bnK h fun r13 hr13 h=>bnK h fun r14 hr14 h=>bnK h fun r15 hr15 h=>bnK h fun n0 hn0 h=>bnK h fun r16 hr16 h=>have p1 {q p} (k:Scr q p):=(rr (Zjq hr5) (kk 1 (ob (show 5=([2,2,2,0,1].map encI).length from rfl) (rr (Xl hr6) (kk 1 (ob (show 5=([0,0,1,2,3].map encI).length from rfl) (rr (Xl hr7) (rr (Zjq hr8) (rr (K2 hr9) (rr (Zt hr10) (rr (Zt hr11) (rr (Zt hr12) (rr (Zt hr13) (rr (Zt hr14) (kk 1 (ob (show 5=([r10.1,r11.1,(addW 128 r12.1),(addW 192 r13.1),r14.1].map encI).length from rfl) (rr (Xl hr15) (tp (.obl) (ob (nz0 hn0) (rr (Zqq hr16) k))))))))))))))))))));itK h (fun g1 h=>cutX [((1,1),(1,0)),((1,3),(2,11264))] 13 (p1 (gg g1 ee)) (Zs1 h)) fun g1 h=>cutX [((1,1),(1,0)),((1,3),(2,11264))] 13 (p1 (gg g1 ee)) (Zs1 h))
abbrev Z5f (x0:GL1Cur) (r:Int×GL1Cur):Y:=(188,[.agg [.tr (x0.b.map encU),il x0.i,il x0.h]],il r.1,[.agg [.tr (r.2.b.map encU),il r.2.i,il r.2.h]])
theorem Zv6 {x0:GL1Cur} {r:Int×GL1Cur} (h:Zhr x0=some r):Fine Tryz.prog Mo (Z5f x0 r):=
 Zf Tryz.func188 (bnK h fun r0 hr0 h=>rtK h (rr (Zt hr0) ee))
abbrev Ybr (x0:GL1Cur) (r:GReq×GL1Cur):Y:=(112,[.agg [.tr (x0.b.map encU),il x0.i,il x0.h]],.agg [bl r.1.write,il r.1.addr,il r.1.size,il r.1.burst,bl r.1.lock,.own 3 (r.1.data_.map encI)],[.agg [.tr (r.2.b.map encU),il r.2.i,il r.2.h]])
theorem Z0v {x0:GL1Cur} {r:GReq×GL1Cur} (h:Zi4 x0=some r):Fine Tryz.prog Mo (Ybr x0 r):=
 Zf Tryz.func112 (bnK h fun r0 hr0 h=>bnK h fun r1 hr1 h=>have p1 {q p} (k:Scr q p):=(rr (Zuk hr0) (rr (Zt hr1) k));itK h (fun g1 h=>bnK h fun r2 hr2 h=>rtK h (p1 (gg g1 (kk 1 (ob (show 4=([(-4),510,512,61].map encI).length from rfl) (rr (Xl hr2) (kk 1 (oe encI r0.1.data_ ee)))))))) fun g1 h=>itK h (fun g2 h=>rtK h (p1 (gg g1 (gg g2 (kk 1 (oe encI r0.1.data_ ee)))))) fun g2 h=>itK h (fun g3 h=>bnK h fun r3 hr3 h=>rtK h (p1 (gg g1 (gg g2 (gg g3 (rr (Zv6 hr3) (kk 1 (oe encI r0.1.data_ ee)))))))) fun g3 h=>itK h (fun g4 h=>bnK h fun r4 hr4 h=>rtK h (p1 (gg g1 (gg g2 (gg g3 (gg g4 (rr (Zv6 hr4) (kk 1 (oe encI r0.1.data_ ee))))))))) fun g4 h=>itK h (fun g5 h=>bnK h fun z0 hz0 h=>rtK h (p1 (gg g1 (gg g2 (gg g3 (gg g4 (gg g5 (ta encI [1] z0 (kk 2 (oa 1 Zee 1 (ox encI hz0 (oe encI z0 (oe encI z0 ee))))))))))))) fun g5 h=>rtK h (p1 (gg g1 (gg g2 (gg g3 (gg g4 (gg g5 (kk 1 (oe encI r0.1.data_ ee)))))))))
abbrev Z9p (x0:Int) (x1:Int) (x2:Int) (r:Bool):Y:=(77,[il x0,il x1,il x2],bl r,[.undef,.undef,.undef])
theorem Zn {x0:Int} {x1:Int} {x2:Int} {r:Bool} (h:Zx x0 x1 x2=some r):Fine Tryz.prog Mo (Z9p x0 x1 x2 r):=
 Zf Tryz.func77 (itK h (fun g1 h=>rtK h (gg g1 (kk 3 ee))) fun g1 h=>rtK h (gg g1 (kk 3 ee)))
abbrev Zxp (x0:GConf) (r:Int):Y:=(19,[.agg (GConf.enc x0)],il r,[.undef])
theorem Zrc {x0:GConf} {r:Int} {v0:Bool} (h:Zkw x0 v0=some r):CS (Zxp x0 r) Tryz.f19 [1,0,1] [(1,.ptr (1,1) 0 0),(12,bl v0)] [bx 1 (GConf.enc x0)]:=
 itK h (fun g1 h=>rtK h (gg g1 ee)) fun g1 h=>rtK h (gg g1 ee)
theorem Zjp {x0:GConf} {r:Int} (h:Zdo x0=some r):Fine Tryz.prog Mo (Zxp x0 r):=
 Zf Tryz.func19 (bnK h fun r0 hr0 h=>itK h (fun g1 h=>cutX [((1,1),(1,0))] 5 (rr (Zn hr0) (gg g1 (kk 4 ee))) (Zrc h)) fun g1 h=>bnK h fun r1 hr1 h=>cutX [((1,1),(1,0))] 5 (rr (Zn hr0) (gg g1 (kk 2 (rr (Zn hr1) (kk 2 ee))))) (Zrc h))
abbrev Z8n (x0:GConf) (r:Int):Y:=(119,[.agg (GConf.enc x0)],il r,[.undef])
theorem Zg0 {x0:GConf} {r:Int} (h:Zbz x0=some r):Fine Tryz.prog Mo (Z8n x0 r):=
 Zf Tryz.func119 (bnK h fun r0 hr0 h=>itK h (fun g1 h=>rtK h (rr (Zjp hr0) (gg g1 (kk 5 ee)))) fun g1 h=>bnK h fun r1 hr1 h=>have p1 {q p} (k:Scr q p):=(rr (Zjp hr0) (gg g1 (kk 2 (rr (Zn hr1) (kk 2 k)))));itK h (fun g2 h=>rtK h (p1 (gg g2 ee))) fun g2 h=>bnK h fun r2 hr2 h=>rtK h (p1 (gg g2 (rr (Zjp hr2) ee))))
abbrev Z0l (x0:GConf) (r:Int):Y:=(252,[.agg (GConf.enc x0)],il r,[.undef])
theorem Z1q {x0:GConf} {r:Int}:∀{m:Nat} {v0:Int} {v1:Int},Zh4 x0 m v0 v1=some r→CS (Z0l x0 r) Tryz.f252 [1,1,0,1,0] [(3,il v0),(7,.tr (x0.masters.map GMConf.enc)),(8,il (x0.masters.length:Int)),(9,il v1)] []:=by
 intro m
 induction m with
 | zero=>intro v0 v1 h;cases h
 | succ m ih=>exact fun {v0} {v1} h=>itK h (fun g1 h=>bnK h fun a0 ha0 h=>itK h (fun g2 h=>cutX [] 16 (gg g1 (xb GMConf.enc ha0 (gg g2 ee))) (ih h)) fun g2 h=>cutX [] 16 (gg g1 (xb GMConf.enc ha0 (gg g2 ee))) (ih h)) fun g1 h=>rtK h (gg g1 ee)
theorem Yas {x0:GConf} {r:Int} (h:Zp3 x0=some r):Fine Tryz.prog Mo (Z0l x0 r):=
 Zf Tryz.func252 (cutX [] 8 (lr GMConf.enc x0.masters ee) (Z1q h))
abbrev Zz6 (x0:GConf) (r:Int):Y:=(197,[.agg (GConf.enc x0)],il r,[.undef])
theorem Zqy {x0:GConf} {r:Int} (h:Zhf x0=some r):Fine Tryz.prog Mo (Zz6 x0 r):=
 Zf Tryz.func197 (bnK h fun r0 hr0 h=>bnK h fun r1 hr1 h=>rtK h (rr (Zg0 hr0) (rr (Yas hr1) ee)))
abbrev Z4e (x0:GMConf) (x1:GConf) (r:Bool):Y:=(196,[.agg (GMConf.enc x0),.rp true (GConf.enc x1) 0],bl r,[.undef,.undef])
theorem Zt0 {x0:GMConf} {x1:GConf} {r:Bool} (h:Zjg x0 x1=some r):Fine Tryz.prog Mo (Z4e x0 x1 r):=
 Zf Tryz.func196 (bnK h fun r0 hr0 h=>have p1 {q p} (k:Scr q p):=(rr (Zn hr0) k);itK h (fun g1 h=>rtK h (p1 (gg g1 ee))) fun g1 h=>itK h (fun g2 h=>bnK h fun r1 hr1 h=>bnK h fun r2 hr2 h=>itK h (fun g3 h=>rtK h (p1 (gg g1 (gg g2 (rr (Zqy hr1) (rr (Zn hr2) (gg g3 (kk 4 ee)))))))) fun g3 h=>bnK h fun r3 hr3 h=>rtK h (p1 (gg g1 (gg g2 (rr (Zqy hr1) (rr (Zn hr2) (gg g3 (kk 2 (rr (Zn hr3) (kk 2 ee)))))))))) fun g2 h=>itK h (fun g3 h=>rtK h (p1 (gg g1 (gg g2 (gg g3 (kk 3 ee)))))) fun g3 h=>rtK h (p1 (gg g1 (gg g2 (gg g3 (kk 3 ee))))))
abbrev Qz (x0:List GMConf) (x1c0:GConf) (r:Int):Y:=(251,[.tr (x0.map GMConf.enc),.fn 196 [.rp true (GConf.enc x1c0) 0]],il r,[.undef,.undef])
theorem Za8 {x0:List GMConf} {x1c0:GConf} {r:Int}:∀{m:Nat} {v0:Int},Z4 x0 x1c0 m v0=some r→CS (Qz x0 x1c0 r) Tryz.f251 [1,0,1,0] [(0,.tr (x0.map GMConf.enc)),(1,.fn 196 [.rp true (GConf.enc x1c0) 0]),(7,il (x0.length:Int)),(8,il v0)] []:=by
 intro m
 induction m with
 | zero=>intro v0 h;cases h
 | succ m ih=>exact fun {v0} h=>itK h (fun g1 h=>bnK h fun a0 ha0 h=>bnK h fun r0 hr0 h=>itK h (fun g2 h=>rtK h (gg g1 (xb GMConf.enc ha0 (rr (Zt0 hr0) (gg g2 ee))))) fun g2 h=>cutX [] 16 (gg g1 (xb GMConf.enc ha0 (rr (Zt0 hr0) (gg g2 ee)))) (ih h)) fun g1 h=>rtK h (gg g1 ee)
theorem Zcu {x0:List GMConf} {x1c0:GConf} {r:Int} (h:Wf x0 x1c0=some r):Fine Tryz.prog Mo (Qz x0 x1c0 r):=
 Zf Tryz.func251 (cutX [] 6 (lr GMConf.enc x0 ee) (Za8 h))
abbrev Zbu (x0:List GMConf) (x1c0:GConf) (r:Bool):Y:=(195,[.tr (x0.map GMConf.enc),.fn 196 [.rp true (GConf.enc x1c0) 0]],bl r,[.undef,.undef])
theorem Zbr {x0:List GMConf} {x1c0:GConf} {r:Bool} (h:Y3 x0 x1c0=some r):Fine Tryz.prog Mo (Zbu x0 x1c0 r):=
 Zf Tryz.func195 (bnK h fun r0 hr0 h=>rtK h (rr (Zcu hr0) ee))
abbrev Z90 (x0:GConf) (r:Bool):Y:=(116,[.agg (GConf.enc x0)],bl r,[.undef])
theorem Qb {x0:GConf} {r:Bool} (h:K8 x0=some r):Fine Tryz.prog Mo (Z90 x0 r):=
 Zf Tryz.func116 (bnK h fun r0 hr0 h=>have p1 {q p} (k:Scr q p):=(lr GMConf.enc x0.masters (rr (Zn hr0) k));itK h (fun g1 h=>rtK h (p1 (gg g1 (kk 14 ee)))) fun g1 h=>bnK h fun r1 hr1 h=>have p2 {q p} (k:Scr q p):=(p1 (gg g1 (kk 2 (rr (Zn hr1) (kk 2 k)))));itK h (fun g2 h=>rtK h (p2 (gg g2 (kk 9 ee)))) fun g2 h=>bnK h fun r2 hr2 h=>have p3 {q p} (k:Scr q p):=(p2 (gg g2 (kk 2 (rr (Zn hr2) (kk 2 k)))));itK h (fun g3 h=>rtK h (p3 (gg g3 (kk 4 ee)))) fun g3 h=>bnK h fun r3 hr3 h=>itK h (fun g4 h=>rtK h (p3 (gg g3 (kk 1 (rr (Zg0 hr3) (kk 2 (gg g4 ee))))))) fun g4 h=>bnK h fun r4 hr4 h=>rtK h (p3 (gg g3 (kk 1 (rr (Zg0 hr3) (kk 2 (gg g4 (rr (Zbr hr4) ee))))))))
abbrev Zev (x0:List GMConf) (r:List GMConf):Y:=(204,[.tr (x0.map GMConf.enc)],.own 81 (r.map GMConf.enc),[.undef])
theorem Zms {x0:List GMConf} {r:List GMConf} (h:Qp x0=some r):Fine Tryz.prog Mo (Zev x0 r):=by
 refine Zf Tryz.func204 ?_
 unfold Qp at h
 cases x0 with
 | nil=>
  obtain rfl:[]=r:=(Zsp h)
  have hn:CS (Zev [] []) Tryz.f204 [1,0,0] [(0,.tr [])] []:=Zr4 Mo fOk (k:=at_ [1,0,1] (Zoq Tryz.f204) []) (x0:=.tmp 0) (d0:=3) (d1:=4) (t:=24) (e:=81) (y:=.const (.slice none 0 0)) (by kernel_rfl) (by kernel_rfl) rfl rfl fun b=>by
   cases b with
   | true=>exact rtQ rfl [.k] tt
   | false=>exact rtQ rfl [.k,.app [] true [] 0,.k] (aa (Eq.refl ([]:List (List V))) (aa (Eq.refl true) (aa (Eq.refl true) (aa (Eq.refl 0) (aa (apz 32) (aa (Eq.refl ([]:List (List V))) (aa (Eq.refl 0) (aa (Eq.refl 0) tt))))))))
  exact cutQ [] 4 [] tt hn
 | cons a l=>
  exact rtQ rfl [.k,.app ((a::l).map GMConf.enc) true (r.map GMConf.enc) (r.map GMConf.enc).length,.k] (aa (List.cons_ne_nil (GMConf.enc a) (l.map GMConf.enc)) (aa (Eq.refl ((a::l).map GMConf.enc)) (aa (ltr GMConf.enc_lit (a::l)) (aa (alr 4 GMConf.enc_len (a::l)) (aa (Eq.refl 0) (aa (apl GMConf.enc h) (aa (apm0 GMConf.enc h) (aa (lene GMConf.enc r) (aa (lene GMConf.enc r) tt)))))))))
abbrev Z6p (x0:GConf) (r:GConf):Y:=(136,[.agg (GConf.enc x0)],.agg [.own 81 (r.masters.map GMConf.enc),il r.quantum,il r.maxWait,il r.maxRetry,il r.maxSplit,il r.lockMost],[.undef])
theorem Zvn {x0:GConf} {r:GConf} (h:Zhy x0=some r):Fine Tryz.prog Mo (Z6p x0 r):=
 Zf Tryz.func136 (bnK h fun r0 hr0 h=>rtK h (rr (Zms hr0) (kk 1 (oe GMConf.enc r0 ee))))
abbrev Z95  (r:GDev):Y:=(241,[],.agg (GDev.ow r),[])
theorem Z9x  {r:GDev} (h:Zw2  = some r):Fine Tryz.prog Mo (Z95  r):=
 Zf Tryz.func241 (bnK h fun m0 hm0 h=>rtK h (tp (.mk (4:Int).toNat (m0.map encI)) (kk 1 (ob (mkn hm0) (ob (mkn hm0) (ob (mkl hm0) (ob (mkr encI hm0) (oe encI m0 ee))))))))
abbrev Z3l  (r:GModel):Y:=(176,[],.agg (GModel.ow r),[])
theorem Z3r  {r:GModel} (h:Zkg  = some r):Fine Tryz.prog Mo (Z3l  r):=
 Zf Tryz.func176 (bnK h fun m0 hm0 h=>bnK h fun r0 hr0 h=>rtK h (tp (.mk (192:Int).toNat (m0.map encI)) (ob (mkn hm0) (ob (mkn hm0) (ob (mkl hm0) (ob (mkr encI hm0) (rr (Z9x hr0) (kk 3 (oe encI m0 (GDev.so r0 ee))))))))))
abbrev Z1d (x0:GMConf) (r:GBucket):Y:=(177,[.agg (GMConf.enc x0)],.agg (GBucket.enc r),[.undef])
theorem Z12 {x0:GMConf} {r:GBucket} (h:Zib x0=some r):Fine Tryz.prog Mo (Z1d x0 r):=
 Zf Tryz.func177 (itK h (fun g1 h=>rtK h (gg g1 ee)) fun g1 h=>rtK h (gg g1 ee))
abbrev Zyh (x0:GConf) (r:GBus×Bool):Y:=(94,[.agg (GConf.enc x0)],.tup [.agg (GBus.ow r.1),bl r.2],[.undef])
theorem Zzk {x0:GConf} {r:GBus×Bool}:∀{m:Nat} {vb0:GBus} {v0:Int},Zgq x0 m vb0 v0=some r→CS (Zyh x0 r) Tryz.f94 [1,1,1,0,1,0] [(2,.ptr (1,1) 0 0),(4,.ptr (1,10) 0 0),(16,.tr (x0.masters.map GMConf.enc)),(17,il (x0.masters.length:Int)),(18,il v0)] (GBus.bk GBus.z0 2++[bx 1 (GBus.rl GBus.z0 2)]++GBus.bk vb0 11++[bx 10 (GBus.rl vb0 11)]):=by
 intro m
 induction m with
 | zero=>intro vb0 v0 h;cases h
 | succ m ih=>exact fun {vb0} {v0} h=>itK h (fun g1 h=>bnK h fun a0 ha0 h=>bnK h fun z0 hz0 h=>bnK h fun r0 hr0 h=>bnK h fun z1 hz1 h=>bnK h fun z2 hz2 h=>cutX (ffi 1 11++[((1,12),(4,4096)),((1,13),(5,5120)),((1,14),(6,3072))]++ffi 15 4) 17 (gg g1 (xb GMConf.enc ha0 (ta GMst.enc [GMst.z0] z0 (kk 1 (oa 6 GMst.enc_len GMst.z0 (ox GMst.enc hz0 (oe GMst.enc z0 (rr (Z12 hr0) (ta GBucket.enc [r0] z1 (kk 1 (ta encI [0] z2 (kk 1 (oa 2 GBucket.enc_len r0 (ox GBucket.enc hz1 (oe GBucket.enc z1 (oa 1 Zee 0 (ox encI hz2 (oe encI z2 (GBus.sc GBus.z0 (GBus.sc {vb0 with m:=z0,buckets:=z1,splits:=z2} ee)))))))))))))))))))) (ih h)) fun g1 h=>rtK h (gg g1 (kk 8 (GBus.so vb0 ee)))
theorem Zyd {x0:GConf} {r:GBus×Bool} (h:Zna x0=some r):Fine Tryz.prog Mo (Zyh x0 r):=
 Zf Tryz.func94 (bnK h fun r1 hr1 h=>itK h (fun g1 h=>rtK h (rr (Qb hr1) (gg g1 ee))) fun g1 h=>bnK h fun r2 hr2 h=>bnK h fun r3 hr3 h=>cutX [((1,1),(1,1024)),((1,10),(3,4096)),((1,11),(3,1024)),((1,15),(3,2048)),((1,16),(3,2049)),((1,17),(3,2051))] 13 (rr (Qb hr1) (gg g1 (rr (Zvn hr2) (rr (Z3r hr3) (lr GMConf.enc x0.masters (ln GMConf.enc r2.masters (tp (.num (r3.mem.map encI).length 0 0 []) (tp (.num (r3.dev.regs.map encI).length 0 0 []) (tp (.num (r3.dev.fifo.map encI).length 0 0 []) (GModel.so r3 ee)))))))))) (Zzk h))
abbrev Z5e (x0:Int) (r:Int):Y:=(190,[il x0],il r,[.undef])
theorem Zle {x0:Int} {r:Int} (h:Zb4 x0=some r):Fine Tryz.prog Mo (Z5e x0 r):=
 Zf Tryz.func190 (bnK h fun r0 hr0 h=>itK h (fun g1 h=>rtK h (rr (Zn hr0) (gg g1 ee))) fun g1 h=>bnK h fun a0 ha0 h=>rtK h (rr (Zn hr0) (gg g1 (xd encI ha0 ee))))
abbrev Z47 (x0:Int) (r:Int):Y:=(256,[il x0],il r,[.undef])
theorem Ky {x0:Int} {r:Int} (h:Ql x0=some r):Fine Tryz.prog Mo (Z47 x0 r):=
 Zf Tryz.func256 (bnK h fun r0 hr0 h=>itK h (fun g1 h=>rtK h (rr (Zn hr0) (gg g1 ee))) fun g1 h=>bnK h fun n0 hn0 h=>rtK h (rr (Zn hr0) (gg g1 (tp (.obl) (ob (nn0 hn0) ee)))))
abbrev Z6u (x0:Int) (x1:Int) (r:Bool):Y:=(213,[il x0,il x1],bl r,[.undef,.undef])
theorem Zb7 {x0:Int} {x1:Int} {r:Bool} (h:Zcf x0 x1=some r):Fine Tryz.prog Mo (Z6u x0 x1 r):=
 Zf Tryz.func213 (bnK h fun r0 hr0 h=>itK h (fun g1 h=>itK h (fun g2 h=>bnK h fun r1 hr1 h=>bnK h fun n0 hn0 h=>rtK h (rr (Zn hr0) (gg g1 (kk 2 (gg g2 (kk 2 (rr (Ky hr1) (kk 1 (tp (.obl) (kk 2 (ob (nz0 hn0) ee))))))))))) fun g2 h=>rtK h (rr (Zn hr0) (gg g1 (kk 2 (gg g2 (kk 5 ee)))))) fun g1 h=>rtK h (rr (Zn hr0) (gg g1 (kk 8 ee))))
abbrev Zt6 (x0:Int) (x1:Int) (x2:Int) (r:Int):Y:=(260,[il x0,il x1,il x2],il r,[.undef,.undef,.undef])
theorem Ziq {x0:Int} {x1:Int} {x2:Int} {r:Int} {v0:Bool} (h:Zax x0 x1 x2 v0=some r):CS (Zt6 x0 x1 x2 r) Tryz.f260 [1,0,1] [(0,il x0),(1,il x1),(2,il x2),(21,bl v0)] []:=
 itK h (fun g1 h=>rtK h (gg g1 ee)) fun g1 h=>bnK h fun r0 hr0 h=>bnK h fun r1 hr1 h=>have p1 {q p} (k:Scr q p):=(gg g1 (rr (Ky hr0) (rr (Ky hr1) k)));itK h (fun g2 h=>bnK h fun n0 hn0 h=>itK h (fun g3 h=>rtK h (p1 (gg g2 (kk 2 (tp (.obl) (kk 2 (ob (nz0 hn0) (gg g3 ee)))))))) fun g3 h=>rtK h (p1 (gg g2 (kk 2 (tp (.obl) (kk 2 (ob (nz0 hn0) (gg g3 ee)))))))) fun g2 h=>rtK h (p1 (gg g2 (kk 5 ee)))
theorem Zui {x0:Int} {x1:Int} {x2:Int} {r:Int} (h:Zjd x0 x1 x2=some r):Fine Tryz.prog Mo (Zt6 x0 x1 x2 r):=
 Zf Tryz.func260 (bnK h fun r2 hr2 h=>itK h (fun g1 h=>cutX [] 5 (rr (Zb7 hr2) (gg g1 (kk 6 ee))) (Ziq h)) fun g1 h=>itK h (fun g2 h=>cutX [] 5 (rr (Zb7 hr2) (gg g1 (kk 2 (gg g2 (kk 3 ee))))) (Ziq h)) fun g2 h=>bnK h fun r3 hr3 h=>cutX [] 5 (rr (Zb7 hr2) (gg g1 (kk 2 (gg g2 (kk 1 (rr (Zle hr3) (kk 2 ee))))))) (Ziq h))
abbrev Zq9 (x0:Int) (x1:Int) (x2:Int) (r:List Int):Y:=(215,[il x0,il x1,il x2],.own 3 (r.map encI),[.undef,.undef,.undef])
theorem Zut {x0:Int} {x1:Int} {x2:Int} {r:List Int}:∀{m:Nat} {v0:Int} {v1:List Int} {v2:Int} {v3:Int},Zbp x0 x1 x2 m v0 v1 v2 v3=some r→CS (Zq9 x0 x1 x2 r) Tryz.f215 [1,1,0,1,0] [(0,il v0),(1,il x1),(2,il x2),(7,.sl (1,1) 0 (v1.map encI).length),(11,il v2),(12,il v3)] [rx 1 3 (v1.map encI)]:=by
 intro m
 induction m with
 | zero=>intro v0 v1 v2 v3 h;cases h
 | succ m ih=>exact fun {v0} {v1} {v2} {v3} h=>itK h (fun g1 h=>bnK h fun r0 hr0 h=>itK h (fun g2 h=>rtK h (gg g1 (rr (Zui hr0) (gg g2 ee)))) fun g2 h=>bnK h fun z0 hz0 h=>cutX [((1,1),(5,3072))] 20 (gg g1 (rr (Zui hr0) (gg g2 (ta encI [v0] z0 (kk 1 (oa 1 Zee v0 (ox encI hz0 (ln encI z0 (oe encI z0 ee))))))))) (ih h)) fun g1 h=>rtK h (gg g1 (kk 1 (oe encI v1 ee)))
theorem Zq0 {x0:Int} {x1:Int} {x2:Int} {r:List Int} (h:Zdc x0 x1 x2=some r):Fine Tryz.prog Mo (Zq9 x0 x1 x2 r):=
 Zf Tryz.func215 (bnK h fun r1 hr1 h=>cutX [((1,1),(2,0))] 8 (rr (Zle hr1) (tp (.num ([].map encI).length 0 0 []) (ob (show 0=([].map encI).length from rfl) ee))) (Zut h))
abbrev Zv3 (x0:Int) (x1:Int) (x2:Int) (r:Bool):Y:=(191,[il x0,il x1,il x2],bl r,[.undef,.undef,.undef])
theorem Zyl {x0:Int} {x1:Int} {x2:Int} {r:Bool}:∀{m:Nat} {v0:List Int} {v1:Int} {v2:Int},Zfh x0 x1 x2 m v0 v1 v2=some r→CS (Zv3 x0 x1 x2 r) Tryz.f191 [1,1,0,1,0] [(7,.sl (1,1) 0 (v0.map encI).length),(14,.sl (1,1) 0 (v0.map encI).length),(15,il v1),(16,il v2)] [rx 1 3 (v0.map encI)]:=by
 intro m
 induction m with
 | zero=>intro v0 v1 v2 h;cases h
 | succ m ih=>exact fun {v0} {v1} {v2} h=>itK h (fun g1 h=>bnK h fun a0 ha0 h=>bnK h fun a1 ha1 h=>itK h (fun g2 h=>rtK h (gg g1 (xd encI ha0 (kk 1 (xd encI ha1 (kk 1 (gg g2 ee))))))) fun g2 h=>cutX [((1,1),(1,1))] 16 (gg g1 (xd encI ha0 (kk 1 (xd encI ha1 (kk 1 (gg g2 (ln encI v0 (ln encI v0 ee)))))))) (ih h)) fun g1 h=>rtK h (gg g1 (lr encI v0 ee))
theorem Zqt {x0:Int} {x1:Int} {x2:Int} {r:Bool} (h:Zk8 x0 x1 x2=some r):Fine Tryz.prog Mo (Zv3 x0 x1 x2 r):=
 Zf Tryz.func191 (bnK h fun r0 hr0 h=>cutX [((1,1),(2,3072))] 8 (rr (Zq0 hr0) (lr encI r0 (ln encI r0 (ln encI r0 ee)))) (Zyl h))
abbrev Z43 (x0:Int) (r:Int):Y:=(250,[il x0],il r,[.undef])
theorem Zv8 {x0:Int} {r:Int} (h:Zht x0=some r):Fine Tryz.prog Mo (Z43 x0 r):=
 Zf Tryz.func250 (bnK h fun r0 hr0 h=>itK h (fun g1 h=>rtK h (rr (Ky hr0) (gg g1 ee))) fun g1 h=>bnK h fun r1 hr1 h=>bnK h fun n0 hn0 h=>rtK h (rr (Ky hr0) (gg g1 (rr (Ky hr1) (tp (.obl) (ob (nn0 hn0) ee))))))
abbrev Ybz (x0:Int) (x1:Int) (r:Bool):Y:=(194,[il x0,il x1],bl r,[.undef,.undef])
theorem Zf7 {x0:Int} {x1:Int} {r:Bool} (h:Zaa x0 x1=some r):Fine Tryz.prog Mo (Ybz x0 x1 r):=
 Zf Tryz.func194 (bnK h fun r0 hr0 h=>bnK h fun r1 hr1 h=>rtK h (rr (Zv8 hr0) (rr (Zn hr1) ee)))
abbrev Z56 (x0:Int) (x1:GReq) (r:Bool):Y:=(193,[il x0,.rp true (GReq.enc x1) 0],bl r,[.undef,.undef])
theorem Zvh {x0:Int} {x1:GReq} {r:Bool} (h:Zls x0 x1=some r):Fine Tryz.prog Mo (Z56 x0 x1 r):=
 Zf Tryz.func193 (bnK h fun r0 hr0 h=>rtK h (rr (Zf7 hr0) ee))
abbrev Kx (x0:List Int) (x1c0:GReq) (r:Int):Y:=(249,[.tr (x0.map encI),.fn 193 [.rp true (GReq.enc x1c0) 0]],il r,[.undef,.undef])
theorem Zde {x0:List Int} {x1c0:GReq} {r:Int}:∀{m:Nat} {v0:Int},Wh x0 x1c0 m v0=some r→CS (Kx x0 x1c0 r) Tryz.f249 [1,0,1,0] [(0,.tr (x0.map encI)),(1,.fn 193 [.rp true (GReq.enc x1c0) 0]),(7,il (x0.length:Int)),(8,il v0)] []:=by
 intro m
 induction m with
 | zero=>intro v0 h;cases h
 | succ m ih=>exact fun {v0} h=>itK h (fun g1 h=>bnK h fun a0 ha0 h=>bnK h fun r0 hr0 h=>itK h (fun g2 h=>rtK h (gg g1 (xb encI ha0 (rr (Zvh hr0) (gg g2 ee))))) fun g2 h=>cutX [] 16 (gg g1 (xb encI ha0 (rr (Zvh hr0) (gg g2 ee)))) (ih h)) fun g1 h=>rtK h (gg g1 ee)
theorem Zfx {x0:List Int} {x1c0:GReq} {r:Int} (h:W2 x0 x1c0=some r):Fine Tryz.prog Mo (Kx x0 x1c0 r):=
 Zf Tryz.func249 (cutX [] 6 (lr encI x0 ee) (Zde h))
abbrev Zdk (x0:List Int) (x1c0:GReq) (r:Bool):Y:=(192,[.tr (x0.map encI),.fn 193 [.rp true (GReq.enc x1c0) 0]],bl r,[.undef,.undef])
theorem Zd2 {x0:List Int} {x1c0:GReq} {r:Bool} (h:Xf x0 x1c0=some r):Fine Tryz.prog Mo (Zdk x0 x1c0 r):=
 Zf Tryz.func192 (bnK h fun r0 hr0 h=>rtK h (rr (Zfx hr0) ee))
abbrev Z0j (x0:GReq) (r:Bool):Y:=(115,[.agg (GReq.enc x0)],bl r,[.undef])
theorem Zsy {x0:GReq} {r:Bool} {v0:Int} (h:Zie x0 v0=some r):CS (Z0j x0 r) Tryz.f115 [1,1,1] [(1,.ptr (1,1) 0 0),(3,il v0)] [bx 1 (GReq.enc x0)]:=
 bnK h fun r0 hr0 h=>itK h (fun g1 h=>itK h (fun g2 h=>bnK h fun r1 hr1 h=>rtK h (rr (Zqt hr0) (gg g1 (kk 2 (lr encI x0.data_ (kk 3 (gg g2 (kk 3 (rr (Zd2 hr1) (kk 2 ee)))))))))) fun g2 h=>rtK h (rr (Zqt hr0) (gg g1 (kk 2 (lr encI x0.data_ (kk 3 (gg g2 (kk 5 ee)))))))) fun g1 h=>rtK h (rr (Zqt hr0) (gg g1 (kk 11 ee)))
theorem Zgk {x0:GReq} {r:Bool} (h:Zf3 x0=some r):Fine Tryz.prog Mo (Z0j x0 r):=
 Zf Tryz.func115 (itK h (fun g1 h=>bnK h fun r2 hr2 h=>cutX [((1,1),(1,0))] 9 (gg g1 (rr (Zle hr2) ee)) (Zsy h)) fun g1 h=>cutX [((1,1),(1,0))] 9 (gg g1 ee) (Zsy h))
abbrev Zh0 (x0:List Int) (r:List Int):Y:=(139,[.tr (x0.map encI)],.own 3 (r.map encI),[.undef])
theorem Xi {x0:List Int} {r:List Int} (h:Yf x0=some r):Fine Tryz.prog Mo (Zh0 x0 r):=by
 refine Zf Tryz.func139 ?_
 unfold Yf at h
 cases x0 with
 | nil=>
  obtain rfl:[]=r:=(Zsp h)
  have hn:CS (Zh0 [] []) Tryz.f139 [1,0,0] [(0,.tr [])] []:=Zr4 Mo fOk (k:=at_ [1,0,1] (Zoq Tryz.f139) []) (x0:=.tmp 0) (d0:=3) (d1:=4) (t:=31) (e:=3) (y:=.const (.slice none 0 0)) (by kernel_rfl) (by kernel_rfl) rfl rfl fun b=>by
   cases b with
   | true=>exact rtQ rfl [.k] tt
   | false=>exact rtQ rfl [.k,.app [] true [] 0,.k] (aa (Eq.refl ([]:List (List V))) (aa (Eq.refl true) (aa (Eq.refl true) (aa (Eq.refl 0) (aa (apz 8) (aa (Eq.refl ([]:List (List V))) (aa (Eq.refl 0) (aa (Eq.refl 0) tt))))))))
  exact cutQ [] 4 [] tt hn
 | cons a l=>
  exact rtQ rfl [.k,.app ((a::l).map encI) true (r.map encI) (r.map encI).length,.k] (aa (List.cons_ne_nil (encI a) (l.map encI)) (aa (Eq.refl ((a::l).map encI)) (aa (ltr Yfc (a::l)) (aa (alr 1 Zee (a::l)) (aa (Eq.refl 0) (aa (apl encI h) (aa (apm0 encI h) (aa (lene encI r) (aa (lene encI r) tt)))))))))
abbrev Z9h (x0:GReq) (r:GReq):Y:=(205,[.agg (GReq.enc x0)],.agg [bl r.write,il r.addr,il r.size,il r.burst,bl r.lock,.own 3 (r.data_.map encI)],[.undef])
theorem Zsf {x0:GReq} {r:GReq} (h:Zdq x0=some r):Fine Tryz.prog Mo (Z9h x0 r):=
 Zf Tryz.func205 (bnK h fun r0 hr0 h=>rtK h (rr (Xi hr0) (kk 1 (oe encI r0 ee))))
abbrev Zy2 (x0:GMst) (r:GMst):Y:=(137,[.agg (GMst.enc x0)],.agg [.own 72 (r.queue.map GReq.enc),il r.beat,il r.done,il r.tries,bl r.parted,bl r.broken],[.undef])
theorem Zzu {x0:GMst} {r:GMst}:∀{m:Nat} {v0:List GReq} {v1:Int},Zhc x0 m v0 v1=some r→CS (Zy2 x0 r) Tryz.f137 [1,1,0,1,0] [(1,.ptr (1,1) 0 0),(2,.ptr (1,2) 0 0),(3,.sl (1,4) 0 (v0.map GReq.enc).length),(8,.tr (x0.queue.map GReq.enc)),(9,il (x0.queue.length:Int)),(10,il v1)] [bx 1 (GMst.enc x0),rx 3 72 ([].map GReq.enc),bx 2 [.sl (1,3) 0 ([].map GReq.enc).length,il 0,il 0,il 0,bl false,bl false],rx 4 72 (v0.map GReq.enc)]:=by
 intro m
 induction m with
 | zero=>intro v0 v1 h;cases h
 | succ m ih=>exact fun {v0} {v1} h=>itK h (fun g1 h=>bnK h fun a0 ha0 h=>bnK h fun r0 hr0 h=>bnK h fun z0 hz0 h=>cutX (ffi 1 3++[((1,4),(4,4096))]) 13 (gg g1 (xb GReq.enc ha0 (rr (Zsf hr0) (kk 1 (ta GReq.enc [r0] z0 (kk 1 (oe encI r0.data_ (oa 6 GReq.enc_len r0 (ox GReq.enc hz0 (ln GReq.enc z0 (oe GReq.enc z0 (ln GReq.enc [] ee)))))))))))) (ih h)) fun g1 h=>rtK h (gg g1 (kk 1 (oe GReq.enc v0 ee)))
theorem Zbw {x0:GMst} {r:GMst} (h:Zb0 x0=some r):Fine Tryz.prog Mo (Zy2 x0 r):=
 Zf Tryz.func137 (cutX [((1,1),(1,0)),((1,2),(1,1024)),((1,4),(2,0))] 8 (lr GReq.enc x0.queue (tp (.num ([].map GReq.enc).length 0 0 []) (ob (show 0=([].map GReq.enc).length from rfl) ee))) (Zzu h))
abbrev Zc9 (x0:List GBucket) (r:List GBucket):Y:=(138,[.tr (x0.map GBucket.enc)],.own 110 (r.map GBucket.enc),[.undef])
theorem Zky {x0:List GBucket} {r:List GBucket} (h:Qa x0=some r):Fine Tryz.prog Mo (Zc9 x0 r):=by
 refine Zf Tryz.func138 ?_
 unfold Qa at h
 cases x0 with
 | nil=>
  obtain rfl:[]=r:=(Zsp h)
  have hn:CS (Zc9 [] []) Tryz.f138 [1,0,0] [(0,.tr [])] []:=Zr4 Mo fOk (k:=at_ [1,0,1] (Zoq Tryz.f138) []) (x0:=.tmp 0) (d0:=3) (d1:=4) (t:=30) (e:=110) (y:=.const (.slice none 0 0)) (by kernel_rfl) (by kernel_rfl) rfl rfl fun b=>by
   cases b with
   | true=>exact rtQ rfl [.k] tt
   | false=>exact rtQ rfl [.k,.app [] true [] 0,.k] (aa (Eq.refl ([]:List (List V))) (aa (Eq.refl true) (aa (Eq.refl true) (aa (Eq.refl 0) (aa (apz 16) (aa (Eq.refl ([]:List (List V))) (aa (Eq.refl 0) (aa (Eq.refl 0) tt))))))))
  exact cutQ [] 4 [] tt hn
 | cons a l=>
  exact rtQ rfl [.k,.app ((a::l).map GBucket.enc) true (r.map GBucket.enc) (r.map GBucket.enc).length,.k] (aa (List.cons_ne_nil (GBucket.enc a) (l.map GBucket.enc)) (aa (Eq.refl ((a::l).map GBucket.enc)) (aa (ltr GBucket.enc_lit (a::l)) (aa (alr 2 GBucket.enc_len (a::l)) (aa (Eq.refl 0) (aa (apl GBucket.enc h) (aa (apm0 GBucket.enc h) (aa (lene GBucket.enc r) (aa (lene GBucket.enc r) tt)))))))))
abbrev Z98 (x0:GDev) (r:GDev):Y:=(206,[.agg (GDev.enc x0)],.agg (GDev.ow r),[.undef])
theorem Zwy {x0:GDev} {r:GDev} (h:Zjc x0=some r):Fine Tryz.prog Mo (Z98 x0 r):=
 Zf Tryz.func206 (bnK h fun r0 hr0 h=>bnK h fun r1 hr1 h=>rtK h (rr (Xi hr0) (rr (Xi hr1) (kk 2 (oe encI r0 (oe encI r1 ee))))))
abbrev Z4k (x0:GModel) (r:GModel):Y:=(140,[.agg (GModel.enc x0)],.agg (GModel.ow r),[.undef])
theorem Zox {x0:GModel} {r:GModel} (h:Zct x0=some r):Fine Tryz.prog Mo (Z4k x0 r):=
 Zf Tryz.func140 (bnK h fun r0 hr0 h=>bnK h fun r1 hr1 h=>rtK h (rr (Xi hr0) (rr (Zwy hr1) (kk 3 (oe encI r0 (GDev.so r1 ee))))))
abbrev Zfz (x0:List GDone) (r:List GDone):Y:=(106,[.tr (x0.map GDone.enc)],.own 52 (r.map GDone.enc),[.undef])
theorem Zoz {x0:List GDone} {r:List GDone} (h:Q6 x0=some r):Fine Tryz.prog Mo (Zfz x0 r):=by
 refine Zf Tryz.func106 ?_
 unfold Q6 at h
 cases x0 with
 | nil=>
  obtain rfl:[]=r:=(Zsp h)
  have hn:CS (Zfz [] []) Tryz.f106 [1,0,0] [(0,.tr [])] []:=Zr4 Mo fOk (k:=at_ [1,0,1] (Zoq Tryz.f106) []) (x0:=.tmp 0) (d0:=3) (d1:=4) (t:=38) (e:=52) (y:=.const (.slice none 0 0)) (by kernel_rfl) (by kernel_rfl) rfl rfl fun b=>by
   cases b with
   | true=>exact rtQ rfl [.k] tt
   | false=>exact rtQ rfl [.k,.app [] true [] 0,.k] (aa (Eq.refl ([]:List (List V))) (aa (Eq.refl true) (aa (Eq.refl true) (aa (Eq.refl 0) (aa (apz 56) (aa (Eq.refl ([]:List (List V))) (aa (Eq.refl 0) (aa (Eq.refl 0) tt))))))))
  exact cutQ [] 4 [] tt hn
 | cons a l=>
  exact rtQ rfl [.k,.app ((a::l).map GDone.enc) true (r.map GDone.enc) (r.map GDone.enc).length,.k] (aa (List.cons_ne_nil (GDone.enc a) (l.map GDone.enc)) (aa (Eq.refl ((a::l).map GDone.enc)) (aa (ltr GDone.enc_lit (a::l)) (aa (alr 7 GDone.enc_len (a::l)) (aa (Eq.refl 0) (aa (apl GDone.enc h) (aa (apm0 GDone.enc h) (aa (lene GDone.enc r) (aa (lene GDone.enc r) tt)))))))))
abbrev Zxv (x0:GBus) (r:GBus):Y:=(72,[.agg (GBus.enc x0)],.agg (GBus.ow r),[.undef])
theorem Zy7 {x0:GBus} {r:GBus}:∀{m:Nat} {vb0:GBus} {v0:List GMst} {v1:Int},Zdb x0 m vb0 v0 v1=some r→CS (Zxv x0 r) Tryz.f72 [1,1,1,0,1,0] [(1,.ptr (1,1) 0 0),(2,.ptr (1,3) 0 0),(3,.sl (1,12) 0 (v0.map GMst.enc).length),(12,.tr (x0.m.map GMst.enc)),(13,il (x0.m.length:Int)),(14,il v1)] ([rx 2 81 (vb0.conf.masters.map GMConf.enc),bx 1 [.sl (1,2) 0 (vb0.conf.masters.map GMConf.enc).length,il vb0.conf.quantum,il vb0.conf.maxWait,il vb0.conf.maxRetry,il vb0.conf.maxSplit,il vb0.conf.lockMost,il vb0.now,.tr (vb0.m.map GMst.enc),il vb0.arb.at_,il vb0.arb.credit,.tr (vb0.buckets.map GBucket.enc),.tr (vb0.splits.map encI),il vb0.holder,il vb0.held,il vb0.last,bl vb0.addr.live,il vb0.addr.who,il vb0.addr.beat,bl vb0.addr.first,il vb0.addr.by_,il vb0.addr.left,il vb0.addr.resp,bl vb0.addr.second,bl vb0.data_.live,il vb0.data_.who,il vb0.data_.beat,bl vb0.data_.first,il vb0.data_.by_,il vb0.data_.left,il vb0.data_.resp,bl vb0.data_.second,.tr (vb0.model.mem.map encI),.tr (vb0.model.dev.regs.map encI),il vb0.model.dev.timer,.tr (vb0.model.dev.fifo.map encI),il vb0.picks,.tr (vb0.log.map GDone.enc)]]++GBus.bk GBus.z0 4++[bx 3 (GBus.rl GBus.z0 4),rx 12 107 (v0.map GMst.enc)]):=by
 intro m
 induction m with
 | zero=>intro vb0 v0 v1 h;cases h
 | succ m ih=>exact fun {vb0} {v0} {v1} h=>itK h (fun g1 h=>bnK h fun a0 ha0 h=>bnK h fun r0 hr0 h=>bnK h fun z0 hz0 h=>cutX (ffi 1 11++[((1,12),(4,4096))]) 13 (gg g1 (xb GMst.enc ha0 (rr (Zbw hr0) (kk 1 (ta GMst.enc [r0] z0 (kk 1 (oe GReq.enc r0.queue (oa 6 GMst.enc_len r0 (ox GMst.enc hz0 (ln GMst.enc z0 (oe GMst.enc z0 (ln GMConf.enc vb0.conf.masters (GBus.sc GBus.z0 ee))))))))))))) (ih h)) fun g1 h=>bnK h fun r1 hr1 h=>bnK h fun r2 hr2 h=>bnK h fun r3 hr3 h=>bnK h fun r4 hr4 h=>rtK h (gg g1 (rr (Zky hr1) (rr (Xi hr2) (rr (Zox hr3) (rr (Zoz hr4) (kk 8 (oe GMConf.enc vb0.conf.masters (oe GMst.enc v0 (oe GBucket.enc r1 (oe encI r2 (GModel.so r3 (oe GDone.enc r4 ee))))))))))))
theorem Zsd {x0:GBus} {r:GBus} (h:Zj5 x0=some r):Fine Tryz.prog Mo (Zxv x0 r):=
 Zf Tryz.func72 (bnK h fun r5 hr5 h=>cutX [((1,1),(1,0)),((1,2),(2,2048)),((1,3),(1,1024)),((1,12),(3,0))] 10 (rr (Zvn hr5) (lr GMst.enc x0.m (tp (.num ([].map GMst.enc).length 0 0 []) (ob (show 0=([].map GMst.enc).length from rfl) (ln GMConf.enc r5.masters ee))))) (Zy7 h))
abbrev Zta (x0:GReq) (r:Bool):Y:=(254,[.agg (GReq.enc x0)],bl r,[.undef])
theorem Zmj {x0:GReq} {r:Bool} (h:Zbn x0=some r):Fine Tryz.prog Mo (Zta x0 r):=
 Zf Tryz.func254 (bnK h fun r0 hr0 h=>rtK h (rr (Zgk hr0) ee))
abbrev Qk (x0:List GReq) (r:Int):Y:=(189,[.tr (x0.map GReq.enc),.fn 254 []],il r,[.undef,.undef])
theorem Zav {x0:List GReq} {r:Int}:∀{m:Nat} {v0:Int},Xp x0 m v0=some r→CS (Qk x0 r) Tryz.f189 [1,0,1,0] [(0,.tr (x0.map GReq.enc)),(1,.fn 254 []),(7,il (x0.length:Int)),(8,il v0)] []:=by
 intro m
 induction m with
 | zero=>intro v0 h;cases h
 | succ m ih=>exact fun {v0} h=>itK h (fun g1 h=>bnK h fun a0 ha0 h=>bnK h fun r0 hr0 h=>itK h (fun g2 h=>rtK h (gg g1 (xb GReq.enc ha0 (rr (Zmj hr0) (gg g2 ee))))) fun g2 h=>cutX [] 16 (gg g1 (xb GReq.enc ha0 (rr (Zmj hr0) (gg g2 ee)))) (ih h)) fun g1 h=>rtK h (gg g1 ee)
theorem Zcb {x0:List GReq} {r:Int} (h:X2 x0=some r):Fine Tryz.prog Mo (Qk x0 r):=
 Zf Tryz.func189 (cutX [] 6 (lr GReq.enc x0 ee) (Zav h))
abbrev Za4 (x0:List GReq) (r:Bool):Y:=(113,[.tr (x0.map GReq.enc),.fn 254 []],bl r,[.undef,.undef])
theorem Za6 {x0:List GReq} {r:Bool} (h:Yz x0=some r):Fine Tryz.prog Mo (Za4 x0 r):=
 Zf Tryz.func113 (bnK h fun r0 hr0 h=>rtK h (rr (Zcb hr0) ee))
abbrev Z1n (x0:GMst) (r:Int):Y:=(214,[.rp true (GMst.enc x0) 0],il r,[.undef])
theorem Jq {x0:GMst} {r:Int} (h:Kh x0=some r):Fine Tryz.prog Mo (Z1n x0 r):=
 Zf Tryz.func214 (itK h (fun g1 h=>rtK h (lr GReq.enc x0.queue (gg g1 ee))) fun g1 h=>bnK h fun a0 ha0 h=>bnK h fun r0 hr0 h=>rtK h (lr GReq.enc x0.queue (gg g1 (xb GReq.enc ha0 (rr (Zle hr0) ee)))))
abbrev Zot (x0:GMst) (r:Bool):Y:=(207,[.agg (GMst.enc x0)],bl r,[.undef])
theorem Zeh {x0:GMst} {r:Bool} {v0:Bool} (h:Xg x0 v0=some r):CS (Zot x0 r) Tryz.f207 [1,0,1] [(1,.ptr (1,1) 0 0),(16,bl v0)] [bx 1 (GMst.enc x0)]:=
 itK h (fun g1 h=>rtK h (gg g1 ee)) fun g1 h=>have p1 {q p} (k:Scr q p):=(gg g1 (lr GReq.enc x0.queue k));itK h (fun g2 h=>itK h (fun g3 h=>itK h (fun g4 h=>have p2 {q p} (k:Scr q p):=(p1 (gg g2 (gg g3 (kk 3 (gg g4 (kk 3 k))))));itK h (fun g5 h=>itK h (fun g6 h=>rtK h (p2 (gg g5 (kk 3 (gg g6 (kk 3 ee)))))) fun g6 h=>rtK h (p2 (gg g5 (kk 3 (gg g6 (kk 3 ee)))))) fun g5 h=>rtK h (p2 (gg g5 (kk 7 ee)))) fun g4 h=>rtK h (p1 (gg g2 (gg g3 (kk 3 (gg g4 (kk 11 ee))))))) fun g3 h=>rtK h (p1 (gg g2 (gg g3 (kk 15 ee))))) fun g2 h=>bnK h fun r0 hr0 h=>bnK h fun r1 hr1 h=>itK h (fun g3 h=>bnK h fun r2 hr2 h=>bnK h fun r3 hr3 h=>rtK h (p1 (gg g2 (rr (Jq hr0) (rr (Zn hr1) (gg g3 (kk 7 (rr (Jq hr2) (kk 2 (rr (Zn hr3) (kk 1 ee))))))))))) fun g3 h=>rtK h (p1 (gg g2 (rr (Jq hr0) (rr (Zn hr1) (gg g3 (kk 10 ee))))))
theorem X4 {x0:GMst} {r:Bool} (h:Wr x0=some r):Fine Tryz.prog Mo (Zot x0 r):=
 Zf Tryz.func207 (itK h (fun g1 h=>cutX [((1,1),(1,0))] 5 (lr GReq.enc x0.queue (gg g1 (kk 7 ee))) (Zeh h)) fun g1 h=>itK h (fun g2 h=>cutX [((1,1),(1,0))] 5 (lr GReq.enc x0.queue (gg g1 (kk 3 (gg g2 (kk 3 ee))))) (Zeh h)) fun g2 h=>bnK h fun r4 hr4 h=>cutX [((1,1),(1,0))] 5 (lr GReq.enc x0.queue (gg g1 (kk 3 (gg g2 (kk 2 (rr (Za6 hr4) (kk 1 ee))))))) (Zeh h))
abbrev Z3e (x0:GBucket) (x1:GMConf) (r:Bool):Y:=(208,[.agg (GBucket.enc x0),.agg (GMConf.enc x1)],bl r,[.undef,.undef])
theorem Ztc {x0:GBucket} {x1:GMConf} {r:Bool} (h:Zgg x0 x1=some r):Fine Tryz.prog Mo (Z3e x0 x1 r):=
 Zf Tryz.func208 (itK h (fun g1 h=>rtK h (gg g1 ee)) fun g1 h=>bnK h fun r0 hr0 h=>itK h (fun g2 h=>itK h (fun g3 h=>rtK h (gg g1 (rr (Zn hr0) (gg g2 (kk 3 (gg g3 (kk 5 ee))))))) fun g3 h=>rtK h (gg g1 (rr (Zn hr0) (gg g2 (kk 3 (gg g3 (kk 5 ee))))))) fun g2 h=>rtK h (gg g1 (rr (Zn hr0) (gg g2 (kk 9 ee)))))
abbrev Zga (x0:GBus) (r:Bool):Y:=(141,[.rp true (GBus.enc x0) 0],bl r,[.undef])
theorem Zqs {x0:GBus} {r:Bool}:∀{m:Nat} {v0:Int},Zcd x0 m v0=some r→CS (Zga x0 r) Tryz.f141 [1,1,1,0,1,0] [(0,.rp true (GBus.enc x0) 0),(40,.tr (x0.m.map GMst.enc)),(41,il (x0.m.length:Int)),(42,il v0)] []:=by
 intro m
 induction m with
 | zero=>intro v0 h;cases h
 | succ m ih=>exact fun {v0} h=>itK h (fun g1 h=>bnK h fun a0 ha0 h=>bnK h fun r0 hr0 h=>have p1 {q p} (k:Scr q p):=(gg g1 (xb GMst.enc ha0 (rr (X4 hr0) k)));itK h (fun g2 h=>rtK h (p1 (gg g2 (kk 42 ee)))) fun g2 h=>itK h (fun g3 h=>rtK h (p1 (gg g2 (kk 8 (gg g3 (kk 33 ee)))))) fun g3 h=>bnK h fun a1 ha1 h=>bnK h fun a2 ha2 h=>bnK h fun r1 hr1 h=>have p2 {q p} (k:Scr q p):=(p1 (gg g2 (kk 8 (gg g3 (kk 5 (xb GBucket.enc ha1 (kk 8 (xb GMConf.enc ha2 (kk 2 (rr (Ztc hr1) (kk 2 k)))))))))));itK h (fun g4 h=>rtK h (p2 (gg g4 (kk 15 ee)))) fun g4 h=>bnK h fun a3 ha3 h=>bnK h fun r2 hr2 h=>have p3 {q p} (k:Scr q p):=(p2 (gg g4 (kk 5 (xb encI ha3 (kk 7 (rr (Zn hr2) (kk 2 k)))))));itK h (fun g5 h=>rtK h (p3 (gg g5 ee))) fun g5 h=>cutX [] 16 (p3 (gg g5 ee)) (ih h)) fun g1 h=>rtK h (gg g1 ee)
theorem Zb5 {x0:GBus} {r:Bool} {v1:Bool} (h:X3 x0 v1=some r):CS (Zga x0 r) Tryz.f141 [1,1,0,1] [(0,.rp true (GBus.enc x0) 0),(36,bl v1)] []:=
 itK h (fun g1 h=>rtK h (gg g1 ee)) fun g1 h=>cutX [] 6 (gg g1 (lr GMst.enc x0.m ee)) (Zqs h)
theorem Zun {x0:GBus} {r:Bool} (h:Zbg x0=some r):Fine Tryz.prog Mo (Zga x0 r):=
 Zf Tryz.func141 (have p1 {q p} (k:Scr q p):=(lr GMConf.enc x0.conf.masters (lr GMst.enc x0.m k));itK h (fun g1 h=>cutX [] 7 (p1 (gg g1 (kk 15 ee))) (Zb5 h)) fun g1 h=>itK h (fun g2 h=>cutX [] 7 (p1 (gg g1 (kk 4 (lr GBucket.enc x0.buckets (kk 3 (gg g2 (kk 7 ee))))))) (Zb5 h)) fun g2 h=>cutX [] 7 (p1 (gg g1 (kk 4 (lr GBucket.enc x0.buckets (kk 3 (gg g2 (kk 4 (lr encI x0.splits (kk 3 ee))))))))) (Zb5 h))
abbrev Z30 (x0:GConf) (x1:Int) (r:Bool):Y:=(143,[.agg (GConf.enc x0),il x1],bl r,[.undef,.undef])
theorem Q9 {x0:GConf} {x1:Int} {r:Bool} (h:Wb x0 x1=some r):Fine Tryz.prog Mo (Z30 x0 x1 r):=
 Zf Tryz.func143 (bnK h fun r0 hr0 h=>rtK h (lr GMConf.enc x0.masters (rr (Zn hr0) ee)))
abbrev Zx7 (x0:GConf) (x1:Int) (r:Int):Y:=(198,[.agg (GConf.enc x0),il x1],il r,[.undef,.undef])
theorem Zq8 {x0:GConf} {x1:Int} {r:Int} {v0:Bool} (h:Zkj x0 x1 v0=some r):CS (Zx7 x0 x1 r) Tryz.f198 [1,0,1] [(1,il x1),(2,.ptr (1,1) 0 0),(13,bl v0)] [bx 1 (GConf.enc x0)]:=
 itK h (fun g1 h=>rtK h (gg g1 ee)) fun g1 h=>bnK h fun a0 ha0 h=>rtK h (gg g1 (xb GMConf.enc ha0 ee))
theorem Znk {x0:GConf} {x1:Int} {r:Int} (h:Zdz x0 x1=some r):Fine Tryz.prog Mo (Zx7 x0 x1 r):=
 Zf Tryz.func198 (bnK h fun r0 hr0 h=>itK h (fun g1 h=>cutX [((1,1),(1,0))] 5 (rr (Qb hr0) (gg g1 (kk 4 ee))) (Zq8 h)) fun g1 h=>bnK h fun r1 hr1 h=>cutX [((1,1),(1,0))] 5 (rr (Qb hr0) (gg g1 (kk 2 (rr (Q9 hr1) (kk 2 ee))))) (Zq8 h))
abbrev Yam (x0:GWrr) (x1:GConf) (r:Bool):Y:=(142,[.agg (GWrr.enc x0),.agg (GConf.enc x1)],bl r,[.undef,.undef])
theorem Zme {x0:GWrr} {x1:GConf} {r:Bool} (h:Zf4 x0 x1=some r):Fine Tryz.prog Mo (Yam x0 x1 r):=
 Zf Tryz.func142 (bnK h fun r0 hr0 h=>itK h (fun g1 h=>bnK h fun r1 hr1 h=>have p1 {q p} (k:Scr q p):=(rr (Qb hr0) (gg g1 (kk 3 (rr (Q9 hr1) (kk 1 k)))));itK h (fun g2 h=>bnK h fun r2 hr2 h=>bnK h fun r3 hr3 h=>rtK h (p1 (gg g2 (kk 5 (rr (Znk hr2) (kk 1 (rr (Zn hr3) (kk 1 ee)))))))) fun g2 h=>rtK h (p1 (gg g2 (kk 7 ee)))) fun g1 h=>rtK h (rr (Qb hr0) (gg g1 (kk 12 ee))))
abbrev Z8r (x0:Int) (r:Bool):Y:=(255,[il x0],bl r,[.undef])
theorem Zyu {x0:Int} {r:Bool} (h:Znf x0=some r):Fine Tryz.prog Mo (Z8r x0 r):=
 Zf Tryz.func255 (bnK h fun r0 hr0 h=>rtK h (rr (Zn hr0) ee))
abbrev Jh (x0:List Int) (r:Int):Y:=(249,[.tr (x0.map encI),.fn 255 []],il r,[.undef,.undef])
theorem Zdt {x0:List Int} {r:Int}:∀{m:Nat} {v0:Int},Wp x0 m v0=some r→CS (Jh x0 r) Tryz.f249 [1,0,1,0] [(0,.tr (x0.map encI)),(1,.fn 255 []),(7,il (x0.length:Int)),(8,il v0)] []:=by
 intro m
 induction m with
 | zero=>intro v0 h;cases h
 | succ m ih=>exact fun {v0} h=>itK h (fun g1 h=>bnK h fun a0 ha0 h=>bnK h fun r0 hr0 h=>itK h (fun g2 h=>rtK h (gg g1 (xb encI ha0 (rr (Zyu hr0) (gg g2 ee))))) fun g2 h=>cutX [] 16 (gg g1 (xb encI ha0 (rr (Zyu hr0) (gg g2 ee)))) (ih h)) fun g1 h=>rtK h (gg g1 ee)
theorem Zf9 {x0:List Int} {r:Int} (h:W8 x0=some r):Fine Tryz.prog Mo (Jh x0 r):=
 Zf Tryz.func249 (cutX [] 6 (lr encI x0 ee) (Zdt h))
abbrev Zeo (x0:List Int) (r:Bool):Y:=(192,[.tr (x0.map encI),.fn 255 []],bl r,[.undef,.undef])
theorem Zer {x0:List Int} {r:Bool} (h:Xn x0=some r):Fine Tryz.prog Mo (Zeo x0 r):=
 Zf Tryz.func192 (bnK h fun r0 hr0 h=>rtK h (rr (Zf9 hr0) ee))
abbrev Yen (x0:List Int) (x1:Int) (x2:Int) (r:Bool):Y:=(209,[.tr (x0.map encI),il x1,il x2],bl r,[.undef,.undef,.undef])
theorem Zkk {x0:List Int} {x1:Int} {x2:Int} {r:Bool} (h:Zks x0 x1 x2=some r):Fine Tryz.prog Mo (Yen x0 x1 x2 r):=
 Zf Tryz.func209 (itK h (fun g1 h=>bnK h fun r0 hr0 h=>have p1 {q p} (k:Scr q p):=(lr encI x0 (gg g1 (kk 1 (rr (Zer hr0) (kk 2 k)))));itK h (fun g2 h=>bnK h fun r1 hr1 h=>itK h (fun g3 h=>bnK h fun r2 hr2 h=>rtK h (p1 (gg g2 (kk 2 (rr (Zb7 hr1) (kk 1 (gg g3 (kk 2 (lr encI x0 (kk 2 (rr (Ky hr2) (kk 3 ee)))))))))))) fun g3 h=>rtK h (p1 (gg g2 (kk 2 (rr (Zb7 hr1) (kk 1 (gg g3 (kk 7 ee)))))))) fun g2 h=>rtK h (p1 (gg g2 (kk 11 ee)))) fun g1 h=>rtK h (lr encI x0 (gg g1 (kk 15 ee))))
abbrev Z5g (x0:Int) (r:Bool):Y:=(257,[il x0],bl r,[.undef])
theorem Zv5 {x0:Int} {r:Bool} (h:Zlo x0=some r):Fine Tryz.prog Mo (Z5g x0 r):=
 Zf Tryz.func257 (bnK h fun r0 hr0 h=>rtK h (rr (Zf7 hr0) ee))
abbrev Kw (x0:List Int) (r:Int):Y:=(249,[.tr (x0.map encI),.fn 257 []],il r,[.undef,.undef])
theorem Zdd {x0:List Int} {r:Int}:∀{m:Nat} {v0:Int},Wg x0 m v0=some r→CS (Kw x0 r) Tryz.f249 [1,0,1,0] [(0,.tr (x0.map encI)),(1,.fn 257 []),(7,il (x0.length:Int)),(8,il v0)] []:=by
 intro m
 induction m with
 | zero=>intro v0 h;cases h
 | succ m ih=>exact fun {v0} h=>itK h (fun g1 h=>bnK h fun a0 ha0 h=>bnK h fun r0 hr0 h=>itK h (fun g2 h=>rtK h (gg g1 (xb encI ha0 (rr (Zv5 hr0) (gg g2 ee))))) fun g2 h=>cutX [] 16 (gg g1 (xb encI ha0 (rr (Zv5 hr0) (gg g2 ee)))) (ih h)) fun g1 h=>rtK h (gg g1 ee)
theorem Zfy {x0:List Int} {r:Int} (h:W1 x0=some r):Fine Tryz.prog Mo (Kw x0 r):=
 Zf Tryz.func249 (cutX [] 6 (lr encI x0 ee) (Zdd h))
abbrev Zdr (x0:List Int) (r:Bool):Y:=(192,[.tr (x0.map encI),.fn 257 []],bl r,[.undef,.undef])
theorem Q8 {x0:List Int} {r:Bool} (h:Yw x0=some r):Fine Tryz.prog Mo (Zdr x0 r):=
 Zf Tryz.func192 (bnK h fun r0 hr0 h=>rtK h (rr (Zfy hr0) ee))
abbrev Ya4 (x0:GDev) (r:Bool):Y:=(210,[.agg (GDev.enc x0)],bl r,[.undef])
theorem Z0n {x0:GDev} {r:Bool} (h:Zl8 x0=some r):Fine Tryz.prog Mo (Ya4 x0 r):=
 Zf Tryz.func210 (itK h (fun g1 h=>have p1 {q p} (k:Scr q p):=(lr encI x0.regs (gg g1 (kk 2 (lr encI x0.fifo (kk 2 k)))));itK h (fun g2 h=>bnK h fun r0 hr0 h=>have p2 {q p} (k:Scr q p):=(p1 (gg g2 (kk 3 (rr (Q8 hr0) (kk 2 k)))));itK h (fun g3 h=>bnK h fun r1 hr1 h=>have p3 {q p} (k:Scr q p):=(p2 (gg g3 (kk 3 (rr (Q8 hr1) (kk 2 k)))));itK h (fun g4 h=>bnK h fun r2 hr2 h=>rtK h (p3 (gg g4 (kk 2 (rr (Zf7 hr2) (kk 1 ee)))))) fun g4 h=>rtK h (p3 (gg g4 (kk 3 ee)))) fun g3 h=>rtK h (p2 (gg g3 (kk 9 ee)))) fun g2 h=>rtK h (p1 (gg g2 (kk 15 ee)))) fun g1 h=>rtK h (lr encI x0.regs (gg g1 (kk 20 ee))))
abbrev Z5a (x0:GModel) (r:Bool):Y:=(144,[.agg (GModel.enc x0)],bl r,[.undef])
theorem Zqc {x0:GModel} {r:Bool} (h:Zb9 x0=some r):Fine Tryz.prog Mo (Z5a x0 r):=
 Zf Tryz.func144 (itK h (fun g1 h=>bnK h fun r0 hr0 h=>itK h (fun g2 h=>bnK h fun r1 hr1 h=>rtK h (lr encI x0.mem (gg g1 (kk 2 (rr (Zkk hr0) (kk 1 (gg g2 (kk 2 (rr (Z0n hr1) (kk 1 ee)))))))))) fun g2 h=>rtK h (lr encI x0.mem (gg g1 (kk 2 (rr (Zkk hr0) (kk 1 (gg g2 (kk 3 ee)))))))) fun g1 h=>rtK h (lr encI x0.mem (gg g1 (kk 7 ee))))
abbrev Zzz (x0:GBeat) (r:Bool):Y:=(259,[.agg (GBeat.enc x0)],bl r,[.undef])
theorem Zkn {x0:GBeat} {r:Bool} (h:Zgp x0=some r):Fine Tryz.prog Mo (Zzz x0 r):=
 Zf Tryz.func259 (rtK h ee)
abbrev Qx (x0:List GBeat) (r:Int):Y:=(273,[.tr (x0.map GBeat.enc),.fn 259 []],il r,[.undef,.undef])
theorem Za9 {x0:List GBeat} {r:Int}:∀{m:Nat} {v0:Int},Xx x0 m v0=some r→CS (Qx x0 r) Tryz.f273 [1,0,1,0] [(0,.tr (x0.map GBeat.enc)),(1,.fn 259 []),(7,il (x0.length:Int)),(8,il v0)] []:=by
 intro m
 induction m with
 | zero=>intro v0 h;cases h
 | succ m ih=>exact fun {v0} h=>itK h (fun g1 h=>bnK h fun a0 ha0 h=>bnK h fun r0 hr0 h=>itK h (fun g2 h=>rtK h (gg g1 (xb GBeat.enc ha0 (rr (Zkn hr0) (gg g2 ee))))) fun g2 h=>cutX [] 16 (gg g1 (xb GBeat.enc ha0 (rr (Zkn hr0) (gg g2 ee)))) (ih h)) fun g1 h=>rtK h (gg g1 ee)
theorem Zc7 {x0:List GBeat} {r:Int} (h:Wc x0=some r):Fine Tryz.prog Mo (Qx x0 r):=
 Zf Tryz.func273 (cutX [] 6 (lr GBeat.enc x0 ee) (Za9 h))
abbrev Qt (x0:List GBeat) (r:List GBeat):Y:=(258,[.own 33 (x0.map GBeat.enc),.fn 259 []],.own 33 (r.map GBeat.enc),[.undef,.undef])
theorem Za5 {x0:List GBeat} {r:List GBeat}:∀{m:Nat} {v0:List GBeat} {v1:Int} {v2:Int},Xu x0 m v0 v1 v2=some r→CS (Qt x0 r) Tryz.f258 [1,1,1,0,1,0] [(0,.sl (1,1) 0 (v0.map GBeat.enc).length),(1,.fn 259 []),(5,il v1),(6,il v2)] [rx 1 33 (v0.map GBeat.enc)]:=by
 intro m
 induction m with
 | zero=>intro v0 v1 v2 h;cases h
 | succ m ih=>exact fun {v0} {v1} {v2} h=>itK h (fun g1 h=>bnK h fun a0 ha0 h=>bnK h fun r0 hr0 h=>have p1 {q p} (k:Scr q p):=(lr GBeat.enc v0 (gg g1 (xd GBeat.enc ha0 (rr (Zkn hr0) k))));itK h (fun g2 h=>bnK h fun a1 ha1 h=>bnK h fun y0 hy0 h=>cutX [((1,1),(1,1))] 18 (p1 (gg g2 (xp GBeat.enc ha1 hy0 (tp (.num (y0.map GBeat.enc).length 0 0 []) (ob (setl GBeat.enc hy0) ee))))) (ih h)) fun g2 h=>cutX [((1,1),(1,1))] 16 (p1 (gg g2 (ln GBeat.enc v0 ee))) (ih h)) fun g1 h=>bnK h fun s0 hs0 h=>bnK h fun y1 hy1 h=>bnK h fun s1 hs1 h=>rtK h (lr GBeat.enc v0 (gg g1 (tp (.num (v1:Int).toNat ((v0.length:Int):Int).toNat (((v0.length:Int):Int).toNat - (v1:Int).toNat) []) (kk 1 (tp (.app (y1.map GBeat.enc) true [] 0) (tp (.num (0:Int).toNat (v1:Int).toNat ((v1:Int).toNat - (0:Int).toNat) []) (kk 1 (tp (.mk 0 (s1.map GBeat.enc)) (oe GBeat.enc v0 (ob (sln hs0).1 (ob (lenr GBeat.enc v0) (ob (sll GBeat.enc hs0) (ob (alr 8 GBeat.enc_len v0) (ob (Eq.refl (((v0.length:Int):Int).toNat - (v1:Int).toNat)) (ob (clrl GBeat.enc hy1) (ob (clrr GBeat.enc hy1) (ob (clrs GBeat.enc hy1) (ob (Eq.refl 0) (ob (sln hs1).2 (ob (sll GBeat.enc hs1) (ob (alr 8 GBeat.enc_len y1) (ob (Eq.refl ((v1:Int).toNat - (0:Int).toNat)) (ob (sla GBeat.enc hs1) (ob (slr GBeat.enc hs1) ee))))))))))))))))))))))))
theorem Zcg {x0:List GBeat} {r:List GBeat} (h:Y7 x0=some r):Fine Tryz.prog Mo (Qt x0 r):=
 Zf Tryz.func258 (bnK h fun r1 hr1 h=>have p1 {q p} (k:Scr q p):=(kk 1 (oe GBeat.enc x0 (rr (Zc7 hr1) k)));itK h (fun g1 h=>rtK h (p1 (gg g1 (kk 1 (oe GBeat.enc x0 ee))))) fun g1 h=>cutX [((1,1),(0,0))] 13 (p1 (gg g1 (ln GBeat.enc x0 ee))) (Za5 h))
abbrev Z4r (x0:GBus) (r:List GBeat):Y:=(211,[.rp true (GBus.enc x0) 0],.own 33 (r.map GBeat.enc),[.undef])
theorem Z2j {x0:GBus} {r:List GBeat} (h:Zjy x0=some r):Fine Tryz.prog Mo (Z4r x0 r):=
 Zf Tryz.func211 (bnK h fun r0 hr0 h=>rtK h (kk 1 (ob (show 2=([x0.addr,x0.data_].map GBeat.enc).length from rfl) (rr (Zcg hr0) (kk 1 (oe GBeat.enc r0 ee))))))
abbrev Wq (x0:GBus) (r:Bool):Y:=(145,[.rp true (GBus.enc x0) 0],bl r,[.undef])
theorem Zds {x0:GBus} {r:Bool} {k_L1:(List Int)→(List GBeat)→Int→Int→Option Bool} (i_L1:∀{v0:List Int} {v1:List GBeat} {v2:Int} {v3:Int},k_L1 v0 v1 v2 v3=some r→CS (Wq x0 r) Tryz.f145 [1,1,0,1,0] [(0,.rp true (GBus.enc x0) 0),(3,.sl (1,1) 0 (v0.map encI).length),(18,.sl (1,2) 0 (v1.map GBeat.enc).length),(19,il v2),(20,il v3)] [rx 1 3 (v0.map encI),rx 2 33 (v1.map GBeat.enc)]) {vb0:GBeat} {v0:List Int} {v1:List GBeat} {v2:Int} {v3:Int} {v4:Bool} (h:Wn x0 k_L1 vb0 v0 v1 v2 v3 v4=some r):CS (Wq x0 r) Tryz.f145 [1,1,0,1,0,0,1,1,0,0,1,0,1] [(0,.rp true (GBus.enc x0) 0),(3,.sl (1,2) 0 (v0.map encI).length),(5,.ptr (1,1) 0 0),(18,.sl (1,3) 0 (v1.map GBeat.enc).length),(19,il v2),(20,il v3),(48,bl v4)] [bx 1 (GBeat.enc vb0),rx 2 3 (v0.map encI),rx 3 33 (v1.map GBeat.enc)]:=
 itK h (fun g1 h=>rtK h (gg g1 ee)) fun g1 h=>bnK h fun a0 ha0 h=>bnK h fun y0 hy0 h=>cutX [((1,1),(1,2)),((1,2),(1,3))] 5 (gg g1 (xd encI ha0 (xp encI ha0 hy0 (tp (.num (y0.map encI).length 0 0 []) (ob (setl encI hy0) (ln GBeat.enc v1 ee)))))) (i_L1 h)
theorem Zdy {x0:GBus} {r:Bool} {v5:Bool} (h:Xz x0 v5=some r):CS (Wq x0 r) Tryz.f145 [1,1,1,1,1,1,1,1,0,0,1,1,1,1,1] [(0,.rp true (GBus.enc x0) 0),(9,.ptr (1,1) 0 0),(179,bl v5)] [bx 1 (GBeat.enc x0.data_)]:=
 itK h (fun g1 h=>rtK h (gg g1 ee)) fun g1 h=>itK h (fun g2 h=>rtK h (gg g1 (gg g2 (kk 7 ee)))) fun g2 h=>itK h (fun g3 h=>itK h (fun g4 h=>rtK h (gg g1 (gg g2 (kk 3 (gg g3 (kk 5 (gg g4 (kk 8 ee)))))))) fun g4 h=>rtK h (gg g1 (gg g2 (kk 3 (gg g3 (kk 5 (gg g4 (kk 8 ee)))))))) fun g3 h=>rtK h (gg g1 (gg g2 (kk 3 (gg g3 (kk 14 ee)))))
theorem Zka {x0:GBus} {r:Bool} {vb1:GMst} {v6:Bool} (h:Q3 x0 vb1 v6=some r):CS (Wq x0 r) Tryz.f145 [1,1,1,1,1,1,1,1,0,0,1,1,1] [(0,.rp true (GBus.enc x0) 0),(9,.ptr (1,1) 0 0),(10,.ptr (1,2) 0 0),(165,bl v6)] [bx 1 (GBeat.enc x0.data_),bx 2 (GMst.enc vb1)]:=
 itK h (fun g1 h=>rtK h (gg g1 ee)) fun g1 h=>itK h (fun g2 h=>itK h (fun g3 h=>cutX [((1,1),(1,1))] 3 (gg g1 (gg g2 (kk 2 (gg g3 (kk 9 ee))))) (Zdy h)) fun g3 h=>cutX [((1,1),(1,1))] 3 (gg g1 (gg g2 (kk 2 (gg g3 (kk 9 ee))))) (Zdy h)) fun g2 h=>cutX [((1,1),(1,1))] 3 (gg g1 (gg g2 (kk 4 ee))) (Zdy h)
theorem Zd8 {x0:GBus} {r:Bool} {vb1:GMst} {v7:Bool} (h:Qc x0 vb1 v7=some r):CS (Wq x0 r) Tryz.f145 [1,1,1,1,1,1,1,1,0,0,1] [(0,.rp true (GBus.enc x0) 0),(9,.ptr (1,1) 0 0),(10,.ptr (1,2) 0 0),(141,bl v7)] [bx 1 (GBeat.enc x0.data_),bx 2 (GMst.enc vb1)]:=
 itK h (fun g1 h=>rtK h (gg g1 ee)) fun g1 h=>itK h (fun g2 h=>cutX [((1,1),(1,1)),((1,2),(1,2))] 3 (gg g1 (gg g2 (kk 8 ee))) (Zka h)) fun g2 h=>cutX [((1,1),(1,1)),((1,2),(1,2))] 3 (gg g1 (gg g2 (kk 8 ee))) (Zka h)
theorem X0 {x0:GBus} {r:Bool} {v8:Bool} (h:Yg x0 v8=some r):CS (Wq x0 r) Tryz.f145 [1,1,1,1,0,1,1] [(0,.rp true (GBus.enc x0) 0),(122,bl v8)] []:=
 itK h (fun g1 h=>rtK h (gg g1 ee)) fun g1 h=>itK h (fun g2 h=>rtK h (gg g1 (gg g2 ee))) fun g2 h=>bnK h fun a1 ha1 h=>have p1 {q p} (k:Scr q p):=(gg g1 (gg g2 (xb GMst.enc ha1 k)));itK h (fun g3 h=>cutX [((1,1),(2,4096)),((1,2),(4,8192))] 15 (p1 (gg g3 (kk 15 ee))) (Zd8 h)) fun g3 h=>bnK h fun r0 hr0 h=>itK h (fun g4 h=>cutX [((1,1),(2,4096)),((1,2),(4,8192))] 15 (p1 (gg g3 (kk 8 (rr (Zn hr0) (kk 2 (gg g4 (kk 4 ee))))))) (Zd8 h)) fun g4 h=>bnK h fun r1 hr1 h=>cutX [((1,1),(2,4096)),((1,2),(4,8192))] 15 (p1 (gg g3 (kk 8 (rr (Zn hr0) (kk 2 (gg g4 (kk 2 (rr (Zn hr1) (kk 2 ee))))))))) (Zd8 h)
theorem Zsl {x0:GBus} {r:Bool}:∀{m:Nat} {v0:List Int} {v9:Int},Q4 x0 m v0 v9=some r→CS (Wq x0 r) Tryz.f145 [1,1,1,0,1,0] [(0,.rp true (GBus.enc x0) 0),(3,.sl (1,1) 0 (v0.map encI).length),(60,.tr (x0.m.map GMst.enc)),(61,il (x0.m.length:Int)),(62,il v9)] [rx 1 3 (v0.map encI)]:=by
 intro m
 induction m with
 | zero=>intro v0 v9 h;cases h
 | succ m ih=>exact fun {v0} {v9} h=>itK h (fun g1 h=>bnK h fun a2 ha2 h=>bnK h fun a3 ha3 h=>itK h (fun g2 h=>rtK h (gg g1 (xb GMst.enc ha2 (xd encI ha3 (gg g2 ee))))) fun g2 h=>cutX [((1,1),(1,1))] 16 (gg g1 (xb GMst.enc ha2 (xd encI ha3 (gg g2 (ln encI v0 ee))))) (ih h)) fun g1 h=>itK h (fun g2 h=>bnK h fun a4 ha4 h=>have p1 {q p} (k:Scr q p):=(gg g1 (gg g2 (kk 8 (xb GMst.enc ha4 (kk 5 k)))));itK h (fun g3 h=>cutX [] 14 (p1 (gg g3 (kk 22 ee))) (X0 h)) fun g3 h=>itK h (fun g4 h=>cutX [] 14 (p1 (gg g3 (kk 5 (gg g4 (kk 16 ee))))) (X0 h)) fun g4 h=>have p2 {q p} (k:Scr q p):=(p1 (gg g3 (kk 5 (gg g4 (kk 5 k)))));itK h (fun g5 h=>cutX [] 14 (p2 (gg g5 (kk 10 ee))) (X0 h)) fun g5 h=>itK h (fun g6 h=>cutX [] 14 (p2 (gg g5 (kk 4 (gg g6 (kk 5 ee))))) (X0 h)) fun g6 h=>itK h (fun g7 h=>cutX [] 14 (p2 (gg g5 (kk 4 (gg g6 (kk 3 (gg g7 (kk 5 ee))))))) (X0 h)) fun g7 h=>cutX [] 14 (p2 (gg g5 (kk 4 (gg g6 (kk 3 (gg g7 (kk 5 ee))))))) (X0 h)) fun g2 h=>itK h (fun g3 h=>cutX [] 14 (gg g1 (gg g2 (kk 23 (gg g3 (kk 5 ee))))) (X0 h)) fun g3 h=>cutX [] 14 (gg g1 (gg g2 (kk 23 (gg g3 (kk 5 ee))))) (X0 h)
theorem Zrw {x0:GBus} {r:Bool}:∀{m:Nat} {v0:List Int} {v1:List GBeat} {v2:Int} {v3:Int},J1 x0 m v0 v1 v2 v3=some r→CS (Wq x0 r) Tryz.f145 [1,1,0,1,0] [(0,.rp true (GBus.enc x0) 0),(3,.sl (1,1) 0 (v0.map encI).length),(18,.sl (1,2) 0 (v1.map GBeat.enc).length),(19,il v2),(20,il v3)] [rx 1 3 (v0.map encI),rx 2 33 (v1.map GBeat.enc)]:=by
 intro m
 induction m with
 | zero=>intro v0 v1 v2 v3 h;cases h
 | succ m ih=>exact fun {v0} {v1} {v2} {v3} h=>itK h (fun g1 h=>bnK h fun a5 ha5 h=>bnK h fun r2 hr2 h=>have p1 {q p} (k:Scr q p):=(gg g1 (xd GBeat.enc ha5 (rr (Q9 hr2) k)));itK h (fun g2 h=>cutX [((1,1),(3,2048)),((1,2),(1,1)),((1,3),(1,2))] 13 (p1 (gg g2 (kk 14 (ln encI v0 (ln GBeat.enc v1 ee))))) (Zds ih h)) fun g2 h=>bnK h fun r3 hr3 h=>itK h (fun g3 h=>cutX [((1,1),(3,2048)),((1,2),(1,1)),((1,3),(1,2))] 13 (p1 (gg g2 (kk 2 (rr (Zn hr3) (kk 2 (gg g3 (kk 9 (ln encI v0 (ln GBeat.enc v1 ee))))))))) (Zds ih h)) fun g3 h=>bnK h fun a6 ha6 h=>cutX [((1,1),(3,2048)),((1,2),(1,1)),((1,3),(1,2))] 13 (p1 (gg g2 (kk 2 (rr (Zn hr3) (kk 2 (gg g3 (kk 6 (xb encI ha6 (kk 3 (ln encI v0 (ln GBeat.enc v1 ee))))))))))) (Zds ih h)) fun g1 h=>cutX [((1,1),(1,1))] 13 (gg g1 (lr GMst.enc x0.m (ln encI v0 ee))) (Zsl h)
theorem Zn8 {x0:GBus} {r:Bool} (h:Kt x0=some r):Fine Tryz.prog Mo (Wq x0 r):=
 Zf Tryz.func145 (bnK h fun m0 hm0 h=>bnK h fun r4 hr4 h=>cutX [((1,1),(2,5120)),((1,2),(3,1024))] 8 (lr GMst.enc x0.m (tp (.mk ((x0.m.length:Int):Int).toNat (m0.map encI)) (ob (mkn hm0) (ob (mkn hm0) (ob (mkl hm0) (ob (mkr encI hm0) (rr (Z2j hr4) (lr GBeat.enc r4 (ln encI m0 (ln GBeat.enc r4 ee)))))))))) (Zrw h))
abbrev Ycp (x0:GMst) (r:Bool):Y:=(212,[.agg (GMst.enc x0)],bl r,[.undef])
theorem Zp7 {x0:GMst} {r:Bool} (h:Zix x0=some r):Fine Tryz.prog Mo (Ycp x0 r):=
 Zf Tryz.func212 (itK h (fun g1 h=>bnK h fun a0 ha0 h=>itK h (fun g2 h=>rtK h (lr GReq.enc x0.queue (gg g1 (kk 2 (xb GReq.enc ha0 (kk 3 (gg g2 (kk 3 ee)))))))) fun g2 h=>rtK h (lr GReq.enc x0.queue (gg g1 (kk 2 (xb GReq.enc ha0 (kk 3 (gg g2 (kk 3 ee)))))))) fun g1 h=>rtK h (lr GReq.enc x0.queue (gg g1 (kk 9 ee))))
abbrev Zq3 (x0:GBus) (r:Bool):Y:=(146,[.rp true (GBus.enc x0) 0],bl r,[.undef])
theorem Zux {x0:GBus} {r:Bool}:∀{m:Nat} {v0:Int},Zf1 x0 m v0=some r→CS (Zq3 x0 r) Tryz.f146 [1,0,1,0] [(0,.rp true (GBus.enc x0) 0),(8,.tr (x0.m.map GMst.enc)),(9,il (x0.m.length:Int)),(10,il v0)] []:=by
 intro m
 induction m with
 | zero=>intro v0 h;cases h
 | succ m ih=>exact fun {v0} h=>itK h (fun g1 h=>bnK h fun a0 ha0 h=>have p1 {q p} (k:Scr q p):=(gg g1 (xb GMst.enc ha0 k));itK h (fun g2 h=>bnK h fun r0 hr0 h=>have p2 {q p} (k:Scr q p):=(p1 (gg g2 (kk 1 (rr (Zp7 hr0) (kk 1 k)))));itK h (fun g3 h=>itK h (fun g4 h=>rtK h (p2 (gg g3 (kk 6 (gg g4 ee))))) fun g4 h=>cutX [] 16 (p2 (gg g3 (kk 6 (gg g4 ee)))) (ih h)) fun g3 h=>cutX [] 16 (p2 (gg g3 (kk 7 ee))) (ih h)) fun g2 h=>cutX [] 16 (p1 (gg g2 (kk 10 ee))) (ih h)) fun g1 h=>itK h (fun g2 h=>rtK h (gg g1 (gg g2 ee))) fun g2 h=>bnK h fun r1 hr1 h=>have p3 {q p} (k:Scr q p):=(gg g1 (gg g2 (rr (Q9 hr1) k)));itK h (fun g3 h=>bnK h fun a1 ha1 h=>bnK h fun r2 hr2 h=>have p4 {q p} (k:Scr q p):=(p3 (gg g3 (kk 8 (xb GMst.enc ha1 (kk 2 (rr (Zp7 hr2) (kk 1 k)))))));itK h (fun g4 h=>bnK h fun a2 ha2 h=>itK h (fun g5 h=>bnK h fun r3 hr3 h=>rtK h (p4 (gg g4 (kk 8 (xb encI ha2 (kk 3 (gg g5 (kk 9 (rr (Zn hr3) (kk 1 ee)))))))))) fun g5 h=>rtK h (p4 (gg g4 (kk 8 (xb encI ha2 (kk 3 (gg g5 (kk 10 ee)))))))) fun g4 h=>rtK h (p4 (gg g4 (kk 22 ee)))) fun g3 h=>rtK h (p3 (gg g3 (kk 34 ee)))
theorem Zgu {x0:GBus} {r:Bool} (h:Zah x0=some r):Fine Tryz.prog Mo (Zq3 x0 r):=
 Zf Tryz.func146 (cutX [] 6 (lr GMst.enc x0.m ee) (Zux h))
abbrev Zov (x0:GBus) (r:Bool):Y:=(147,[.rp true (GBus.enc x0) 0],bl r,[.undef])
theorem Zsa {x0:GBus} {r:Bool}:∀{m:Nat} {v0:Int} {v1:Int},Jy x0 m v0 v1=some r→CS (Zov x0 r) Tryz.f147 [1,1,0,1,0] [(0,.rp true (GBus.enc x0) 0),(3,il v0),(9,.tr (x0.log.map GDone.enc)),(10,il (x0.log.length:Int)),(11,il v1)] []:=by
 intro m
 induction m with
 | zero=>intro v0 v1 h;cases h
 | succ m ih=>exact fun {v0} {v1} h=>itK h (fun g1 h=>bnK h fun a0 ha0 h=>have p1 {q p} (k:Scr q p):=(gg g1 (xb GDone.enc ha0 k));itK h (fun g2 h=>rtK h (p1 (gg g2 (kk 41 ee)))) fun g2 h=>have p2 {q p} (k:Scr q p):=(p1 (gg g2 (kk 7 k)));itK h (fun g3 h=>rtK h (p2 (gg g3 (kk 33 ee)))) fun g3 h=>bnK h fun r0 hr0 h=>have p3 {q p} (k:Scr q p):=(p2 (gg g3 (kk 6 (rr (Q9 hr0) (kk 2 k)))));itK h (fun g4 h=>rtK h (p3 (gg g4 (kk 24 ee)))) fun g4 h=>bnK h fun r1 hr1 h=>have p4 {q p} (k:Scr q p):=(p3 (gg g4 (kk 4 (rr (Zb7 hr1) (kk 2 k)))));itK h (fun g5 h=>rtK h (p4 (gg g5 (kk 17 ee)))) fun g5 h=>itK h (fun g6 h=>rtK h (p4 (gg g5 (kk 3 (gg g6 (kk 13 ee)))))) fun g6 h=>bnK h fun r2 hr2 h=>have p5 {q p} (k:Scr q p):=(p4 (gg g5 (kk 3 (gg g6 (kk 4 (rr (Zf7 hr2) (kk 2 k)))))));itK h (fun g7 h=>rtK h (p5 (gg g7 (kk 6 ee)))) fun g7 h=>itK h (fun g8 h=>itK h (fun g9 h=>rtK h (p5 (gg g7 (kk 3 (gg g8 (kk 5 (gg g9 ee))))))) fun g9 h=>cutX [] 18 (p5 (gg g7 (kk 3 (gg g8 (kk 5 (gg g9 ee)))))) (ih h)) fun g8 h=>cutX [] 18 (p5 (gg g7 (kk 3 (gg g8 (kk 6 ee))))) (ih h)) fun g1 h=>rtK h (gg g1 ee)
theorem Zor {x0:GBus} {r:Bool} (h:Kr x0=some r):Fine Tryz.prog Mo (Zov x0 r):=
 Zf Tryz.func147 (cutX [] 8 (lr GDone.enc x0.log ee) (Zsa h))
abbrev Ybi (x0:GBus) (r:Bool):Y:=(73,[.agg (GBus.enc x0)],bl r,[.undef])
theorem Z02 {x0:GBus} {r:Bool} (h:Zi2 x0=some r):Fine Tryz.prog Mo (Ybi x0 r):=
 Zf Tryz.func73 (bnK h fun r0 hr0 h=>have p1 {q p} (k:Scr q p):=(rr (Qb hr0) k);itK h (fun g1 h=>bnK h fun r1 hr1 h=>have p2 {q p} (k:Scr q p):=(p1 (gg g1 (kk 2 (rr (Zn hr1) (kk 1 k)))));itK h (fun g2 h=>bnK h fun r2 hr2 h=>have p3 {q p} (k:Scr q p):=(p2 (gg g2 (rr (Zun hr2) (kk 1 k))));itK h (fun g3 h=>bnK h fun r3 hr3 h=>have p4 {q p} (k:Scr q p):=(p3 (gg g3 (kk 4 (rr (Zme hr3) (kk 1 k)))));itK h (fun g4 h=>have p5 {q p} (k:Scr q p):=(p4 (gg g4 (kk 3 k)));itK h (fun g5 h=>bnK h fun r4 hr4 h=>have p6 {q p} (k:Scr q p):=(p5 (gg g5 (kk 10 (rr (Zqc hr4) (kk 1 k)))));itK h (fun g6 h=>bnK h fun r5 hr5 h=>have p7 {q p} (k:Scr q p):=(p6 (gg g6 (kk 4 (rr (Zn hr5) (kk 1 k)))));itK h (fun g7 h=>bnK h fun r6 hr6 h=>have p8 {q p} (k:Scr q p):=(p7 (gg g7 (rr (Zn8 hr6) (kk 1 k))));itK h (fun g8 h=>bnK h fun r7 hr7 h=>itK h (fun g9 h=>bnK h fun r8 hr8 h=>rtK h (p8 (gg g8 (rr (Zgu hr7) (kk 1 (gg g9 (rr (Zor hr8) (kk 1 ee)))))))) fun g9 h=>rtK h (p8 (gg g8 (rr (Zgu hr7) (kk 1 (gg g9 (kk 1 ee))))))) fun g8 h=>rtK h (p8 (gg g8 (kk 3 ee)))) fun g7 h=>rtK h (p7 (gg g7 (kk 5 ee)))) fun g6 h=>rtK h (p6 (gg g6 (kk 11 ee)))) fun g5 h=>bnK h fun r9 hr9 h=>have p9 {q p} (k:Scr q p):=(p5 (gg g5 (kk 4 (rr (Q9 hr9) (kk 3 k)))));itK h (fun g6 h=>bnK h fun r4 hr4 h=>have p10 {q p} (k:Scr q p):=(p9 (gg g6 (kk 2 (rr (Zqc hr4) (kk 1 k)))));itK h (fun g7 h=>bnK h fun r5 hr5 h=>have p11 {q p} (k:Scr q p):=(p10 (gg g7 (kk 4 (rr (Zn hr5) (kk 1 k)))));itK h (fun g8 h=>bnK h fun r6 hr6 h=>have p12 {q p} (k:Scr q p):=(p11 (gg g8 (rr (Zn8 hr6) (kk 1 k))));itK h (fun g9 h=>bnK h fun r7 hr7 h=>itK h (fun g10 h=>bnK h fun r8 hr8 h=>rtK h (p12 (gg g9 (rr (Zgu hr7) (kk 1 (gg g10 (rr (Zor hr8) (kk 1 ee)))))))) fun g10 h=>rtK h (p12 (gg g9 (rr (Zgu hr7) (kk 1 (gg g10 (kk 1 ee))))))) fun g9 h=>rtK h (p12 (gg g9 (kk 3 ee)))) fun g8 h=>rtK h (p11 (gg g8 (kk 5 ee)))) fun g7 h=>rtK h (p10 (gg g7 (kk 11 ee)))) fun g6 h=>rtK h (p9 (gg g6 (kk 15 ee)))) fun g4 h=>rtK h (p4 (gg g4 (kk 21 ee)))) fun g3 h=>rtK h (p3 (gg g3 (kk 27 ee)))) fun g2 h=>rtK h (p2 (gg g2 (kk 29 ee)))) fun g1 h=>rtK h (p1 (gg g1 (kk 33 ee))))
abbrev Zvm (x0:GMst) (x1:Int) (r:Int):Y:=(148,[.agg (GMst.enc x0),il x1],il r,[.undef,.undef])
theorem Zo9 {x0:GMst} {x1:Int} {r:Int} {v0:Bool} (h:Zfc x0 x1 v0=some r):CS (Zvm x0 x1 r) Tryz.f148 [1,0,1] [(1,il x1),(2,.ptr (1,1) 0 0),(15,bl v0)] [bx 1 (GMst.enc x0)]:=
 itK h (fun g1 h=>rtK h (gg g1 ee)) fun g1 h=>bnK h fun a0 ha0 h=>bnK h fun r0 hr0 h=>bnK h fun a1 ha1 h=>rtK h (gg g1 (xb GReq.enc ha0 (rr (Zq0 hr0) (xd encI ha1 ee))))
theorem Zca {x0:GMst} {x1:Int} {r:Int} (h:J5 x0 x1=some r):Fine Tryz.prog Mo (Zvm x0 x1 r):=
 Zf Tryz.func148 (bnK h fun r1 hr1 h=>itK h (fun g1 h=>cutX [((1,1),(1,0))] 5 (rr (X4 hr1) (gg g1 (kk 5 ee))) (Zo9 h)) fun g1 h=>bnK h fun r2 hr2 h=>bnK h fun r3 hr3 h=>cutX [((1,1),(1,0))] 5 (rr (X4 hr1) (gg g1 (kk 1 (rr (Jq hr2) (kk 2 (rr (Zn hr3) (kk 2 ee))))))) (Zo9 h))
abbrev Zvw (x0:GScript) (x1:Int) (r:List GPost):Y:=(149,[.agg (GScript.enc x0),il x1],.own 74 (r.map GPost.enc),[.undef,.undef])
theorem Zw3 {x0:GScript} {x1:Int} {r:List GPost}:∀{m:Nat} {v0:List GPost} {v1:Int},Ze9 x0 x1 m v0 v1=some r→CS (Zvw x0 x1 r) Tryz.f149 [1,1,0,1,0] [(1,il x1),(5,.sl (1,1) 0 (v0.map GPost.enc).length),(10,.tr (x0.posts.map GPost.enc)),(11,il (x0.posts.length:Int)),(12,il v1)] [rx 1 74 (v0.map GPost.enc)]:=by
 intro m
 induction m with
 | zero=>intro v0 v1 h;cases h
 | succ m ih=>exact fun {v0} {v1} h=>itK h (fun g1 h=>bnK h fun a0 ha0 h=>itK h (fun g2 h=>bnK h fun r0 hr0 h=>bnK h fun z0 hz0 h=>cutX [((1,1),(6,3072))] 18 (gg g1 (xb GPost.enc ha0 (gg g2 (rr (Zsf hr0) (kk 1 (ta GPost.enc [{a0 with req:=r0}] z0 (kk 1 (oe encI r0.data_ (oa 8 GPost.enc_len {a0 with req:=r0} (ox GPost.enc hz0 (ln GPost.enc z0 (oe GPost.enc z0 ee)))))))))))) (ih h)) fun g2 h=>cutX [((1,1),(1,1))] 16 (gg g1 (xb GPost.enc ha0 (gg g2 (ln GPost.enc v0 ee)))) (ih h)) fun g1 h=>rtK h (gg g1 (kk 1 (oe GPost.enc v0 ee)))
theorem Z45 {x0:GScript} {x1:Int} {r:List GPost} (h:Zll x0 x1=some r):Fine Tryz.prog Mo (Zvw x0 x1 r):=
 Zf Tryz.func149 (cutX [((1,1),(2,0))] 8 (lr GPost.enc x0.posts (tp (.num ([].map GPost.enc).length 0 0 []) (ob (show 0=([].map GPost.enc).length from rfl) ee))) (Zw3 h))
abbrev Zvd (x0:GMst) (x1:GReq) (r:GMst×Bool):Y:=(150,[.agg (GMst.enc x0),.agg (GReq.enc x1)],.tup [.agg [.own 72 (r.1.queue.map GReq.enc),il r.1.beat,il r.1.done,il r.1.tries,bl r.1.parted,bl r.1.broken],bl r.2],[.undef,.undef])
theorem Zj3 {x0:GMst} {x1:GReq} {r:GMst×Bool} {vb0:GMst} {v0:Bool} (h:Zbk x0 x1 vb0 v0=some r):CS (Zvd x0 x1 r) Tryz.f150 [1,1,0,1] [(3,.ptr (1,1) 0 0),(4,.ptr (1,2) 0 0),(6,.ptr (1,4) 0 0),(22,bl v0)] [bx 1 (GReq.enc x1),rx 3 72 ([].map GReq.enc),bx 2 [.sl (1,3) 0 ([].map GReq.enc).length,il 0,il 0,il 0,bl false,bl false],rx 5 72 (vb0.queue.map GReq.enc),bx 4 [.sl (1,5) 0 (vb0.queue.map GReq.enc).length,il vb0.beat,il vb0.done,il vb0.tries,bl vb0.parted,bl vb0.broken]]:=
 itK h (fun g1 h=>rtK h (gg g1 (kk 1 (oe GReq.enc vb0.queue ee)))) fun g1 h=>bnK h fun r0 hr0 h=>bnK h fun z0 hz0 h=>rtK h (gg g1 (rr (Zsf hr0) (kk 1 (ta GReq.enc [r0] z0 (kk 2 (oe encI r0.data_ (oa 6 GReq.enc_len r0 (ox GReq.enc hz0 (oe GReq.enc z0 (oe GReq.enc z0 ee))))))))))
theorem Z44 {x0:GMst} {x1:GReq} {r:GMst×Bool} (h:Zk1 x0 x1=some r):Fine Tryz.prog Mo (Zvd x0 x1 r):=
 Zf Tryz.func150 (bnK h fun r1 hr1 h=>bnK h fun r2 hr2 h=>have p1 {q p} (k:Scr q p):=(rr (Zbw hr1) (rr (X4 hr2) k));itK h (fun g1 h=>cutX [((1,1),(1,1024)),((1,2),(1,2048)),((1,4),(2,2048)),((1,5),(2,1024))] 7 (p1 (gg g1 (kk 8 (ln GReq.enc r1.queue ee)))) (Zj3 h)) fun g1 h=>bnK h fun r3 hr3 h=>itK h (fun g2 h=>cutX [((1,1),(1,1024)),((1,2),(1,2048)),((1,4),(2,2048)),((1,5),(2,1024))] 7 (p1 (gg g1 (kk 1 (rr (Zgk hr3) (kk 2 (gg g2 (kk 4 (ln GReq.enc r1.queue ee)))))))) (Zj3 h)) fun g2 h=>cutX [((1,1),(1,1024)),((1,2),(1,2048)),((1,4),(2,2048)),((1,5),(2,1024))] 7 (p1 (gg g1 (kk 1 (rr (Zgk hr3) (kk 2 (gg g2 (kk 2 (lr GReq.enc x0.queue (kk 2 (ln GReq.enc r1.queue ee)))))))))) (Zj3 h))
abbrev Z9w (x0:GBucket) (x1:GMConf) (r:Bool):Y:=(216,[.agg (GBucket.enc x0),.agg (GMConf.enc x1)],bl r,[.undef,.undef])
theorem Zb2 {x0:GBucket} {x1:GMConf} {r:Bool} (h:Zgz x0 x1=some r):Fine Tryz.prog Mo (Z9w x0 x1 r):=
 Zf Tryz.func216 (itK h (fun g1 h=>bnK h fun r0 hr0 h=>rtK h (gg g1 (kk 2 (rr (Ztc hr0) (kk 1 ee))))) fun g1 h=>rtK h (gg g1 (kk 3 ee)))
abbrev Zzt (x0:GBucket) (x1:GMConf) (r:GBucket):Y:=(151,[.agg (GBucket.enc x0),.agg (GMConf.enc x1)],.agg (GBucket.enc r),[.undef,.undef])
theorem Zzh {x0:GBucket} {x1:GMConf} {r:GBucket} (h:Zhg x0 x1=some r):Fine Tryz.prog Mo (Zzt x0 x1 r):=
 Zf Tryz.func151 (bnK h fun r0 hr0 h=>itK h (fun g1 h=>rtK h (rr (Zb2 hr0) (gg g1 ee))) fun g1 h=>itK h (fun g2 h=>rtK h (rr (Zb2 hr0) (gg g1 (gg g2 ee)))) fun g2 h=>rtK h (rr (Zb2 hr0) (gg g1 (gg g2 ee))))
abbrev Zvg (x0:GMst) (r:GMst×Bool):Y:=(261,[.agg (GMst.enc x0)],.tup [.agg [.own 72 (r.1.queue.map GReq.enc),il r.1.beat,il r.1.done,il r.1.tries,bl r.1.parted,bl r.1.broken],bl r.2],[.undef])
theorem Zpa {x0:GMst} {r:GMst×Bool} {vb0:GMst} {v0:Bool} (h:Ze8 x0 vb0 v0=some r):CS (Zvg x0 r) Tryz.f261 [1,1,0,1] [(2,.ptr (1,1) 0 0),(4,.ptr (1,3) 0 0),(16,bl v0)] [rx 2 72 ([].map GReq.enc),bx 1 [.sl (1,2) 0 ([].map GReq.enc).length,il 0,il 0,il 0,bl false,bl false],rx 4 72 (vb0.queue.map GReq.enc),bx 3 [.sl (1,4) 0 (vb0.queue.map GReq.enc).length,il vb0.beat,il vb0.done,il vb0.tries,bl vb0.parted,bl vb0.broken]]:=
 itK h (fun g1 h=>rtK h (gg g1 (kk 1 (oe GReq.enc vb0.queue ee)))) fun g1 h=>rtK h (gg g1 (kk 1 (oe GReq.enc vb0.queue ee)))
theorem Z65 {x0:GMst} {r:GMst×Bool} (h:Zlj x0=some r):Fine Tryz.prog Mo (Zvg x0 r):=
 Zf Tryz.func261 (bnK h fun r0 hr0 h=>bnK h fun r1 hr1 h=>itK h (fun g1 h=>cutX [((1,1),(1,1024)),((1,3),(2,2048)),((1,4),(2,1024))] 7 (rr (Zbw hr0) (rr (X4 hr1) (gg g1 (kk 5 (ln GReq.enc r0.queue ee))))) (Zpa h)) fun g1 h=>cutX [((1,1),(1,1024)),((1,3),(2,2048)),((1,4),(2,1024))] 7 (rr (Zbw hr0) (rr (X4 hr1) (gg g1 (kk 5 (ln GReq.enc r0.queue ee))))) (Zpa h))
abbrev Zzw (x0:GBucket) (x1:GMConf) (r:GBucket):Y:=(262,[.agg (GBucket.enc x0),.agg (GMConf.enc x1)],.agg (GBucket.enc r),[.undef,.undef])
theorem Zz4 {x0:GBucket} {x1:GMConf} {r:GBucket} (h:Zhb x0 x1=some r):Fine Tryz.prog Mo (Zzw x0 x1 r):=
 Zf Tryz.func262 (bnK h fun r0 hr0 h=>itK h (fun g1 h=>itK h (fun g2 h=>rtK h (rr (Zb2 hr0) (gg g1 (kk 5 (gg g2 ee))))) fun g2 h=>rtK h (rr (Zb2 hr0) (gg g1 (kk 5 (gg g2 ee))))) fun g1 h=>rtK h (rr (Zb2 hr0) (gg g1 (kk 6 ee))))
abbrev Zvs (x0:GWrr) (x1:GConf) (x2:Int) (r:GWrr):Y:=(263,[.agg (GWrr.enc x0),.agg (GConf.enc x1),il x2],.agg (GWrr.enc r),[.undef,.undef,.undef])
theorem Zpj {x0:GWrr} {x1:GConf} {x2:Int} {r:GWrr} {v0:Bool} (h:Ze7 x0 x1 x2 v0=some r):CS (Zvs x0 x1 x2 r) Tryz.f263 [1,0,1] [(2,il x2),(3,.ptr (1,1) 0 0),(4,.ptr (1,2) 0 0),(6,.ptr (1,3) 0 0),(15,bl v0)] [bx 1 (GWrr.enc x0),bx 2 (GConf.enc x1),bx 3 (GWrr.enc GWrr.z0)]:=
 itK h (fun g1 h=>bnK h fun r0 hr0 h=>rtK h (gg g1 (rr (Znk hr0) ee))) fun g1 h=>rtK h (gg g1 ee)
theorem Z6o {x0:GWrr} {x1:GConf} {x2:Int} {r:GWrr} (h:Zlb x0 x1 x2=some r):Fine Tryz.prog Mo (Zvs x0 x1 x2 r):=
 Zf Tryz.func263 (bnK h fun r1 hr1 h=>itK h (fun g1 h=>cutX [((1,1),(1,0)),((1,2),(1,1024)),((1,3),(1,2048))] 5 (rr (Zme hr1) (gg g1 (kk 4 ee))) (Zpj h)) fun g1 h=>cutX [((1,1),(1,0)),((1,2),(1,1024)),((1,3),(1,2048))] 5 (rr (Zme hr1) (gg g1 (kk 4 ee))) (Zpj h))
abbrev Zzs (x0:GBus) (x1:GBeat) (r:GBus):Y:=(217,[.agg (GBus.ow x0),.agg (GBeat.enc x1)],.tup [],[.agg (GBus.ow r),.undef])
theorem Zkr {x0:GBus} {x1:GBeat} {r:GBus} (h:Zae x0 x1=some r):Fine Tryz.prog Mo (Zzs x0 x1 r):=
 Zf Tryz.func217 (bnK h fun a0 ha0 h=>bnK h fun r0 hr0 h=>bnK h fun y0 hy0 h=>have p1 {q p} (k:Scr q p):=(xd GMst.enc ha0 (rr (Z65 hr0) (xq GMst.enc ha0 y0 (kk 1 (oe GReq.enc r0.1.queue (ob (seto GMst.enc hy0) k))))));itK h (fun g1 h=>bnK h fun a1 ha1 h=>bnK h fun a2 ha2 h=>bnK h fun r1 hr1 h=>bnK h fun y1 hy1 h=>rtK h (p1 (gg g1 (xd GBucket.enc ha1 (xd GMConf.enc ha2 (rr (Zz4 hr1) (xp GBucket.enc ha1 hy1 (kk 8 (oe GMConf.enc x0.conf.masters (ob (setl GMst.enc hy0) (ob (setl GBucket.enc hy1) (oe encI x0.splits (GModel.so x0.model (oe GDone.enc x0.log ee)))))))))))))) fun g1 h=>itK h (fun g2 h=>bnK h fun r2 hr2 h=>rtK h (p1 (gg g1 (gg g2 (kk 1 (oe GMConf.enc x0.conf.masters (rr (Z6o hr2) (kk 8 (oe GMConf.enc x0.conf.masters (ob (setl GMst.enc hy0) (oe GBucket.enc x0.buckets (oe encI x0.splits (GModel.so x0.model (oe GDone.enc x0.log ee)))))))))))))) fun g2 h=>rtK h (p1 (gg g1 (gg g2 (kk 8 (oe GMConf.enc x0.conf.masters (ob (setl GMst.enc hy0) (oe GBucket.enc x0.buckets (oe encI x0.splits (GModel.so x0.model (oe GDone.enc x0.log ee)))))))))))
abbrev Zv7 (x0:List Int) (x1:Int) (r:Int):Y:=(264,[.tr (x0.map encI),il x1],il r,[.undef,.undef])
theorem Zpp {x0:List Int} {x1:Int} {r:Int} {v0:Bool} (h:Zfk x0 x1 v0=some r):CS (Zv7 x0 x1 r) Tryz.f264 [1,0,1] [(0,.tr (x0.map encI)),(1,il x1),(11,bl v0)] []:=
 itK h (fun g1 h=>rtK h (gg g1 ee)) fun g1 h=>bnK h fun n0 hn0 h=>bnK h fun a0 ha0 h=>rtK h (gg g1 (lr encI x0 (tp (.obl) (ob (nz0 hn0) (xb encI ha0 ee)))))
theorem Zh1 {x0:List Int} {x1:Int} {r:Int} (h:Zez x0 x1=some r):Fine Tryz.prog Mo (Zv7 x0 x1 r):=
 Zf Tryz.func264 (itK h (fun g1 h=>cutX [] 5 (lr encI x0 (gg g1 (kk 2 ee))) (Zpp h)) fun g1 h=>cutX [] 5 (lr encI x0 (gg g1 (kk 2 ee))) (Zpp h))
abbrev Z49 (x0:GConf) (x1:GScript) (x2:Int) (r:Int):Y:=(218,[.agg (GConf.enc x0),.agg (GScript.enc x1),il x2],il r,[.undef,.undef,.undef])
theorem Z61 {x0:GConf} {x1:GScript} {x2:Int} {r:Int} (h:Zlg x0 x1 x2=some r):Fine Tryz.prog Mo (Z49 x0 x1 x2 r):=
 Zf Tryz.func218 (bnK h fun r0 hr0 h=>rtK h (rr (Zh1 hr0) ee))
abbrev Z0a (x0:GMst) (x1:Int) (r:Int):Y:=(266,[.rp true (GMst.enc x0) 0,il x1],il r,[.undef,.undef])
end Go.Proofs.YtciimjnpdmmfnaaGreat.Ev
