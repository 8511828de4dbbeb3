/- A part of the proof of FnExactFinished: see the text YtgmmcfpabnoekaaLawFnExactFinished for what is proved and its conditions. Conditions here: those in each line. -/
import Derived.Test.YtgmmcfpabnoekaaA3
namespace Go.Proofs.Ytgmmcfpabnoekaa.Ev
open Go Go.Proofs
set_option linter.unusedVariables false
set_option linter.unusedSimpArgs false
set_option linter.unusedSectionVars false
variable [Anchor]
def Mo:Hints:=⟨fun f=>(List.lookup f [(41,[.mv,.rd])]).getD [],fun _=>false⟩
abbrev Y:=FuncId×List V×V×List V
abbrev RF (fn:Func) (y:Y):Ex→St→Prop:=RetC Try.prog Mo y.1 fn y.2.1 y.2.2
theorem Zib {P:Program} (hm:P.follows .mixedOrders=true) (h:P.funcs.toList.all (fun fn=>(match fn.body with|some c=>Z6 fn.ntmps c|none=>true)&&!(fn.name == "runtime.NumGoroutine"))=true):FuncsOk P:=by
 rw[List.all_eq_true] at h
 refine⟨hm,fun f fn c hf hc=>?_,fun f fn hf=>?_⟩
 ·have:=h fn (Array.mem_toList_iff.2 (Array.mem_of_getElem? hf))
  rw[hc] at this
  simp only[Bool.and_eq_true] at this
  exact this.1
 ·have:=h fn (Array.mem_toList_iff.2 (Array.mem_of_getElem? hf))
  simp only[Bool.and_eq_true,Bool.not_eq_true'] at this
  exact this.2
theorem fOk:FuncsOk Try.prog:=Zib (by kernel_rfl) (by kernel_rfl)
theorem bnK {α β:Type} {x:Option α} {f:α→Option β} {b:β} {G:Prop} (h:x.bind f=some b) (k:∀a,x=some a→f a=some b→G):G:=by
 obtain⟨a,h1,h2⟩:=Zkx h;exact k a h1 h2
theorem itK {β:Type} {t:Bool} {x y:Option β} {b:β} {G:Prop} (h:(if t=true then x else y)=some b) (k1:t=true→x=some b→G) (k2:t=false→y=some b→G):G:=by
 rcases Zl4 h with⟨h1,h2⟩|⟨h1,h2⟩
 ·exact k1 h1 h2
 ·exact k2 h1 h2
theorem rtQ {α:Type} {F:α→Y} {fn:Func} {a r:α} {p:Prop} {stk:List It} {s:St} (h:some a=some r) (q:List O) (hp:p) (e:told (runK Try.prog Mo (F a).1 fn (F a).2.1 100000 stk s q)=some (p,(F a).2.2):=by kernel_rfl):SX Try.prog (RF fn (F r)) stk .normal s:=by
 cases h;exact Zg1 fOk 100000 q hp e
theorem rtK {α:Type} {F:α→Y} {fn:Func} {a r:α} {p:Prop} {stk:List It} {s:St} {q:List O} (h:some a=some r) (hp:Scr q p) (e:told (runK Try.prog Mo (F a).1 fn (F a).2.1 100000 stk s q)=some (p,(F a).2.2):=by kernel_rfl):SX Try.prog (RF fn (F r)) stk .normal s:=by
 cases h;exact Zg1 fOk 100000 q hp e
theorem cutQ {y:Y} {fn:Func} {stk k2:List It} {s:St} {p:Prop} {l:List (Nat×V)} {h:List (Id×Blk)} {ep:Nat} (f:List (Id×Id)) (n:Nat) (q:List O) (hp:p) (hn:SX Try.prog (RF fn y) k2 .normal (mkS l h ep))
  (e:told (cutK Try.prog Mo f l h n stk s q)=some (p,(k2,renL f l h)):=by kernel_rfl) (hb:(isC k2&&cutB f l h ep)=true:=by kernel_rfl):SX Try.prog (RF fn y) stk .normal s:=Zhi (M:=Mo) fOk f n q hp hn e hb
theorem cutX {y:Y} {fn:Func} {stk k2:List It} {s:St} {p:Prop} {l:List (Nat×V)} {h:List (Id×Blk)} {ep:Nat} {q:List O} (f:List (Id×Id)) (n:Nat) (hp:Scr q p) (hn:SX Try.prog (RF fn y) k2 .normal (mkS l h ep))
  (e:told (cutK Try.prog Mo f l h n stk s q)=some (p,(k2,renL f l h)):=by kernel_rfl) (hb:(isC k2&&cutB f l h ep)=true:=by kernel_rfl):SX Try.prog (RF fn y) stk .normal s:=Zhi (M:=Mo) fOk f n q hp hn e hb
theorem Zi {α:Type} {F:α→Y} {fn:Func} {r:α} (hfn:Try.prog.funcs[(F r).1]?=some fn) (h:SX Try.prog (RF fn (F r)) [.c (Zcb fn)] .normal (entS Mo (F r).1 (F r).2.1)) (hc:fn.body=some (Zcb fn):=by kernel_rfl) (hs:(St.enters ⟨fun _=>.undef,fun _=>none,0⟩ 0 (Mo.modes (F r).1) (F r).2.1).isSome=true:=by kernel_rfl):
  Fine Try.prog Mo (F r):=Zk3 fOk hfn hc hs h
abbrev CS (y:Y) (fn:Func) (p:List Nat) (l:List (Nat×V)) (h:List (Id×Blk)):Prop:=SX Try.prog (RF fn y) (at_ p (Zcb fn) []) .normal (mkS l h 1)
abbrev Zer (x0:List GMConf) (x1:Int) (r:Int):Y:=(33,[.tr (x0.map GMConf.enc),il x1],il r,[.undef,.undef])
theorem Zan {x0:List GMConf} {x1:Int} {r:Int} (h:Zak x0 x1=some r):Fine Try.prog Mo (Zer x0 x1 r):=
 Zi Try.func33 (itK h (fun g1 h=>rtK h (lr GMConf.enc x0 (gg g1 ee))) fun g1 h=>rtK h (lr GMConf.enc x0 (gg g1 ee)))
abbrev Zh5 (x0:GConf) (x1:Int) (r:Int):Y:=(9,[.agg (GConf.enc x0),il x1],il r,[.undef,.undef])
theorem Zil {x0:GConf} {x1:Int} {r:Int} (h:Jw x0 x1=some r):Fine Try.prog Mo (Zh5 x0 x1 r):=
 Zi Try.func9 (bnK h fun r0 hr0 h=>itK h (fun g1 h=>rtK h (rr (Zan hr0) (gg g1 ee))) fun g1 h=>rtK h (rr (Zan hr0) (gg g1 ee)))
abbrev Zij (x0:List Int) (x1:Int) (r:Int):Y:=(12,[.tr (x0.map encI),il x1],il r,[.undef,.undef])
theorem Yc {x0:List Int} {x1:Int} {r:Int} (h:X2 x0 x1=some r):Fine Try.prog Mo (Zij x0 x1 r):=
 Zi Try.func12 (itK h (fun g1 h=>rtK h (lr encI x0 (gg g1 ee))) fun g1 h=>rtK h (lr encI x0 (gg g1 ee)))
abbrev Zkk (x0:GReq) (x1:Int) (r:Int):Y:=(55,[.agg (GReq.enc x0),il x1],il r,[.undef,.undef])
theorem Zdl {x0:GReq} {x1:Int} {r:Int} (h:Km x0 x1=some r):Fine Try.prog Mo (Zkk x0 x1 r):=
 Zi Try.func55 (bnK h fun r0 hr0 h=>itK h (fun g1 h=>rtK h (rr (Yc hr0) (gg g1 ee))) fun g1 h=>rtK h (rr (Yc hr0) (gg g1 ee)))
abbrev Zb9 (x0:List GReq) (x1:Int) (r:Int):Y:=(49,[.tr (x0.map GReq.enc),il x1],il r,[.undef,.undef])
theorem Zdf {x0:List GReq} {x1:Int} {r:Int}:∀{m:Nat} {v0:Int} {v1:Int},X9 x0 x1 m v0 v1=some r→CS (Zb9 x0 x1 r) Try.f49 [1,1,1,0,1,0] [(0,.tr (x0.map GReq.enc)),(1,il v0),(5,il v1)] []:=by
 intro m
 induction m with
 | zero=>intro v0 v1 h;cases h
 | succ m ih=>exact fun {v0} {v1} h=>itK h (fun g1 h=>bnK h fun a0 ha0 h=>bnK h fun r0 hr0 h=>itK h (fun g2 h=>rtK h (lr GReq.enc x0 (gg g1 (xb GReq.enc ha0 (rr (Zdl hr0) (gg g2 ee)))))) fun g2 h=>cutX [] 16 (lr GReq.enc x0 (gg g1 (xb GReq.enc ha0 (rr (Zdl hr0) (gg g2 ee))))) (ih h)) fun g1 h=>rtK h (lr GReq.enc x0 (gg g1 ee))
theorem Zck {x0:List GReq} {x1:Int} {r:Int} (h:Ji x0 x1=some r):Fine Try.prog Mo (Zb9 x0 x1 r):=
 Zi Try.func49 (itK h (fun g1 h=>rtK h (lr GReq.enc x0 (gg g1 ee))) fun g1 h=>cutX [] 13 (lr GReq.enc x0 (gg g1 ee)) (Zdf h))
abbrev Zjp (x0:GMst) (x1:Int) (r:Int):Y:=(34,[.agg (GMst.enc x0),il x1],il r,[.undef,.undef])
theorem Zdp {x0:GMst} {x1:Int} {r:Int} (h:Ko x0 x1=some r):Fine Try.prog Mo (Zjp x0 x1 r):=
 Zi Try.func34 (bnK h fun r0 hr0 h=>itK h (fun g1 h=>rtK h (rr (Zck hr0) (gg g1 ee))) fun g1 h=>rtK h (rr (Zck hr0) (gg g1 ee)))
abbrev Zce (x0:List GMst) (x1:Int) (r:Int):Y:=(10,[.tr (x0.map GMst.enc),il x1],il r,[.undef,.undef])
theorem Zc4 {x0:List GMst} {x1:Int} {r:Int}:∀{m:Nat} {v0:Int} {v1:Int},X4 x0 x1 m v0 v1=some r→CS (Zce x0 x1 r) Try.f10 [1,1,1,0,1,0] [(0,.tr (x0.map GMst.enc)),(1,il v0),(5,il v1)] []:=by
 intro m
 induction m with
 | zero=>intro v0 v1 h;cases h
 | succ m ih=>exact fun {v0} {v1} h=>itK h (fun g1 h=>bnK h fun a0 ha0 h=>bnK h fun r0 hr0 h=>itK h (fun g2 h=>rtK h (lr GMst.enc x0 (gg g1 (xb GMst.enc ha0 (rr (Zdp hr0) (gg g2 ee)))))) fun g2 h=>cutX [] 16 (lr GMst.enc x0 (gg g1 (xb GMst.enc ha0 (rr (Zdp hr0) (gg g2 ee))))) (ih h)) fun g1 h=>rtK h (lr GMst.enc x0 (gg g1 ee))
theorem Zhx {x0:List GMst} {x1:Int} {r:Int} (h:Jo x0 x1=some r):Fine Try.prog Mo (Zce x0 x1 r):=
 Zi Try.func10 (itK h (fun g1 h=>rtK h (lr GMst.enc x0 (gg g1 ee))) fun g1 h=>cutX [] 13 (lr GMst.enc x0 (gg g1 ee)) (Zc4 h))
abbrev Zd0 (x0:List GBucket) (x1:Int) (r:Int):Y:=(11,[.tr (x0.map GBucket.enc),il x1],il r,[.undef,.undef])
theorem Zd4 {x0:List GBucket} {x1:Int} {r:Int} (h:J3 x0 x1=some r):Fine Try.prog Mo (Zd0 x0 x1 r):=
 Zi Try.func11 (itK h (fun g1 h=>rtK h (lr GBucket.enc x0 (gg g1 ee))) fun g1 h=>rtK h (lr GBucket.enc x0 (gg g1 ee)))
abbrev Zju (x0:GDev) (x1:Int) (r:Int):Y:=(35,[.agg (GDev.enc x0),il x1],il r,[.undef,.undef])
theorem Zdk {x0:GDev} {x1:Int} {r:Int} (h:Zdn x0 x1=some r):Fine Try.prog Mo (Zju x0 x1 r):=
 Zi Try.func35 (bnK h fun r0 hr0 h=>itK h (fun g1 h=>rtK h (rr (Yc hr0) (gg g1 ee))) fun g1 h=>bnK h fun r1 hr1 h=>itK h (fun g2 h=>rtK h (rr (Yc hr0) (gg g1 (rr (Yc hr1) (gg g2 ee))))) fun g2 h=>rtK h (rr (Yc hr0) (gg g1 (rr (Yc hr1) (gg g2 ee)))))
abbrev Zfs (x0:GModel) (x1:Int) (r:Int):Y:=(13,[.agg (GModel.enc x0),il x1],il r,[.undef,.undef])
theorem K2 {x0:GModel} {x1:Int} {r:Int} (h:K4 x0 x1=some r):Fine Try.prog Mo (Zfs x0 x1 r):=
 Zi Try.func13 (bnK h fun r0 hr0 h=>itK h (fun g1 h=>rtK h (rr (Yc hr0) (gg g1 ee))) fun g1 h=>bnK h fun r1 hr1 h=>itK h (fun g2 h=>rtK h (rr (Yc hr0) (gg g1 (rr (Zdk hr1) (gg g2 ee))))) fun g2 h=>rtK h (rr (Yc hr0) (gg g1 (rr (Zdk hr1) (gg g2 ee)))))
abbrev Zf7 (x0:List GDone) (x1:Int) (r:Int):Y:=(14,[.tr (x0.map GDone.enc),il x1],il r,[.undef,.undef])
theorem Zbi {x0:List GDone} {x1:Int} {r:Int} (h:Zbg x0 x1=some r):Fine Try.prog Mo (Zf7 x0 x1 r):=
 Zi Try.func14 (itK h (fun g1 h=>rtK h (lr GDone.enc x0 (gg g1 ee))) fun g1 h=>rtK h (lr GDone.enc x0 (gg g1 ee)))
abbrev Zi3 (x0:GBus) (x1:Int) (r:Int):Y:=(4,[.agg (GBus.enc x0),il x1],il r,[.undef,.undef])
theorem Zdx {x0:GBus} {x1:Int} {r:Int} (h:Zaw x0 x1=some r):Fine Try.prog Mo (Zi3 x0 x1 r):=
 Zi Try.func4 (bnK h fun r0 hr0 h=>have p1 {q p} (k:Scr q p):=(rr (Zil hr0) k);itK h (fun g1 h=>rtK h (p1 (gg g1 ee))) fun g1 h=>bnK h fun r1 hr1 h=>have p2 {q p} (k:Scr q p):=(p1 (gg g1 (rr (Zhx hr1) k)));itK h (fun g2 h=>rtK h (p2 (gg g2 ee))) fun g2 h=>bnK h fun r2 hr2 h=>have p3 {q p} (k:Scr q p):=(p2 (gg g2 (rr (Zd4 hr2) k)));itK h (fun g3 h=>rtK h (p3 (gg g3 ee))) fun g3 h=>bnK h fun r3 hr3 h=>have p4 {q p} (k:Scr q p):=(p3 (gg g3 (rr (Yc hr3) k)));itK h (fun g4 h=>rtK h (p4 (gg g4 ee))) fun g4 h=>bnK h fun r4 hr4 h=>itK h (fun g5 h=>rtK h (p4 (gg g4 (rr (K2 hr4) (gg g5 ee))))) fun g5 h=>bnK h fun r5 hr5 h=>itK h (fun g6 h=>rtK h (p4 (gg g4 (rr (K2 hr4) (gg g5 (rr (Zbi hr5) (gg g6 ee))))))) fun g6 h=>rtK h (p4 (gg g4 (rr (K2 hr4) (gg g5 (rr (Zbi hr5) (gg g6 ee)))))))
abbrev Zgh (x0:GMConf) (r:GMConf):Y:=(50,[.agg (GMConf.enc x0)],.agg (GMConf.enc r),[.undef])
theorem Zf9 {x0:GMConf} {r:GMConf} (h:K5 x0=some r):Fine Try.prog Mo (Zgh x0 r):=
 Zi Try.func50 (rtK h ee)
abbrev Zae (x0:List GMConf) (r:List GMConf):Y:=(36,[.tr (x0.map GMConf.enc)],.own 110 (r.map GMConf.enc),[.undef])
theorem Zbu {x0:List GMConf} {r:List GMConf}:∀{m:Nat} {v0:List GMConf} {v1:Int},Xb x0 m v0 v1=some r→CS (Zae x0 r) Try.f36 [1,1,0,1,0] [(0,.tr (x0.map GMConf.enc)),(3,.sl (1,1) 0 (v0.map GMConf.enc).length),(4,il v1)] [rx 1 110 (v0.map GMConf.enc)]:=by
 intro m
 induction m with
 | zero=>intro v0 v1 h;cases h
 | succ m ih=>exact fun {v0} {v1} h=>itK h (fun g1 h=>bnK h fun a0 ha0 h=>bnK h fun r0 hr0 h=>bnK h fun a1 ha1 h=>bnK h fun y0 hy0 h=>cutX [((1,1),(1,1))] 11 (lr GMConf.enc x0 (gg g1 (xb GMConf.enc ha0 (rr (Zf9 hr0) (xp GMConf.enc ha1 hy0 (tp (.num (y0.map GMConf.enc).length 0 0 []) (ob (setl GMConf.enc hy0) ee))))))) (ih h)) fun g1 h=>rtK h (lr GMConf.enc x0 (gg g1 (kk 1 (oe GMConf.enc v0 ee))))
theorem Zfp {x0:List GMConf} {r:List GMConf} (h:Wq x0=some r):Fine Try.prog Mo (Zae x0 r):=
 Zi Try.func36 (bnK h fun m0 hm0 h=>cutX [((1,1),(2,2048))] 8 (lr GMConf.enc x0 (tp (.mk ((x0.length:Int):Int).toNat (m0.map GMConf.enc)) (ob (mkn hm0) (ob (mkn hm0) (ob (mkl hm0) (ob (mkr GMConf.enc hm0) (ln GMConf.enc m0 ee))))))) (Zbu h))
abbrev Zhp (x0:GConf) (r:GConf):Y:=(16,[.agg (GConf.enc x0)],.agg [.own 110 (r.masters.map GMConf.enc),il r.quantum,il r.maxWait,il r.maxRetry,il r.maxSplit,il r.lockMost],[.undef])
theorem Zh0 {x0:GConf} {r:GConf} (h:Qp x0=some r):Fine Try.prog Mo (Zhp x0 r):=
 Zi Try.func16 (bnK h fun r0 hr0 h=>rtK h (rr (Zfp hr0) (kk 1 (oe GMConf.enc r0 ee))))
abbrev Zb8 (x0:List Int) (r:List Int):Y:=(20,[.tr (x0.map encI)],.own 3 (r.map encI),[.undef])
theorem Zc0 {x0:List Int} {r:List Int}:∀{m:Nat} {v0:List Int} {v1:Int},Xz x0 m v0 v1=some r→CS (Zb8 x0 r) Try.f20 [1,1,0,1,0] [(0,.tr (x0.map encI)),(3,.sl (1,1) 0 (v0.map encI).length),(4,il v1)] [rx 1 3 (v0.map encI)]:=by
 intro m
 induction m with
 | zero=>intro v0 v1 h;cases h
 | succ m ih=>exact fun {v0} {v1} h=>itK h (fun g1 h=>bnK h fun a0 ha0 h=>bnK h fun a1 ha1 h=>bnK h fun y0 hy0 h=>cutX [((1,1),(1,1))] 11 (lr encI x0 (gg g1 (xb encI ha0 (xp encI ha1 hy0 (tp (.num (y0.map encI).length 0 0 []) (ob (setl encI hy0) ee)))))) (ih h)) fun g1 h=>rtK h (lr encI x0 (gg g1 (kk 1 (oe encI v0 ee))))
theorem Wx {x0:List Int} {r:List Int} (h:Yw x0=some r):Fine Try.prog Mo (Zb8 x0 r):=
 Zi Try.func20 (bnK h fun m0 hm0 h=>cutX [((1,1),(2,2048))] 8 (lr encI x0 (tp (.mk ((x0.length:Int):Int).toNat (m0.map encI)) (ob (mkn hm0) (ob (mkn hm0) (ob (mkl hm0) (ob (mkr encI hm0) (ln encI m0 ee))))))) (Zc0 h))
abbrev Zj3 (x0:GReq) (r:GReq):Y:=(56,[.agg (GReq.enc x0)],.agg [bl r.write,il r.addr,il r.size,il r.burst,bl r.lock,.own 3 (r.data_.map encI)],[.undef])
theorem Zkm {x0:GReq} {r:GReq} (h:Qi x0=some r):Fine Try.prog Mo (Zj3 x0 r):=
 Zi Try.func56 (bnK h fun r0 hr0 h=>rtK h (rr (Wx hr0) (kk 1 (oe encI r0 ee))))
abbrev Zcr (x0:List GReq) (r:List GReq):Y:=(51,[.tr (x0.map GReq.enc)],.own 120 (r.map GReq.enc),[.undef])
theorem Zdd {x0:List GReq} {r:List GReq}:∀{m:Nat} {v0:List GReq} {v1:Int},Xy x0 m v0 v1=some r→CS (Zcr x0 r) Try.f51 [1,1,0,1,0] [(0,.tr (x0.map GReq.enc)),(3,.sl (1,1) 0 (v0.map GReq.enc).length),(4,il v1)] [rx 1 120 (v0.map GReq.enc)]:=by
 intro m
 induction m with
 | zero=>intro v0 v1 h;cases h
 | succ m ih=>exact fun {v0} {v1} h=>itK h (fun g1 h=>bnK h fun a0 ha0 h=>bnK h fun r0 hr0 h=>bnK h fun a1 ha1 h=>bnK h fun y0 hy0 h=>cutX [((1,1),(1,1))] 11 (lr GReq.enc x0 (gg g1 (xb GReq.enc ha0 (rr (Zkm hr0) (xq GReq.enc ha1 y0 (kk 1 (tp (.num (y0.map GReq.enc).length 0 0 []) (oe encI r0.data_ (ob (seto GReq.enc hy0) (ob (setl GReq.enc hy0) ee)))))))))) (ih h)) fun g1 h=>rtK h (lr GReq.enc x0 (gg g1 (kk 1 (oe GReq.enc v0 ee))))
theorem Zig {x0:List GReq} {r:List GReq} (h:Qu x0=some r):Fine Try.prog Mo (Zcr x0 r):=
 Zi Try.func51 (bnK h fun m0 hm0 h=>cutX [((1,1),(2,2048))] 8 (lr GReq.enc x0 (tp (.mk ((x0.length:Int):Int).toNat (m0.map GReq.enc)) (ob (mkn hm0) (ob (mkn hm0) (ob (mkl hm0) (ob (mkr GReq.enc hm0) (ln GReq.enc m0 ee))))))) (Zdd h))
abbrev Zjb (x0:GMst) (r:GMst):Y:=(37,[.agg (GMst.enc x0)],.agg [.own 120 (r.queue.map GReq.enc),il r.beat,il r.done,il r.tries,bl r.parted,bl r.broken],[.undef])
theorem Zkf {x0:GMst} {r:GMst} (h:Kq x0=some r):Fine Try.prog Mo (Zjb x0 r):=
 Zi Try.func37 (bnK h fun r0 hr0 h=>rtK h (rr (Zig hr0) (kk 1 (oe GReq.enc r0 ee))))
abbrev Zcp (x0:List GMst) (r:List GMst):Y:=(17,[.tr (x0.map GMst.enc)],.own 91 (r.map GMst.enc),[.undef])
theorem Zc3 {x0:List GMst} {r:List GMst}:∀{m:Nat} {v0:List GMst} {v1:Int},X0 x0 m v0 v1=some r→CS (Zcp x0 r) Try.f17 [1,1,0,1,0] [(0,.tr (x0.map GMst.enc)),(3,.sl (1,1) 0 (v0.map GMst.enc).length),(4,il v1)] [rx 1 91 (v0.map GMst.enc)]:=by
 intro m
 induction m with
 | zero=>intro v0 v1 h;cases h
 | succ m ih=>exact fun {v0} {v1} h=>itK h (fun g1 h=>bnK h fun a0 ha0 h=>bnK h fun r0 hr0 h=>bnK h fun a1 ha1 h=>bnK h fun y0 hy0 h=>cutX [((1,1),(1,1))] 11 (lr GMst.enc x0 (gg g1 (xb GMst.enc ha0 (rr (Zkf hr0) (xq GMst.enc ha1 y0 (kk 1 (tp (.num (y0.map GMst.enc).length 0 0 []) (oe GReq.enc r0.queue (ob (seto GMst.enc hy0) (ob (setl GMst.enc hy0) ee)))))))))) (ih h)) fun g1 h=>rtK h (lr GMst.enc x0 (gg g1 (kk 1 (oe GMst.enc v0 ee))))
theorem Zhv {x0:List GMst} {r:List GMst} (h:Qm x0=some r):Fine Try.prog Mo (Zcp x0 r):=
 Zi Try.func17 (bnK h fun m0 hm0 h=>cutX [((1,1),(2,2048))] 8 (lr GMst.enc x0 (tp (.mk ((x0.length:Int):Int).toNat (m0.map GMst.enc)) (ob (mkn hm0) (ob (mkn hm0) (ob (mkl hm0) (ob (mkr GMst.enc hm0) (ln GMst.enc m0 ee))))))) (Zc3 h))
abbrev Zji (x0:GWrr) (r:GWrr):Y:=(18,[.agg (GWrr.enc x0)],.agg (GWrr.enc r),[.undef])
theorem Ziw {x0:GWrr} {r:GWrr} (h:Zaz x0=some r):Fine Try.prog Mo (Zji x0 r):=
 Zi Try.func18 (rtK h ee)
abbrev Ze9 (x0:GBucket) (r:GBucket):Y:=(38,[.agg (GBucket.enc x0)],.agg (GBucket.enc r),[.undef])
theorem Zev {x0:GBucket} {r:GBucket} (h:Kd x0=some r):Fine Try.prog Mo (Ze9 x0 r):=
 Zi Try.func38 (rtK h ee)
abbrev J5 (x0:List GBucket) (r:List GBucket):Y:=(19,[.tr (x0.map GBucket.enc)],.own 94 (r.map GBucket.enc),[.undef])
theorem Za7 {x0:List GBucket} {r:List GBucket}:∀{m:Nat} {v0:List GBucket} {v1:Int},Y4 x0 m v0 v1=some r→CS (J5 x0 r) Try.f19 [1,1,0,1,0] [(0,.tr (x0.map GBucket.enc)),(3,.sl (1,1) 0 (v0.map GBucket.enc).length),(4,il v1)] [rx 1 94 (v0.map GBucket.enc)]:=by
 intro m
 induction m with
 | zero=>intro v0 v1 h;cases h
 | succ m ih=>exact fun {v0} {v1} h=>itK h (fun g1 h=>bnK h fun a0 ha0 h=>bnK h fun r0 hr0 h=>bnK h fun a1 ha1 h=>bnK h fun y0 hy0 h=>cutX [((1,1),(1,1))] 11 (lr GBucket.enc x0 (gg g1 (xb GBucket.enc ha0 (rr (Zev hr0) (xp GBucket.enc ha1 hy0 (tp (.num (y0.map GBucket.enc).length 0 0 []) (ob (setl GBucket.enc hy0) ee))))))) (ih h)) fun g1 h=>rtK h (lr GBucket.enc x0 (gg g1 (kk 1 (oe GBucket.enc v0 ee))))
theorem Zd2 {x0:List GBucket} {r:List GBucket} (h:Wd x0=some r):Fine Try.prog Mo (J5 x0 r):=
 Zi Try.func19 (bnK h fun m0 hm0 h=>cutX [((1,1),(2,2048))] 8 (lr GBucket.enc x0 (tp (.mk ((x0.length:Int):Int).toNat (m0.map GBucket.enc)) (ob (mkn hm0) (ob (mkn hm0) (ob (mkl hm0) (ob (mkr GBucket.enc hm0) (ln GBucket.enc m0 ee))))))) (Za7 h))
abbrev Zhl (x0:GBeat) (r:GBeat):Y:=(21,[.agg (GBeat.enc x0)],.agg (GBeat.enc r),[.undef])
theorem Zcw {x0:GBeat} {r:GBeat} (h:W2 x0=some r):Fine Try.prog Mo (Zhl x0 r):=
 Zi Try.func21 (rtK h ee)
abbrev Zj6 (x0:GDev) (r:GDev):Y:=(39,[.agg (GDev.enc x0)],.agg (GDev.ow r),[.undef])
theorem Zjg {x0:GDev} {r:GDev} (h:Zaj x0=some r):Fine Try.prog Mo (Zj6 x0 r):=
 Zi Try.func39 (bnK h fun r0 hr0 h=>bnK h fun r1 hr1 h=>rtK h (rr (Wx hr0) (rr (Wx hr1) (kk 2 (oe encI r0 (oe encI r1 ee))))))
abbrev Zgu (x0:GModel) (r:GModel):Y:=(22,[.agg (GModel.enc x0)],.agg (GModel.ow r),[.undef])
theorem Zfw {x0:GModel} {r:GModel} (h:W9 x0=some r):Fine Try.prog Mo (Zgu x0 r):=
 Zi Try.func22 (bnK h fun r0 hr0 h=>bnK h fun r1 hr1 h=>rtK h (rr (Wx hr0) (rr (Zjg hr1) (kk 3 (oe encI r0 (GDev.so r1 ee))))))
abbrev Zhm (x0:GDone) (r:GDone):Y:=(40,[.agg (GDone.enc x0)],.agg (GDone.enc r),[.undef])
theorem Zhu {x0:GDone} {r:GDone} (h:Ju x0=some r):Fine Try.prog Mo (Zhm x0 r):=
 Zi Try.func40 (rtK h ee)
abbrev Zbb (x0:List GDone) (r:List GDone):Y:=(23,[.tr (x0.map GDone.enc)],.own 87 (r.map GDone.enc),[.undef])
theorem Zcn {x0:List GDone} {r:List GDone}:∀{m:Nat} {v0:List GDone} {v1:Int},Xk x0 m v0 v1=some r→CS (Zbb x0 r) Try.f23 [1,1,0,1,0] [(0,.tr (x0.map GDone.enc)),(3,.sl (1,1) 0 (v0.map GDone.enc).length),(4,il v1)] [rx 1 87 (v0.map GDone.enc)]:=by
 intro m
 induction m with
 | zero=>intro v0 v1 h;cases h
 | succ m ih=>exact fun {v0} {v1} h=>itK h (fun g1 h=>bnK h fun a0 ha0 h=>bnK h fun r0 hr0 h=>bnK h fun a1 ha1 h=>bnK h fun y0 hy0 h=>cutX [((1,1),(1,1))] 11 (lr GDone.enc x0 (gg g1 (xb GDone.enc ha0 (rr (Zhu hr0) (xp GDone.enc ha1 hy0 (tp (.num (y0.map GDone.enc).length 0 0 []) (ob (setl GDone.enc hy0) ee))))))) (ih h)) fun g1 h=>rtK h (lr GDone.enc x0 (gg g1 (kk 1 (oe GDone.enc v0 ee))))
theorem Zfu {x0:List GDone} {r:List GDone} (h:W8 x0=some r):Fine Try.prog Mo (Zbb x0 r):=
 Zi Try.func23 (bnK h fun m0 hm0 h=>cutX [((1,1),(2,2048))] 8 (lr GDone.enc x0 (tp (.mk ((x0.length:Int):Int).toNat (m0.map GDone.enc)) (ob (mkn hm0) (ob (mkn hm0) (ob (mkl hm0) (ob (mkr GDone.enc hm0) (ln GDone.enc m0 ee))))))) (Zcn h))
abbrev Zix (x0:GBus) (r:GBus):Y:=(6,[.agg (GBus.enc x0)],.agg (GBus.ow r),[.undef])
theorem Zay {x0:GBus} {r:GBus} (h:Wk x0=some r):Fine Try.prog Mo (Zix x0 r):=
 Zi Try.func6 (bnK h fun r0 hr0 h=>bnK h fun r1 hr1 h=>bnK h fun r2 hr2 h=>bnK h fun r3 hr3 h=>bnK h fun r4 hr4 h=>bnK h fun r5 hr5 h=>bnK h fun r6 hr6 h=>bnK h fun r7 hr7 h=>bnK h fun r8 hr8 h=>rtK h (rr (Zh0 hr0) (rr (Zhv hr1) (rr (Ziw hr2) (rr (Zd2 hr3) (rr (Wx hr4) (rr (Zcw hr5) (rr (Zcw hr6) (rr (Zfw hr7) (rr (Zfu hr8) (kk 8 (oe GMConf.enc r0.masters (oe GMst.enc r1 (oe GBucket.enc r3 (oe encI r4 (GModel.so r7 (oe GDone.enc r8 ee)))))))))))))))))
abbrev Zcd (x0:List GDone) (x1:Int) (r:List GDone):Y:=(15,[.tr (x0.map GDone.enc),il x1],.own 87 (r.map GDone.enc),[.undef,.undef])
theorem Zc1 {x0:List GDone} {x1:Int} {r:List GDone}:∀{m:Nat} {v0:List GDone} {v1:Int},X7 x0 x1 m v0 v1=some r→CS (Zcd x0 x1 r) Try.f15 [1,1,0,1,0] [(0,.tr (x0.map GDone.enc)),(1,il x1),(5,.sl (1,1) 0 (v0.map GDone.enc).length),(6,il v1)] [rx 1 87 (v0.map GDone.enc)]:=by
 intro m
 induction m with
 | zero=>intro v0 v1 h;cases h
 | succ m ih=>exact fun {v0} {v1} h=>itK h (fun g1 h=>bnK h fun a0 ha0 h=>itK h (fun g2 h=>bnK h fun z0 hz0 h=>cutX [((1,1),(4,6144))] 14 (lr GDone.enc x0 (gg g1 (xb GDone.enc ha0 (gg g2 (xb GDone.enc ha0 (ta GDone.enc [a0] z0 (kk 1 (oa 7 GDone.enc_len a0 (ox GDone.enc hz0 (ln GDone.enc z0 (oe GDone.enc z0 ee))))))))))) (ih h)) fun g2 h=>cutX [((1,1),(1,1))] 14 (lr GDone.enc x0 (gg g1 (xb GDone.enc ha0 (gg g2 (ln GDone.enc v0 ee))))) (ih h)) fun g1 h=>rtK h (lr GDone.enc x0 (gg g1 (kk 1 (oe GDone.enc v0 ee))))
theorem Ziv {x0:List GDone} {x1:Int} {r:List GDone} (h:Qo x0 x1=some r):Fine Try.prog Mo (Zcd x0 x1 r):=
 Zi Try.func15 (cutX [((1,1),(2,0))] 8 (tp (.num ([].map GDone.enc).length 0 0 []) (ob (show 0=([].map GDone.enc).length from rfl) ee)) (Zc1 h))
abbrev Zew (x0:GBus) (x1:Int) (r:Int):Y:=(5,[.agg (GBus.enc x0),il x1],il r,[.undef,.undef])
theorem Zef {x0:GBus} {x1:Int} {r:Int} (h:Kg x0 x1=some r):Fine Try.prog Mo (Zew x0 x1 r):=
 Zi Try.func5 (bnK h fun r0 hr0 h=>rtK h (rr (Ziv hr0) (lr GDone.enc r0 ee)))
abbrev Xo (x0:List GDone) (r:List GDone):Y:=(42,[.tr (x0.map GDone.enc)],.own 87 (r.map GDone.enc),[.undef])
theorem Q5 {x0:List GDone} {r:List GDone} (h:Yd x0=some r):Fine Try.prog Mo (Xo x0 r):=by
 refine Zi Try.func42 ?_
 unfold Yd at h
 cases x0 with
 | nil=>
  obtain rfl:[]=r:=(Zk0 h)
  have hn:CS (Xo [] []) Try.f42 [1,0,0] [(0,.tr [])] []:=Zlx Mo fOk (k:=at_ [1,0,1] (Zcb Try.f42) []) (x0:=.tmp 0) (d0:=3) (d1:=4) (t:=51) (e:=87) (y:=.const (.slice none 0 0)) (by kernel_rfl) (by kernel_rfl) rfl rfl fun b=>by
   cases b with
   | true=>exact rtQ rfl [.k] tt
   | false=>exact rtQ rfl [.k,.app [] true [] 0,.k] (aa (Eq.refl ([]:List (List V))) (aa (Eq.refl true) (aa (Eq.refl true) (aa (Eq.refl 0) (aa (apz 56) (aa (Eq.refl ([]:List (List V))) (aa (Eq.refl 0) (aa (Eq.refl 0) tt))))))))
  exact cutQ [] 4 [] tt hn
 | cons a l=>
  exact rtQ rfl [.k,.app ((a::l).map GDone.enc) true (r.map GDone.enc) (r.map GDone.enc).length,.k] (aa (List.cons_ne_nil (GDone.enc a) (l.map GDone.enc)) (aa (Eq.refl ((a::l).map GDone.enc)) (aa (ltr GDone.enc_lit (a::l)) (aa (alr 7 GDone.enc_len (a::l)) (aa (Eq.refl 0) (aa (apl GDone.enc h) (aa (apm0 GDone.enc h) (aa (lene GDone.enc r) (aa (lene GDone.enc r) tt)))))))))
abbrev Zei (x0:GDone) (x1:Int) (r:Bool):Y:=(43,[.agg (GDone.enc x0),.rp true [il x1] 0],bl r,[.undef,.undef])
theorem Kh {x0:GDone} {x1:Int} {r:Bool} (h:Xq x0 x1=some r):Fine Try.prog Mo (Zei x0 x1 r):=
 Zi Try.func43 (rtK h ee)
abbrev Yb (x0:List GDone) (x1c0:Int) (r:Int):Y:=(52,[.tr (x0.map GDone.enc),.fn 43 [.rp true [il x1c0] 0]],il r,[.undef,.undef])
theorem Y2 {x0:List GDone} {x1c0:Int} {r:Int}:∀{m:Nat} {v0:Int},Zp x0 x1c0 m v0=some r→CS (Yb x0 x1c0 r) Try.f52 [1,0,1,0] [(0,.tr (x0.map GDone.enc)),(1,.fn 43 [.rp true [il x1c0] 0]),(7,il (x0.length:Int)),(8,il v0)] []:=by
 intro m
 induction m with
 | zero=>intro v0 h;cases h
 | succ m ih=>exact fun {v0} h=>itK h (fun g1 h=>bnK h fun a0 ha0 h=>bnK h fun r0 hr0 h=>itK h (fun g2 h=>rtK h (gg g1 (xb GDone.enc ha0 (rr (Kh hr0) (gg g2 ee))))) fun g2 h=>cutX [] 16 (gg g1 (xb GDone.enc ha0 (rr (Kh hr0) (gg g2 ee)))) (ih h)) fun g1 h=>rtK h (gg g1 ee)
theorem Xc {x0:List GDone} {x1c0:Int} {r:Int} (h:Z2 x0 x1c0=some r):Fine Try.prog Mo (Yb x0 x1c0 r):=
 Zi Try.func52 (cutX [] 6 (lr GDone.enc x0 ee) (Y2 h))
abbrev Ya (x0:List GDone) (x1c0:Int) (r:List GDone):Y:=(41,[.own 87 (x0.map GDone.enc),.fn 43 [.rp true [il x1c0] 0]],.own 87 (r.map GDone.enc),[.undef,.undef])
theorem Yx {x0:List GDone} {x1c0:Int} {r:List GDone}:∀{m:Nat} {v0:List GDone} {v1:Int} {v2:Int},Zo x0 x1c0 m v0 v1 v2=some r→CS (Ya x0 x1c0 r) Try.f41 [1,1,1,0,1,0] [(0,.sl (1,1) 0 (v0.map GDone.enc).length),(1,.fn 43 [.rp true [il x1c0] 0]),(5,il v1),(6,il v2)] [rx 1 87 (v0.map GDone.enc)]:=by
 intro m
 induction m with
 | zero=>intro v0 v1 v2 h;cases h
 | succ m ih=>exact fun {v0} {v1} {v2} h=>itK h (fun g1 h=>bnK h fun a0 ha0 h=>bnK h fun r0 hr0 h=>have p1 {q p} (k:Scr q p):=(lr GDone.enc v0 (gg g1 (xd GDone.enc ha0 (rr (Kh hr0) k))));itK h (fun g2 h=>bnK h fun a1 ha1 h=>bnK h fun y0 hy0 h=>cutX [((1,1),(1,1))] 18 (p1 (gg g2 (xp GDone.enc ha1 hy0 (tp (.num (y0.map GDone.enc).length 0 0 []) (ob (setl GDone.enc hy0) ee))))) (ih h)) fun g2 h=>cutX [((1,1),(1,1))] 16 (p1 (gg g2 (ln GDone.enc v0 ee))) (ih h)) fun g1 h=>bnK h fun s0 hs0 h=>bnK h fun y1 hy1 h=>bnK h fun s1 hs1 h=>rtK h (lr GDone.enc v0 (gg g1 (tp (.num (v1:Int).toNat ((v0.length:Int):Int).toNat (((v0.length:Int):Int).toNat - (v1:Int).toNat) []) (kk 1 (tp (.app (y1.map GDone.enc) true [] 0) (tp (.num (0:Int).toNat (v1:Int).toNat ((v1:Int).toNat - (0:Int).toNat) []) (kk 1 (tp (.mk 0 (s1.map GDone.enc)) (oe GDone.enc v0 (ob (sln hs0).1 (ob (lenr GDone.enc v0) (ob (sll GDone.enc hs0) (ob (alr 7 GDone.enc_len v0) (ob (Eq.refl (((v0.length:Int):Int).toNat - (v1:Int).toNat)) (ob (clrl GDone.enc hy1) (ob (clrr GDone.enc hy1) (ob (clrs GDone.enc hy1) (ob (Eq.refl 0) (ob (sln hs1).2 (ob (sll GDone.enc hs1) (ob (alr 7 GDone.enc_len y1) (ob (Eq.refl ((v1:Int).toNat - (0:Int).toNat)) (ob (sla GDone.enc hs1) (ob (slr GDone.enc hs1) ee))))))))))))))))))))))))
theorem Y9 {x0:List GDone} {x1c0:Int} {r:List GDone} (h:Z0 x0 x1c0=some r):Fine Try.prog Mo (Ya x0 x1c0 r):=
 Zi Try.func41 (bnK h fun r1 hr1 h=>have p1 {q p} (k:Scr q p):=(kk 1 (oe GDone.enc x0 (rr (Xc hr1) k)));itK h (fun g1 h=>rtK h (p1 (gg g1 (kk 1 (oe GDone.enc x0 ee))))) fun g1 h=>cutX [((1,1),(0,0))] 13 (p1 (gg g1 (ln GDone.enc x0 ee))) (Yx h))
abbrev Zhw (x0:List GDone) (x1:Int) (r:List GDone):Y:=(24,[.tr (x0.map GDone.enc),il x1],.own 87 (r.map GDone.enc),[.undef,.undef])
theorem Zik {x0:List GDone} {x1:Int} {r:List GDone} (h:Qx x0 x1=some r):Fine Try.prog Mo (Zhw x0 x1 r):=
 Zi Try.func24 (bnK h fun r0 hr0 h=>bnK h fun r1 hr1 h=>rtK h (rr (Q5 hr0) (kk 1 (oe GDone.enc r0 (rr (Y9 hr1) (kk 1 (oe GDone.enc r1 ee)))))))
abbrev Zfb (x0:GBus) (x1:Int) (r:Int):Y:=(7,[.agg (GBus.enc x0),il x1],il r,[.undef,.undef])
theorem Zee {x0:GBus} {x1:Int} {r:Int} (h:W1 x0 x1=some r):Fine Try.prog Mo (Zfb x0 x1 r):=
 Zi Try.func7 (bnK h fun r0 hr0 h=>rtK h (rr (Zik hr0) (lr GDone.enc r0 ee)))
abbrev Zgw (x0:GMConf) (x1:GMConf) (r:Bool):Y:=(53,[.agg (GMConf.enc x0),.agg (GMConf.enc x1)],bl r,[.undef,.undef])
theorem Zf6 {x0:GMConf} {x1:GMConf} {r:Bool} (h:Wa x0 x1=some r):Fine Try.prog Mo (Zgw x0 x1 r):=
 Zi Try.func53 (itK h (fun g1 h=>rtK h (gg g1 ee)) fun g1 h=>itK h (fun g2 h=>rtK h (gg g1 (gg g2 ee))) fun g2 h=>itK h (fun g3 h=>rtK h (gg g1 (gg g2 (gg g3 ee)))) fun g3 h=>itK h (fun g4 h=>rtK h (gg g1 (gg g2 (gg g3 (gg g4 ee))))) fun g4 h=>rtK h (gg g1 (gg g2 (gg g3 (gg g4 ee)))))
abbrev Zam (x0:List GMConf) (x1:List GMConf) (r:Bool):Y:=(44,[.tr (x0.map GMConf.enc),.tr (x1.map GMConf.enc)],bl r,[.undef,.undef])
theorem Zbw {x0:List GMConf} {x1:List GMConf} {r:Bool}:∀{m:Nat} {v0:Int},Xa x0 x1 m v0=some r→CS (Zam x0 x1 r) Try.f44 [1,1,0,1,0] [(0,.tr (x0.map GMConf.enc)),(1,.tr (x1.map GMConf.enc)),(5,il v0)] []:=by
 intro m
 induction m with
 | zero=>intro v0 h;cases h
 | succ m ih=>exact fun {v0} h=>itK h (fun g1 h=>bnK h fun a0 ha0 h=>bnK h fun a1 ha1 h=>bnK h fun r0 hr0 h=>have p1 {q p} (k:Scr q p):=(lr GMConf.enc x0 (gg g1 (xb GMConf.enc ha0 (xb GMConf.enc ha1 (rr (Zf6 hr0) k)))));itK h (fun g2 h=>rtK h (p1 (gg g2 ee))) fun g2 h=>cutX [] 14 (p1 (gg g2 ee)) (ih h)) fun g1 h=>rtK h (lr GMConf.enc x0 (gg g1 ee))
theorem Zfm {x0:List GMConf} {x1:List GMConf} {r:Bool} (h:Ws x0 x1=some r):Fine Try.prog Mo (Zam x0 x1 r):=
 Zi Try.func44 (itK h (fun g1 h=>rtK h (lr GMConf.enc x0 (lr GMConf.enc x1 (gg g1 ee)))) fun g1 h=>cutX [] 11 (lr GMConf.enc x0 (lr GMConf.enc x1 (gg g1 ee))) (Zbw h))
abbrev Zhy (x0:GConf) (x1:GConf) (r:Bool):Y:=(25,[.agg (GConf.enc x0),.agg (GConf.enc x1)],bl r,[.undef,.undef])
theorem Zhz {x0:GConf} {x1:GConf} {r:Bool} (h:Qs x0 x1=some r):Fine Try.prog Mo (Zhy x0 x1 r):=
 Zi Try.func25 (bnK h fun r0 hr0 h=>have p1 {q p} (k:Scr q p):=(rr (Zfm hr0) k);itK h (fun g1 h=>rtK h (p1 (gg g1 ee))) fun g1 h=>itK h (fun g2 h=>rtK h (p1 (gg g1 (gg g2 ee)))) fun g2 h=>itK h (fun g3 h=>rtK h (p1 (gg g1 (gg g2 (gg g3 ee))))) fun g3 h=>itK h (fun g4 h=>rtK h (p1 (gg g1 (gg g2 (gg g3 (gg g4 ee)))))) fun g4 h=>itK h (fun g5 h=>rtK h (p1 (gg g1 (gg g2 (gg g3 (gg g4 (gg g5 ee))))))) fun g5 h=>itK h (fun g6 h=>rtK h (p1 (gg g1 (gg g2 (gg g3 (gg g4 (gg g5 (gg g6 ee)))))))) fun g6 h=>rtK h (p1 (gg g1 (gg g2 (gg g3 (gg g4 (gg g5 (gg g6 ee))))))))
abbrev Zcg (x0:List Int) (x1:List Int) (r:Bool):Y:=(29,[.tr (x0.map encI),.tr (x1.map encI)],bl r,[.undef,.undef])
theorem Zc2 {x0:List Int} {x1:List Int} {r:Bool}:∀{m:Nat} {v0:Int},X5 x0 x1 m v0=some r→CS (Zcg x0 x1 r) Try.f29 [1,1,0,1,0] [(0,.tr (x0.map encI)),(1,.tr (x1.map encI)),(5,il v0)] []:=by
 intro m
 induction m with
 | zero=>intro v0 h;cases h
 | succ m ih=>exact fun {v0} h=>itK h (fun g1 h=>bnK h fun a0 ha0 h=>bnK h fun a1 ha1 h=>itK h (fun g2 h=>rtK h (lr encI x0 (gg g1 (xb encI ha0 (xb encI ha1 (gg g2 ee)))))) fun g2 h=>cutX [] 14 (lr encI x0 (gg g1 (xb encI ha0 (xb encI ha1 (gg g2 ee))))) (ih h)) fun g1 h=>rtK h (lr encI x0 (gg g1 ee))
theorem Z7 {x0:List Int} {x1:List Int} {r:Bool} (h:Yz x0 x1=some r):Fine Try.prog Mo (Zcg x0 x1 r):=
 Zi Try.func29 (itK h (fun g1 h=>rtK h (lr encI x0 (lr encI x1 (gg g1 ee)))) fun g1 h=>cutX [] 11 (lr encI x0 (lr encI x1 (gg g1 ee))) (Zc2 h))
abbrev Zja (x0:GReq) (x1:GReq) (r:Bool):Y:=(57,[.agg (GReq.enc x0),.agg (GReq.enc x1)],bl r,[.undef,.undef])
theorem Zjq {x0:GReq} {x1:GReq} {r:Bool} (h:Qj x0 x1=some r):Fine Try.prog Mo (Zja x0 x1 r):=
 Zi Try.func57 (itK h (fun g1 h=>rtK h (gg g1 ee)) fun g1 h=>itK h (fun g2 h=>rtK h (gg g1 (gg g2 ee))) fun g2 h=>itK h (fun g3 h=>rtK h (gg g1 (gg g2 (gg g3 ee)))) fun g3 h=>itK h (fun g4 h=>rtK h (gg g1 (gg g2 (gg g3 (gg g4 ee))))) fun g4 h=>itK h (fun g5 h=>rtK h (gg g1 (gg g2 (gg g3 (gg g4 (gg g5 ee)))))) fun g5 h=>bnK h fun r0 hr0 h=>itK h (fun g6 h=>rtK h (gg g1 (gg g2 (gg g3 (gg g4 (gg g5 (rr (Z7 hr0) (gg g6 ee)))))))) fun g6 h=>rtK h (gg g1 (gg g2 (gg g3 (gg g4 (gg g5 (rr (Z7 hr0) (gg g6 ee))))))))
abbrev Zcs (x0:List GReq) (x1:List GReq) (r:Bool):Y:=(54,[.tr (x0.map GReq.enc),.tr (x1.map GReq.enc)],bl r,[.undef,.undef])
theorem Zda {x0:List GReq} {x1:List GReq} {r:Bool}:∀{m:Nat} {v0:Int},X6 x0 x1 m v0=some r→CS (Zcs x0 x1 r) Try.f54 [1,1,0,1,0] [(0,.tr (x0.map GReq.enc)),(1,.tr (x1.map GReq.enc)),(5,il v0)] []:=by
 intro m
 induction m with
 | zero=>intro v0 h;cases h
 | succ m ih=>exact fun {v0} h=>itK h (fun g1 h=>bnK h fun a0 ha0 h=>bnK h fun a1 ha1 h=>bnK h fun r0 hr0 h=>have p1 {q p} (k:Scr q p):=(lr GReq.enc x0 (gg g1 (xb GReq.enc ha0 (xb GReq.enc ha1 (rr (Zjq hr0) k)))));itK h (fun g2 h=>rtK h (p1 (gg g2 ee))) fun g2 h=>cutX [] 14 (p1 (gg g2 ee)) (ih h)) fun g1 h=>rtK h (lr GReq.enc x0 (gg g1 ee))
theorem Zie {x0:List GReq} {x1:List GReq} {r:Bool} (h:Qy x0 x1=some r):Fine Try.prog Mo (Zcs x0 x1 r):=
 Zi Try.func54 (itK h (fun g1 h=>rtK h (lr GReq.enc x0 (lr GReq.enc x1 (gg g1 ee)))) fun g1 h=>cutX [] 11 (lr GReq.enc x0 (lr GReq.enc x1 (gg g1 ee))) (Zda h))
abbrev Zj1 (x0:GMst) (x1:GMst) (r:Bool):Y:=(45,[.agg (GMst.enc x0),.agg (GMst.enc x1)],bl r,[.undef,.undef])
theorem Zjt {x0:GMst} {x1:GMst} {r:Bool} (h:Ku x0 x1=some r):Fine Try.prog Mo (Zj1 x0 x1 r):=
 Zi Try.func45 (bnK h fun r0 hr0 h=>have p1 {q p} (k:Scr q p):=(rr (Zie hr0) k);itK h (fun g1 h=>rtK h (p1 (gg g1 ee))) fun g1 h=>itK h (fun g2 h=>rtK h (p1 (gg g1 (gg g2 ee)))) fun g2 h=>itK h (fun g3 h=>rtK h (p1 (gg g1 (gg g2 (gg g3 ee))))) fun g3 h=>itK h (fun g4 h=>rtK h (p1 (gg g1 (gg g2 (gg g3 (gg g4 ee)))))) fun g4 h=>itK h (fun g5 h=>rtK h (p1 (gg g1 (gg g2 (gg g3 (gg g4 (gg g5 ee))))))) fun g5 h=>itK h (fun g6 h=>rtK h (p1 (gg g1 (gg g2 (gg g3 (gg g4 (gg g5 (gg g6 ee)))))))) fun g6 h=>rtK h (p1 (gg g1 (gg g2 (gg g3 (gg g4 (gg g5 (gg g6 ee))))))))
abbrev Zci (x0:List GMst) (x1:List GMst) (r:Bool):Y:=(26,[.tr (x0.map GMst.enc),.tr (x1.map GMst.enc)],bl r,[.undef,.undef])
theorem Zdh {x0:List GMst} {x1:List GMst} {r:Bool}:∀{m:Nat} {v0:Int},X1 x0 x1 m v0=some r→CS (Zci x0 x1 r) Try.f26 [1,1,0,1,0] [(0,.tr (x0.map GMst.enc)),(1,.tr (x1.map GMst.enc)),(5,il v0)] []:=by
 intro m
 induction m with
 | zero=>intro v0 h;cases h
 | succ m ih=>exact fun {v0} h=>itK h (fun g1 h=>bnK h fun a0 ha0 h=>bnK h fun a1 ha1 h=>bnK h fun r0 hr0 h=>have p1 {q p} (k:Scr q p):=(lr GMst.enc x0 (gg g1 (xb GMst.enc ha0 (xb GMst.enc ha1 (rr (Zjt hr0) k)))));itK h (fun g2 h=>rtK h (p1 (gg g2 ee))) fun g2 h=>cutX [] 14 (p1 (gg g2 ee)) (ih h)) fun g1 h=>rtK h (lr GMst.enc x0 (gg g1 ee))
theorem Ziu {x0:List GMst} {x1:List GMst} {r:Bool} (h:Qr x0 x1=some r):Fine Try.prog Mo (Zci x0 x1 r):=
 Zi Try.func26 (itK h (fun g1 h=>rtK h (lr GMst.enc x0 (lr GMst.enc x1 (gg g1 ee)))) fun g1 h=>cutX [] 11 (lr GMst.enc x0 (lr GMst.enc x1 (gg g1 ee))) (Zdh h))
abbrev Zj0 (x0:GWrr) (x1:GWrr) (r:Bool):Y:=(27,[.agg (GWrr.enc x0),.agg (GWrr.enc x1)],bl r,[.undef,.undef])
theorem Zjl {x0:GWrr} {x1:GWrr} {r:Bool} (h:Kp x0 x1=some r):Fine Try.prog Mo (Zj0 x0 x1 r):=
 Zi Try.func27 (itK h (fun g1 h=>rtK h (gg g1 ee)) fun g1 h=>itK h (fun g2 h=>rtK h (gg g1 (gg g2 ee))) fun g2 h=>rtK h (gg g1 (gg g2 ee)))
abbrev Zen (x0:GBucket) (x1:GBucket) (r:Bool):Y:=(46,[.agg (GBucket.enc x0),.agg (GBucket.enc x1)],bl r,[.undef,.undef])
theorem Zeh {x0:GBucket} {x1:GBucket} {r:Bool} (h:Wo x0 x1=some r):Fine Try.prog Mo (Zen x0 x1 r):=
 Zi Try.func46 (itK h (fun g1 h=>rtK h (gg g1 ee)) fun g1 h=>itK h (fun g2 h=>rtK h (gg g1 (gg g2 ee))) fun g2 h=>rtK h (gg g1 (gg g2 ee)))
abbrev J2 (x0:List GBucket) (x1:List GBucket) (r:Bool):Y:=(28,[.tr (x0.map GBucket.enc),.tr (x1.map GBucket.enc)],bl r,[.undef,.undef])
theorem Za8 {x0:List GBucket} {x1:List GBucket} {r:Bool}:∀{m:Nat} {v0:Int},Y6 x0 x1 m v0=some r→CS (J2 x0 x1 r) Try.f28 [1,1,0,1,0] [(0,.tr (x0.map GBucket.enc)),(1,.tr (x1.map GBucket.enc)),(5,il v0)] []:=by
 intro m
 induction m with
 | zero=>intro v0 h;cases h
 | succ m ih=>exact fun {v0} h=>itK h (fun g1 h=>bnK h fun a0 ha0 h=>bnK h fun a1 ha1 h=>bnK h fun r0 hr0 h=>have p1 {q p} (k:Scr q p):=(lr GBucket.enc x0 (gg g1 (xb GBucket.enc ha0 (xb GBucket.enc ha1 (rr (Zeh hr0) k)))));itK h (fun g2 h=>rtK h (p1 (gg g2 ee))) fun g2 h=>cutX [] 14 (p1 (gg g2 ee)) (ih h)) fun g1 h=>rtK h (lr GBucket.enc x0 (gg g1 ee))
theorem Zd3 {x0:List GBucket} {x1:List GBucket} {r:Bool} (h:Wf x0 x1=some r):Fine Try.prog Mo (J2 x0 x1 r):=
 Zi Try.func28 (itK h (fun g1 h=>rtK h (lr GBucket.enc x0 (lr GBucket.enc x1 (gg g1 ee)))) fun g1 h=>cutX [] 11 (lr GBucket.enc x0 (lr GBucket.enc x1 (gg g1 ee))) (Za8 h))
abbrev Zh1 (x0:GBeat) (x1:GBeat) (r:Bool):Y:=(30,[.agg (GBeat.enc x0),.agg (GBeat.enc x1)],bl r,[.undef,.undef])
theorem Zcq {x0:GBeat} {x1:GBeat} {r:Bool} (h:Wr x0 x1=some r):Fine Try.prog Mo (Zh1 x0 x1 r):=
 Zi Try.func30 (itK h (fun g1 h=>rtK h (gg g1 ee)) fun g1 h=>itK h (fun g2 h=>rtK h (gg g1 (gg g2 ee))) fun g2 h=>have p1 {q p} (k:Scr q p):=(gg g1 (gg g2 k));itK h (fun g3 h=>rtK h (p1 (gg g3 ee))) fun g3 h=>itK h (fun g4 h=>rtK h (p1 (gg g3 (gg g4 ee)))) fun g4 h=>itK h (fun g5 h=>rtK h (p1 (gg g3 (gg g4 (gg g5 ee))))) fun g5 h=>itK h (fun g6 h=>rtK h (p1 (gg g3 (gg g4 (gg g5 (gg g6 ee)))))) fun g6 h=>itK h (fun g7 h=>rtK h (p1 (gg g3 (gg g4 (gg g5 (gg g6 (gg g7 ee))))))) fun g7 h=>itK h (fun g8 h=>rtK h (p1 (gg g3 (gg g4 (gg g5 (gg g6 (gg g7 (gg g8 ee)))))))) fun g8 h=>rtK h (p1 (gg g3 (gg g4 (gg g5 (gg g6 (gg g7 (gg g8 ee))))))))
abbrev Zjm (x0:GDev) (x1:GDev) (r:Bool):Y:=(47,[.agg (GDev.enc x0),.agg (GDev.enc x1)],bl r,[.undef,.undef])
theorem Zdw {x0:GDev} {x1:GDev} {r:Bool} (h:J9 x0 x1=some r):Fine Try.prog Mo (Zjm x0 x1 r):=
 Zi Try.func47 (bnK h fun r0 hr0 h=>itK h (fun g1 h=>rtK h (rr (Z7 hr0) (gg g1 ee))) fun g1 h=>itK h (fun g2 h=>rtK h (rr (Z7 hr0) (gg g1 (gg g2 ee)))) fun g2 h=>bnK h fun r1 hr1 h=>itK h (fun g3 h=>rtK h (rr (Z7 hr0) (gg g1 (gg g2 (rr (Z7 hr1) (gg g3 ee)))))) fun g3 h=>rtK h (rr (Z7 hr0) (gg g1 (gg g2 (rr (Z7 hr1) (gg g3 ee))))))
abbrev Zgs (x0:GModel) (x1:GModel) (r:Bool):Y:=(31,[.agg (GModel.enc x0),.agg (GModel.enc x1)],bl r,[.undef,.undef])
theorem Zfz {x0:GModel} {x1:GModel} {r:Bool} (h:W6 x0 x1=some r):Fine Try.prog Mo (Zgs x0 x1 r):=
 Zi Try.func31 (bnK h fun r0 hr0 h=>itK h (fun g1 h=>rtK h (rr (Z7 hr0) (gg g1 ee))) fun g1 h=>bnK h fun r1 hr1 h=>itK h (fun g2 h=>rtK h (rr (Z7 hr0) (gg g1 (rr (Zdw hr1) (gg g2 ee))))) fun g2 h=>rtK h (rr (Z7 hr0) (gg g1 (rr (Zdw hr1) (gg g2 ee)))))
abbrev Zio (x0:GDone) (x1:GDone) (r:Bool):Y:=(48,[.agg (GDone.enc x0),.agg (GDone.enc x1)],bl r,[.undef,.undef])
theorem Zh9 {x0:GDone} {x1:GDone} {r:Bool} (h:Wy x0 x1=some r):Fine Try.prog Mo (Zio x0 x1 r):=
 Zi Try.func48 (itK h (fun g1 h=>rtK h (gg g1 ee)) fun g1 h=>itK h (fun g2 h=>rtK h (gg g1 (gg g2 ee))) fun g2 h=>itK h (fun g3 h=>rtK h (gg g1 (gg g2 (gg g3 ee)))) fun g3 h=>have p1 {q p} (k:Scr q p):=(gg g1 (gg g2 (gg g3 k)));itK h (fun g4 h=>rtK h (p1 (gg g4 ee))) fun g4 h=>itK h (fun g5 h=>rtK h (p1 (gg g4 (gg g5 ee)))) fun g5 h=>itK h (fun g6 h=>rtK h (p1 (gg g4 (gg g5 (gg g6 ee))))) fun g6 h=>itK h (fun g7 h=>rtK h (p1 (gg g4 (gg g5 (gg g6 (gg g7 ee)))))) fun g7 h=>rtK h (p1 (gg g4 (gg g5 (gg g6 (gg g7 ee))))))
abbrev Zbd (x0:List GDone) (x1:List GDone) (r:Bool):Y:=(32,[.tr (x0.map GDone.enc),.tr (x1.map GDone.enc)],bl r,[.undef,.undef])
theorem Zcz {x0:List GDone} {x1:List GDone} {r:Bool}:∀{m:Nat} {v0:Int},Xh x0 x1 m v0=some r→CS (Zbd x0 x1 r) Try.f32 [1,1,0,1,0] [(0,.tr (x0.map GDone.enc)),(1,.tr (x1.map GDone.enc)),(5,il v0)] []:=by
 intro m
 induction m with
 | zero=>intro v0 h;cases h
 | succ m ih=>exact fun {v0} h=>itK h (fun g1 h=>bnK h fun a0 ha0 h=>bnK h fun a1 ha1 h=>bnK h fun r0 hr0 h=>have p1 {q p} (k:Scr q p):=(lr GDone.enc x0 (gg g1 (xb GDone.enc ha0 (xb GDone.enc ha1 (rr (Zh9 hr0) k)))));itK h (fun g2 h=>rtK h (p1 (gg g2 ee))) fun g2 h=>cutX [] 14 (p1 (gg g2 ee)) (ih h)) fun g1 h=>rtK h (lr GDone.enc x0 (gg g1 ee))
theorem Zbe {x0:List GDone} {x1:List GDone} {r:Bool} (h:Qa x0 x1=some r):Fine Try.prog Mo (Zbd x0 x1 r):=
 Zi Try.func32 (itK h (fun g1 h=>rtK h (lr GDone.enc x0 (lr GDone.enc x1 (gg g1 ee)))) fun g1 h=>cutX [] 11 (lr GDone.enc x0 (lr GDone.enc x1 (gg g1 ee))) (Zcz h))
abbrev Zkj (x0:GBus) (x1:GBus) (r:Bool):Y:=(8,[.agg (GBus.enc x0),.agg (GBus.enc x1)],bl r,[.undef,.undef])
theorem Ziz {x0:GBus} {x1:GBus} {r:Bool} (h:Ky x0 x1=some r):Fine Try.prog Mo (Zkj x0 x1 r):=
 Zi Try.func8 (bnK h fun r0 hr0 h=>have p1 {q p} (k:Scr q p):=(rr (Zhz hr0) k);itK h (fun g1 h=>rtK h (p1 (gg g1 ee))) fun g1 h=>itK h (fun g2 h=>rtK h (p1 (gg g1 (gg g2 ee)))) fun g2 h=>bnK h fun r1 hr1 h=>have p2 {q p} (k:Scr q p):=(p1 (gg g1 (gg g2 (rr (Ziu hr1) k))));itK h (fun g3 h=>rtK h (p2 (gg g3 ee))) fun g3 h=>bnK h fun r2 hr2 h=>have p3 {q p} (k:Scr q p):=(p2 (gg g3 (rr (Zjl hr2) k)));itK h (fun g4 h=>rtK h (p3 (gg g4 ee))) fun g4 h=>bnK h fun r3 hr3 h=>have p4 {q p} (k:Scr q p):=(p3 (gg g4 (rr (Zd3 hr3) k)));itK h (fun g5 h=>rtK h (p4 (gg g5 ee))) fun g5 h=>bnK h fun r4 hr4 h=>have p5 {q p} (k:Scr q p):=(p4 (gg g5 (rr (Z7 hr4) k)));itK h (fun g6 h=>rtK h (p5 (gg g6 ee))) fun g6 h=>itK h (fun g7 h=>rtK h (p5 (gg g6 (gg g7 ee)))) fun g7 h=>have p6 {q p} (k:Scr q p):=(p5 (gg g6 (gg g7 k)));itK h (fun g8 h=>rtK h (p6 (gg g8 ee))) fun g8 h=>itK h (fun g9 h=>rtK h (p6 (gg g8 (gg g9 ee)))) fun g9 h=>bnK h fun r5 hr5 h=>have p7 {q p} (k:Scr q p):=(p6 (gg g8 (gg g9 (rr (Zcq hr5) k))));itK h (fun g10 h=>rtK h (p7 (gg g10 ee))) fun g10 h=>bnK h fun r6 hr6 h=>have p8 {q p} (k:Scr q p):=(p7 (gg g10 (rr (Zcq hr6) k)));itK h (fun g11 h=>rtK h (p8 (gg g11 ee))) fun g11 h=>bnK h fun r7 hr7 h=>have p9 {q p} (k:Scr q p):=(p8 (gg g11 (rr (Zfz hr7) k)));itK h (fun g12 h=>rtK h (p9 (gg g12 ee))) fun g12 h=>itK h (fun g13 h=>rtK h (p9 (gg g12 (gg g13 ee)))) fun g13 h=>bnK h fun r8 hr8 h=>itK h (fun g14 h=>rtK h (p9 (gg g12 (gg g13 (rr (Zbe hr8) (gg g14 ee)))))) fun g14 h=>rtK h (p9 (gg g12 (gg g13 (rr (Zbe hr8) (gg g14 ee))))))
abbrev J8 (x0:GBus) (x1:Int) (r:Bool):Y:=(3,[.agg (GBus.enc x0),il x1],bl r,[.undef,.undef])
theorem J7 {x0:GBus} {x1:Int} {r:Bool} (h:Xg x0 x1=some r):Fine Try.prog Mo (J8 x0 x1 r):=
 Zi Try.func3 (bnK h fun r0 hr0 h=>itK h (fun g1 h=>rtK h (rr (Zdx hr0) (gg g1 ee))) fun g1 h=>bnK h fun r1 hr1 h=>bnK h fun r2 hr2 h=>bnK h fun r3 hr3 h=>bnK h fun r4 hr4 h=>have p1 {q p} (k:Scr q p):=(rr (Zdx hr0) (gg g1 (rr (Zay hr1) (kk 8 (GBus.so r1 (rr (Zef hr2) (rr (Zay hr3) (kk 8 (GBus.so r3 (rr (Zee hr4) k))))))))));itK h (fun g2 h=>rtK h (p1 (gg g2 ee))) fun g2 h=>bnK h fun r5 hr5 h=>bnK h fun r6 hr6 h=>have p2 {q p} (k:Scr q p):=(p1 (gg g2 (rr (Zay hr5) (kk 16 (GBus.so r3 (GBus.so r5 (rr (Ziz hr6) k)))))));itK h (fun g3 h=>rtK h (p2 (gg g3 ee))) fun g3 h=>rtK h (p2 (gg g3 ee)))
end Go.Proofs.Ytgmmcfpabnoekaa.Ev
