/- A part of the proof of FnExactFinished: see the text YtgmmcfpabnoekaaLawFnExactFinished for what is proved and its conditions. Conditions here: those in each line. -/
import Derived.Test.YtgmmcfpabnoekaaA3
namespace Go.Proofs.Ytgmmcfpabnoekaa.Ev
open Go Go.Proofs
set_option linter.unusedVariables false
set_option linter.unusedSimpArgs false
set_option linter.unusedSectionVars false
variable [Anchor]
def Mo:Hints:=⟨fun f=>(List.lookup f [(41,[.mv,.rd])]).getD [],fun _=>false⟩
abbrev Y:=FuncId×List V×V×List V
abbrev RF (fn:Func) (y:Y):Ex→St→Prop:=RetC Try.prog Mo y.1 fn y.2.1 y.2.2
theorem Ziu {P:Program} (hm:P.follows .mixedOrders=true) (h:P.funcs.toList.all (fun fn=>(match fn.body with|some c=>Z7 fn.ntmps c|none=>true)&&!(fn.name == "runtime.NumGoroutine"))=true):FuncsOk P:=by
 rw[List.all_eq_true] at h
 refine⟨hm,fun f fn c hf hc=>?_,fun f fn hf=>?_⟩
 ·have:=h fn (Array.mem_toList_iff.2 (Array.mem_of_getElem? hf))
  rw[hc] at this
  simp only[Bool.and_eq_true] at this
  exact this.1
 ·have:=h fn (Array.mem_toList_iff.2 (Array.mem_of_getElem? hf))
  simp only[Bool.and_eq_true,Bool.not_eq_true'] at this
  exact this.2
theorem fOk:FuncsOk Try.prog:=Ziu (by kernel_rfl) (by kernel_rfl)
theorem bnK {α β:Type} {x:Option α} {f:α→Option β} {b:β} {G:Prop} (h:x.bind f=some b) (k:∀a,x=some a→f a=some b→G):G:=by
 obtain⟨a,h1,h2⟩:=Zkx h;exact k a h1 h2
theorem itK {β:Type} {t:Bool} {x y:Option β} {b:β} {G:Prop} (h:(if t=true then x else y)=some b) (k1:t=true→x=some b→G) (k2:t=false→y=some b→G):G:=by
 rcases Zmc h with⟨h1,h2⟩|⟨h1,h2⟩
 ·exact k1 h1 h2
 ·exact k2 h1 h2
theorem rtQ {α:Type} {F:α→Y} {fn:Func} {a r:α} {p:Prop} {stk:List It} {s:St} (h:some a=some r) (q:List O) (hp:p) (e:told (runK Try.prog Mo (F a).1 fn (F a).2.1 100000 stk s q)=some (p,(F a).2.2):=by kernel_rfl):SX Try.prog (RF fn (F r)) stk .normal s:=by
 cases h;exact Zhq fOk 100000 q hp e
theorem rtK {α:Type} {F:α→Y} {fn:Func} {a r:α} {p:Prop} {stk:List It} {s:St} {q:List O} (h:some a=some r) (hp:Scr q p) (e:told (runK Try.prog Mo (F a).1 fn (F a).2.1 100000 stk s q)=some (p,(F a).2.2):=by kernel_rfl):SX Try.prog (RF fn (F r)) stk .normal s:=by
 cases h;exact Zhq fOk 100000 q hp e
theorem cutQ {y:Y} {fn:Func} {stk k2:List It} {s:St} {p:Prop} {l:List (Nat×V)} {h:List (Id×Blk)} {ep:Nat} (f:List (Id×Id)) (n:Nat) (q:List O) (hp:p) (hn:SX Try.prog (RF fn y) k2 .normal (mkS l h ep))
  (e:told (cutK Try.prog Mo f l h n stk s q)=some (p,(k2,renL f l h)):=by kernel_rfl) (hb:(isC k2&&cutB f l h ep)=true:=by kernel_rfl):SX Try.prog (RF fn y) stk .normal s:=Zg9 (M:=Mo) fOk f n q hp hn e hb
theorem cutX {y:Y} {fn:Func} {stk k2:List It} {s:St} {p:Prop} {l:List (Nat×V)} {h:List (Id×Blk)} {ep:Nat} {q:List O} (f:List (Id×Id)) (n:Nat) (hp:Scr q p) (hn:SX Try.prog (RF fn y) k2 .normal (mkS l h ep))
  (e:told (cutK Try.prog Mo f l h n stk s q)=some (p,(k2,renL f l h)):=by kernel_rfl) (hb:(isC k2&&cutB f l h ep)=true:=by kernel_rfl):SX Try.prog (RF fn y) stk .normal s:=Zg9 (M:=Mo) fOk f n q hp hn e hb
theorem Zj {α:Type} {F:α→Y} {fn:Func} {r:α} (hfn:Try.prog.funcs[(F r).1]?=some fn) (h:SX Try.prog (RF fn (F r)) [.c (Zb4 fn)] .normal (entS Mo (F r).1 (F r).2.1)) (hc:fn.body=some (Zb4 fn):=by kernel_rfl) (hs:(St.enters ⟨fun _=>.undef,fun _=>none,0⟩ 0 (Mo.modes (F r).1) (F r).2.1).isSome=true:=by kernel_rfl):
  Fine Try.prog Mo (F r):=Zlw fOk hfn hc hs h
abbrev CS (y:Y) (fn:Func) (p:List Nat) (l:List (Nat×V)) (h:List (Id×Blk)):Prop:=SX Try.prog (RF fn y) (at_ p (Zb4 fn) []) .normal (mkS l h 1)
abbrev Zfq (x0:List GMConf) (x1:Int) (r:Int):Y:=(33,[.tr (x0.map GMConf.enc),il x1],il r,[.undef,.undef])
theorem Zag {x0:List GMConf} {x1:Int} {r:Int} (h:Zap x0 x1=some r):Fine Try.prog Mo (Zfq x0 x1 r):=
 Zj Try.func33 (itK h (fun g1 h=>rtK h (lr GMConf.enc x0 (gg g1 ee))) fun g1 h=>rtK h (lr GMConf.enc x0 (gg g1 ee)))
abbrev Zib (x0:GConf) (x1:Int) (r:Int):Y:=(9,[.agg (GConf.enc x0),il x1],il r,[.undef,.undef])
theorem Zhz {x0:GConf} {x1:Int} {r:Int} (h:J6 x0 x1=some r):Fine Try.prog Mo (Zib x0 x1 r):=
 Zj Try.func9 (bnK h fun r0 hr0 h=>itK h (fun g1 h=>rtK h (rr (Zag hr0) (gg g1 ee))) fun g1 h=>rtK h (rr (Zag hr0) (gg g1 ee)))
abbrev Zi0 (x0:List Int) (x1:Int) (r:Int):Y:=(12,[.tr (x0.map encI),il x1],il r,[.undef,.undef])
theorem Yf {x0:List Int} {x1:Int} {r:Int} (h:X9 x0 x1=some r):Fine Try.prog Mo (Zi0 x0 x1 r):=
 Zj Try.func12 (itK h (fun g1 h=>rtK h (lr encI x0 (gg g1 ee))) fun g1 h=>rtK h (lr encI x0 (gg g1 ee)))
abbrev Zi4 (x0:GReq) (x1:Int) (r:Int):Y:=(55,[.agg (GReq.enc x0),il x1],il r,[.undef,.undef])
theorem Zd0 {x0:GReq} {x1:Int} {r:Int} (h:Ky x0 x1=some r):Fine Try.prog Mo (Zi4 x0 x1 r):=
 Zj Try.func55 (bnK h fun r0 hr0 h=>itK h (fun g1 h=>rtK h (rr (Yf hr0) (gg g1 ee))) fun g1 h=>rtK h (rr (Yf hr0) (gg g1 ee)))
abbrev Zc6 (x0:List GReq) (x1:Int) (r:Int):Y:=(49,[.tr (x0.map GReq.enc),il x1],il r,[.undef,.undef])
theorem Zdi {x0:List GReq} {x1:Int} {r:Int}:∀{m:Nat} {v0:Int} {v1:Int},X5 x0 x1 m v0 v1=some r→CS (Zc6 x0 x1 r) Try.f49 [1,1,1,0,1,0] [(0,.tr (x0.map GReq.enc)),(1,il v0),(5,il v1)] []:=by
 intro m
 induction m with
 | zero=>intro v0 v1 h;cases h
 | succ m ih=>exact fun {v0} {v1} h=>itK h (fun g1 h=>bnK h fun a0 ha0 h=>bnK h fun r0 hr0 h=>itK h (fun g2 h=>rtK h (lr GReq.enc x0 (gg g1 (xb GReq.enc ha0 (rr (Zd0 hr0) (gg g2 ee)))))) fun g2 h=>cutX [] 16 (lr GReq.enc x0 (gg g1 (xb GReq.enc ha0 (rr (Zd0 hr0) (gg g2 ee))))) (ih h)) fun g1 h=>rtK h (lr GReq.enc x0 (gg g1 ee))
theorem Zc0 {x0:List GReq} {x1:Int} {r:Int} (h:Jq x0 x1=some r):Fine Try.prog Mo (Zc6 x0 x1 r):=
 Zj Try.func49 (itK h (fun g1 h=>rtK h (lr GReq.enc x0 (gg g1 ee))) fun g1 h=>cutX [] 13 (lr GReq.enc x0 (gg g1 ee)) (Zdi h))
abbrev Zje (x0:GMst) (x1:Int) (r:Int):Y:=(34,[.agg (GMst.enc x0),il x1],il r,[.undef,.undef])
theorem Zd1 {x0:GMst} {x1:Int} {r:Int} (h:K5 x0 x1=some r):Fine Try.prog Mo (Zje x0 x1 r):=
 Zj Try.func34 (bnK h fun r0 hr0 h=>itK h (fun g1 h=>rtK h (rr (Zc0 hr0) (gg g1 ee))) fun g1 h=>rtK h (rr (Zc0 hr0) (gg g1 ee)))
abbrev Zcj (x0:List GMst) (x1:Int) (r:Int):Y:=(10,[.tr (x0.map GMst.enc),il x1],il r,[.undef,.undef])
theorem Zc7 {x0:List GMst} {x1:Int} {r:Int}:∀{m:Nat} {v0:Int} {v1:Int},Wc x0 x1 m v0 v1=some r→CS (Zcj x0 x1 r) Try.f10 [1,1,1,0,1,0] [(0,.tr (x0.map GMst.enc)),(1,il v0),(5,il v1)] []:=by
 intro m
 induction m with
 | zero=>intro v0 v1 h;cases h
 | succ m ih=>exact fun {v0} {v1} h=>itK h (fun g1 h=>bnK h fun a0 ha0 h=>bnK h fun r0 hr0 h=>itK h (fun g2 h=>rtK h (lr GMst.enc x0 (gg g1 (xb GMst.enc ha0 (rr (Zd1 hr0) (gg g2 ee)))))) fun g2 h=>cutX [] 16 (lr GMst.enc x0 (gg g1 (xb GMst.enc ha0 (rr (Zd1 hr0) (gg g2 ee))))) (ih h)) fun g1 h=>rtK h (lr GMst.enc x0 (gg g1 ee))
theorem Zh6 {x0:List GMst} {x1:Int} {r:Int} (h:J3 x0 x1=some r):Fine Try.prog Mo (Zcj x0 x1 r):=
 Zj Try.func10 (itK h (fun g1 h=>rtK h (lr GMst.enc x0 (gg g1 ee))) fun g1 h=>cutX [] 13 (lr GMst.enc x0 (gg g1 ee)) (Zc7 h))
abbrev Zea (x0:List GBucket) (x1:Int) (r:Int):Y:=(11,[.tr (x0.map GBucket.enc),il x1],il r,[.undef,.undef])
theorem Zd5 {x0:List GBucket} {x1:Int} {r:Int} (h:J9 x0 x1=some r):Fine Try.prog Mo (Zea x0 x1 r):=
 Zj Try.func11 (itK h (fun g1 h=>rtK h (lr GBucket.enc x0 (gg g1 ee))) fun g1 h=>rtK h (lr GBucket.enc x0 (gg g1 ee)))
abbrev Zi7 (x0:GDev) (x1:Int) (r:Int):Y:=(35,[.agg (GDev.enc x0),il x1],il r,[.undef,.undef])
theorem Zdv {x0:GDev} {x1:Int} {r:Int} (h:Zdu x0 x1=some r):Fine Try.prog Mo (Zi7 x0 x1 r):=
 Zj Try.func35 (bnK h fun r0 hr0 h=>itK h (fun g1 h=>rtK h (rr (Yf hr0) (gg g1 ee))) fun g1 h=>bnK h fun r1 hr1 h=>itK h (fun g2 h=>rtK h (rr (Yf hr0) (gg g1 (rr (Yf hr1) (gg g2 ee))))) fun g2 h=>rtK h (rr (Yf hr0) (gg g1 (rr (Yf hr1) (gg g2 ee)))))
abbrev Zf6 (x0:GModel) (x1:Int) (r:Int):Y:=(13,[.agg (GModel.enc x0),il x1],il r,[.undef,.undef])
theorem Ja {x0:GModel} {x1:Int} {r:Int} (h:Jd x0 x1=some r):Fine Try.prog Mo (Zf6 x0 x1 r):=
 Zj Try.func13 (bnK h fun r0 hr0 h=>itK h (fun g1 h=>rtK h (rr (Yf hr0) (gg g1 ee))) fun g1 h=>bnK h fun r1 hr1 h=>itK h (fun g2 h=>rtK h (rr (Yf hr0) (gg g1 (rr (Zdv hr1) (gg g2 ee))))) fun g2 h=>rtK h (rr (Yf hr0) (gg g1 (rr (Zdv hr1) (gg g2 ee)))))
abbrev Zf5 (x0:List GDone) (x1:Int) (r:Int):Y:=(14,[.tr (x0.map GDone.enc),il x1],il r,[.undef,.undef])
theorem Zbp {x0:List GDone} {x1:Int} {r:Int} (h:Zbn x0 x1=some r):Fine Try.prog Mo (Zf5 x0 x1 r):=
 Zj Try.func14 (itK h (fun g1 h=>rtK h (lr GDone.enc x0 (gg g1 ee))) fun g1 h=>rtK h (lr GDone.enc x0 (gg g1 ee)))
abbrev Zj6 (x0:GBus) (x1:Int) (r:Int):Y:=(4,[.agg (GBus.enc x0),il x1],il r,[.undef,.undef])
theorem Zdz {x0:GBus} {x1:Int} {r:Int} (h:Zao x0 x1=some r):Fine Try.prog Mo (Zj6 x0 x1 r):=
 Zj Try.func4 (bnK h fun r0 hr0 h=>have p1 {q p} (k:Scr q p):=(rr (Zhz hr0) k);itK h (fun g1 h=>rtK h (p1 (gg g1 ee))) fun g1 h=>bnK h fun r1 hr1 h=>have p2 {q p} (k:Scr q p):=(p1 (gg g1 (rr (Zh6 hr1) k)));itK h (fun g2 h=>rtK h (p2 (gg g2 ee))) fun g2 h=>bnK h fun r2 hr2 h=>have p3 {q p} (k:Scr q p):=(p2 (gg g2 (rr (Zd5 hr2) k)));itK h (fun g3 h=>rtK h (p3 (gg g3 ee))) fun g3 h=>bnK h fun r3 hr3 h=>have p4 {q p} (k:Scr q p):=(p3 (gg g3 (rr (Yf hr3) k)));itK h (fun g4 h=>rtK h (p4 (gg g4 ee))) fun g4 h=>bnK h fun r4 hr4 h=>itK h (fun g5 h=>rtK h (p4 (gg g4 (rr (Ja hr4) (gg g5 ee))))) fun g5 h=>bnK h fun r5 hr5 h=>itK h (fun g6 h=>rtK h (p4 (gg g4 (rr (Ja hr4) (gg g5 (rr (Zbp hr5) (gg g6 ee))))))) fun g6 h=>rtK h (p4 (gg g4 (rr (Ja hr4) (gg g5 (rr (Zbp hr5) (gg g6 ee)))))))
abbrev Zg0 (x0:GMConf) (r:GMConf):Y:=(50,[.agg (GMConf.enc x0)],.agg (GMConf.enc r),[.undef])
theorem Zf3 {x0:GMConf} {r:GMConf} (h:K8 x0=some r):Fine Try.prog Mo (Zg0 x0 r):=
 Zj Try.func50 (rtK h ee)
abbrev Zam (x0:List GMConf) (r:List GMConf):Y:=(36,[.tr (x0.map GMConf.enc)],.own 110 (r.map GMConf.enc),[.undef])
theorem Zb3 {x0:List GMConf} {r:List GMConf}:∀{m:Nat} {v0:List GMConf} {v1:Int},Xf x0 m v0 v1=some r→CS (Zam x0 r) Try.f36 [1,1,0,1,0] [(0,.tr (x0.map GMConf.enc)),(3,.sl (1,1) 0 (v0.map GMConf.enc).length),(4,il v1)] [rx 1 110 (v0.map GMConf.enc)]:=by
 intro m
 induction m with
 | zero=>intro v0 v1 h;cases h
 | succ m ih=>exact fun {v0} {v1} h=>itK h (fun g1 h=>bnK h fun a0 ha0 h=>bnK h fun r0 hr0 h=>bnK h fun a1 ha1 h=>bnK h fun y0 hy0 h=>cutX [((1,1),(1,1))] 11 (lr GMConf.enc x0 (gg g1 (xb GMConf.enc ha0 (rr (Zf3 hr0) (xp GMConf.enc ha1 hy0 (tp (.num (y0.map GMConf.enc).length 0 0 []) (ob (setl GMConf.enc hy0) ee))))))) (ih h)) fun g1 h=>rtK h (lr GMConf.enc x0 (gg g1 (kk 1 (oe GMConf.enc v0 ee))))
theorem Zfj {x0:List GMConf} {r:List GMConf} (h:W7 x0=some r):Fine Try.prog Mo (Zam x0 r):=
 Zj Try.func36 (bnK h fun m0 hm0 h=>cutX [((1,1),(2,2048))] 8 (lr GMConf.enc x0 (tp (.mk ((x0.length:Int):Int).toNat (m0.map GMConf.enc)) (ob (mkn hm0) (ob (mkn hm0) (ob (mkl hm0) (ob (mkr GMConf.enc hm0) (ln GMConf.enc m0 ee))))))) (Zb3 h))
abbrev Zix (x0:GConf) (r:GConf):Y:=(16,[.agg (GConf.enc x0)],.agg [.own 110 (r.masters.map GMConf.enc),il r.quantum,il r.maxWait,il r.maxRetry,il r.maxSplit,il r.lockMost],[.undef])
theorem Zij {x0:GConf} {r:GConf} (h:Qt x0=some r):Fine Try.prog Mo (Zix x0 r):=
 Zj Try.func16 (bnK h fun r0 hr0 h=>rtK h (rr (Zfj hr0) (kk 1 (oe GMConf.enc r0 ee))))
abbrev Zc4 (x0:List Int) (r:List Int):Y:=(20,[.tr (x0.map encI)],.own 3 (r.map encI),[.undef])
theorem Zdc {x0:List Int} {r:List Int}:∀{m:Nat} {v0:List Int} {v1:Int},Wa x0 m v0 v1=some r→CS (Zc4 x0 r) Try.f20 [1,1,0,1,0] [(0,.tr (x0.map encI)),(3,.sl (1,1) 0 (v0.map encI).length),(4,il v1)] [rx 1 3 (v0.map encI)]:=by
 intro m
 induction m with
 | zero=>intro v0 v1 h;cases h
 | succ m ih=>exact fun {v0} {v1} h=>itK h (fun g1 h=>bnK h fun a0 ha0 h=>bnK h fun a1 ha1 h=>bnK h fun y0 hy0 h=>cutX [((1,1),(1,1))] 11 (lr encI x0 (gg g1 (xb encI ha0 (xp encI ha1 hy0 (tp (.num (y0.map encI).length 0 0 []) (ob (setl encI hy0) ee)))))) (ih h)) fun g1 h=>rtK h (lr encI x0 (gg g1 (kk 1 (oe encI v0 ee))))
theorem W5 {x0:List Int} {r:List Int} (h:Y3 x0=some r):Fine Try.prog Mo (Zc4 x0 r):=
 Zj Try.func20 (bnK h fun m0 hm0 h=>cutX [((1,1),(2,2048))] 8 (lr encI x0 (tp (.mk ((x0.length:Int):Int).toNat (m0.map encI)) (ob (mkn hm0) (ob (mkn hm0) (ob (mkl hm0) (ob (mkr encI hm0) (ln encI m0 ee))))))) (Zdc h))
abbrev Zjb (x0:GReq) (r:GReq):Y:=(56,[.agg (GReq.enc x0)],.agg [bl r.write,il r.addr,il r.size,il r.burst,bl r.lock,.own 3 (r.data_.map encI)],[.undef])
theorem Zj8 {x0:GReq} {r:GReq} (h:Qo x0=some r):Fine Try.prog Mo (Zjb x0 r):=
 Zj Try.func56 (bnK h fun r0 hr0 h=>rtK h (rr (W5 hr0) (kk 1 (oe encI r0 ee))))
abbrev Zco (x0:List GReq) (r:List GReq):Y:=(51,[.tr (x0.map GReq.enc)],.own 120 (r.map GReq.enc),[.undef])
theorem Zdo {x0:List GReq} {r:List GReq}:∀{m:Nat} {v0:List GReq} {v1:Int},Wd x0 m v0 v1=some r→CS (Zco x0 r) Try.f51 [1,1,0,1,0] [(0,.tr (x0.map GReq.enc)),(3,.sl (1,1) 0 (v0.map GReq.enc).length),(4,il v1)] [rx 1 120 (v0.map GReq.enc)]:=by
 intro m
 induction m with
 | zero=>intro v0 v1 h;cases h
 | succ m ih=>exact fun {v0} {v1} h=>itK h (fun g1 h=>bnK h fun a0 ha0 h=>bnK h fun r0 hr0 h=>bnK h fun a1 ha1 h=>bnK h fun y0 hy0 h=>cutX [((1,1),(1,1))] 11 (lr GReq.enc x0 (gg g1 (xb GReq.enc ha0 (rr (Zj8 hr0) (xq GReq.enc ha1 y0 (kk 1 (tp (.num (y0.map GReq.enc).length 0 0 []) (oe encI r0.data_ (ob (seto GReq.enc hy0) (ob (setl GReq.enc hy0) ee)))))))))) (ih h)) fun g1 h=>rtK h (lr GReq.enc x0 (gg g1 (kk 1 (oe GReq.enc v0 ee))))
theorem Ziy {x0:List GReq} {r:List GReq} (h:Q5 x0=some r):Fine Try.prog Mo (Zco x0 r):=
 Zj Try.func51 (bnK h fun m0 hm0 h=>cutX [((1,1),(2,2048))] 8 (lr GReq.enc x0 (tp (.mk ((x0.length:Int):Int).toNat (m0.map GReq.enc)) (ob (mkn hm0) (ob (mkn hm0) (ob (mkl hm0) (ob (mkr GReq.enc hm0) (ln GReq.enc m0 ee))))))) (Zdo h))
abbrev Zka (x0:GMst) (r:GMst):Y:=(37,[.agg (GMst.enc x0)],.agg [.own 120 (r.queue.map GReq.enc),il r.beat,il r.done,il r.tries,bl r.parted,bl r.broken],[.undef])
theorem Zjx {x0:GMst} {r:GMst} (h:K2 x0=some r):Fine Try.prog Mo (Zka x0 r):=
 Zj Try.func37 (bnK h fun r0 hr0 h=>rtK h (rr (Ziy hr0) (kk 1 (oe GReq.enc r0 ee))))
abbrev Zcz (x0:List GMst) (r:List GMst):Y:=(17,[.tr (x0.map GMst.enc)],.own 91 (r.map GMst.enc),[.undef])
theorem Zdb {x0:List GMst} {r:List GMst}:∀{m:Nat} {v0:List GMst} {v1:Int},X8 x0 m v0 v1=some r→CS (Zcz x0 r) Try.f17 [1,1,0,1,0] [(0,.tr (x0.map GMst.enc)),(3,.sl (1,1) 0 (v0.map GMst.enc).length),(4,il v1)] [rx 1 91 (v0.map GMst.enc)]:=by
 intro m
 induction m with
 | zero=>intro v0 v1 h;cases h
 | succ m ih=>exact fun {v0} {v1} h=>itK h (fun g1 h=>bnK h fun a0 ha0 h=>bnK h fun r0 hr0 h=>bnK h fun a1 ha1 h=>bnK h fun y0 hy0 h=>cutX [((1,1),(1,1))] 11 (lr GMst.enc x0 (gg g1 (xb GMst.enc ha0 (rr (Zjx hr0) (xq GMst.enc ha1 y0 (kk 1 (tp (.num (y0.map GMst.enc).length 0 0 []) (oe GReq.enc r0.queue (ob (seto GMst.enc hy0) (ob (setl GMst.enc hy0) ee)))))))))) (ih h)) fun g1 h=>rtK h (lr GMst.enc x0 (gg g1 (kk 1 (oe GMst.enc v0 ee))))
theorem Zh0 {x0:List GMst} {r:List GMst} (h:Qy x0=some r):Fine Try.prog Mo (Zcz x0 r):=
 Zj Try.func17 (bnK h fun m0 hm0 h=>cutX [((1,1),(2,2048))] 8 (lr GMst.enc x0 (tp (.mk ((x0.length:Int):Int).toNat (m0.map GMst.enc)) (ob (mkn hm0) (ob (mkn hm0) (ob (mkl hm0) (ob (mkr GMst.enc hm0) (ln GMst.enc m0 ee))))))) (Zdb h))
abbrev Zja (x0:GWrr) (r:GWrr):Y:=(18,[.agg (GWrr.enc x0)],.agg (GWrr.enc r),[.undef])
theorem Zjj {x0:GWrr} {r:GWrr} (h:Zaz x0=some r):Fine Try.prog Mo (Zja x0 r):=
 Zj Try.func18 (rtK h ee)
abbrev Zej (x0:GBucket) (r:GBucket):Y:=(38,[.agg (GBucket.enc x0)],.agg (GBucket.enc r),[.undef])
theorem Ze8 {x0:GBucket} {r:GBucket} (h:Ki x0=some r):Fine Try.prog Mo (Zej x0 r):=
 Zj Try.func38 (rtK h ee)
abbrev Zab (x0:List GBucket) (r:List GBucket):Y:=(19,[.tr (x0.map GBucket.enc)],.own 94 (r.map GBucket.enc),[.undef])
theorem Zbg {x0:List GBucket} {r:List GBucket}:∀{m:Nat} {v0:List GBucket} {v1:Int},Y7 x0 m v0 v1=some r→CS (Zab x0 r) Try.f19 [1,1,0,1,0] [(0,.tr (x0.map GBucket.enc)),(3,.sl (1,1) 0 (v0.map GBucket.enc).length),(4,il v1)] [rx 1 94 (v0.map GBucket.enc)]:=by
 intro m
 induction m with
 | zero=>intro v0 v1 h;cases h
 | succ m ih=>exact fun {v0} {v1} h=>itK h (fun g1 h=>bnK h fun a0 ha0 h=>bnK h fun r0 hr0 h=>bnK h fun a1 ha1 h=>bnK h fun y0 hy0 h=>cutX [((1,1),(1,1))] 11 (lr GBucket.enc x0 (gg g1 (xb GBucket.enc ha0 (rr (Ze8 hr0) (xp GBucket.enc ha1 hy0 (tp (.num (y0.map GBucket.enc).length 0 0 []) (ob (setl GBucket.enc hy0) ee))))))) (ih h)) fun g1 h=>rtK h (lr GBucket.enc x0 (gg g1 (kk 1 (oe GBucket.enc v0 ee))))
theorem Zeb {x0:List GBucket} {r:List GBucket} (h:Wi x0=some r):Fine Try.prog Mo (Zab x0 r):=
 Zj Try.func19 (bnK h fun m0 hm0 h=>cutX [((1,1),(2,2048))] 8 (lr GBucket.enc x0 (tp (.mk ((x0.length:Int):Int).toNat (m0.map GBucket.enc)) (ob (mkn hm0) (ob (mkn hm0) (ob (mkl hm0) (ob (mkr GBucket.enc hm0) (ln GBucket.enc m0 ee))))))) (Zbg h))
abbrev Zio (x0:GBeat) (r:GBeat):Y:=(21,[.agg (GBeat.enc x0)],.agg (GBeat.enc r),[.undef])
theorem Zcf {x0:GBeat} {r:GBeat} (h:W1 x0=some r):Fine Try.prog Mo (Zio x0 r):=
 Zj Try.func21 (rtK h ee)
abbrev Zkf (x0:GDev) (r:GDev):Y:=(39,[.agg (GDev.enc x0)],.agg (GDev.ow r),[.undef])
theorem Zjt {x0:GDev} {r:GDev} (h:Zan x0=some r):Fine Try.prog Mo (Zkf x0 r):=
 Zj Try.func39 (bnK h fun r0 hr0 h=>bnK h fun r1 hr1 h=>rtK h (rr (W5 hr0) (rr (W5 hr1) (kk 2 (oe encI r0 (oe encI r1 ee))))))
abbrev Zgz (x0:GModel) (r:GModel):Y:=(22,[.agg (GModel.enc x0)],.agg (GModel.ow r),[.undef])
theorem Zgo {x0:GModel} {r:GModel} (h:Qh x0=some r):Fine Try.prog Mo (Zgz x0 r):=
 Zj Try.func22 (bnK h fun r0 hr0 h=>bnK h fun r1 hr1 h=>rtK h (rr (W5 hr0) (rr (Zjt hr1) (kk 3 (oe encI r0 (GDev.so r1 ee))))))
abbrev Zik (x0:GDone) (r:GDone):Y:=(40,[.agg (GDone.enc x0)],.agg (GDone.enc r),[.undef])
theorem Zis {x0:GDone} {r:GDone} (h:J7 x0=some r):Fine Try.prog Mo (Zik x0 r):=
 Zj Try.func40 (rtK h ee)
abbrev Zbk (x0:List GDone) (r:List GDone):Y:=(23,[.tr (x0.map GDone.enc)],.own 87 (r.map GDone.enc),[.undef])
theorem Zcb {x0:List GDone} {r:List GDone}:∀{m:Nat} {v0:List GDone} {v1:Int},Xp x0 m v0 v1=some r→CS (Zbk x0 r) Try.f23 [1,1,0,1,0] [(0,.tr (x0.map GDone.enc)),(3,.sl (1,1) 0 (v0.map GDone.enc).length),(4,il v1)] [rx 1 87 (v0.map GDone.enc)]:=by
 intro m
 induction m with
 | zero=>intro v0 v1 h;cases h
 | succ m ih=>exact fun {v0} {v1} h=>itK h (fun g1 h=>bnK h fun a0 ha0 h=>bnK h fun r0 hr0 h=>bnK h fun a1 ha1 h=>bnK h fun y0 hy0 h=>cutX [((1,1),(1,1))] 11 (lr GDone.enc x0 (gg g1 (xb GDone.enc ha0 (rr (Zis hr0) (xp GDone.enc ha1 hy0 (tp (.num (y0.map GDone.enc).length 0 0 []) (ob (setl GDone.enc hy0) ee))))))) (ih h)) fun g1 h=>rtK h (lr GDone.enc x0 (gg g1 (kk 1 (oe GDone.enc v0 ee))))
theorem Zg7 {x0:List GDone} {r:List GDone} (h:Qc x0=some r):Fine Try.prog Mo (Zbk x0 r):=
 Zj Try.func23 (bnK h fun m0 hm0 h=>cutX [((1,1),(2,2048))] 8 (lr GDone.enc x0 (tp (.mk ((x0.length:Int):Int).toNat (m0.map GDone.enc)) (ob (mkn hm0) (ob (mkn hm0) (ob (mkl hm0) (ob (mkr GDone.enc hm0) (ln GDone.enc m0 ee))))))) (Zcb h))
abbrev Zkl (x0:GBus) (r:GBus):Y:=(6,[.agg (GBus.enc x0)],.agg (GBus.ow r),[.undef])
theorem Zai {x0:GBus} {r:GBus} (h:Wo x0=some r):Fine Try.prog Mo (Zkl x0 r):=
 Zj Try.func6 (bnK h fun r0 hr0 h=>bnK h fun r1 hr1 h=>bnK h fun r2 hr2 h=>bnK h fun r3 hr3 h=>bnK h fun r4 hr4 h=>bnK h fun r5 hr5 h=>bnK h fun r6 hr6 h=>bnK h fun r7 hr7 h=>bnK h fun r8 hr8 h=>rtK h (rr (Zij hr0) (rr (Zh0 hr1) (rr (Zjj hr2) (rr (Zeb hr3) (rr (W5 hr4) (rr (Zcf hr5) (rr (Zcf hr6) (rr (Zgo hr7) (rr (Zg7 hr8) (kk 8 (oe GMConf.enc r0.masters (oe GMst.enc r1 (oe GBucket.enc r3 (oe encI r4 (GModel.so r7 (oe GDone.enc r8 ee)))))))))))))))))
abbrev Zb6 (x0:List GDone) (x1:Int) (r:List GDone):Y:=(15,[.tr (x0.map GDone.enc),il x1],.own 87 (r.map GDone.enc),[.undef,.undef])
theorem Zc8 {x0:List GDone} {x1:Int} {r:List GDone}:∀{m:Nat} {v0:List GDone} {v1:Int},X3 x0 x1 m v0 v1=some r→CS (Zb6 x0 x1 r) Try.f15 [1,1,0,1,0] [(0,.tr (x0.map GDone.enc)),(1,il x1),(5,.sl (1,1) 0 (v0.map GDone.enc).length),(6,il v1)] [rx 1 87 (v0.map GDone.enc)]:=by
 intro m
 induction m with
 | zero=>intro v0 v1 h;cases h
 | succ m ih=>exact fun {v0} {v1} h=>itK h (fun g1 h=>bnK h fun a0 ha0 h=>itK h (fun g2 h=>bnK h fun z0 hz0 h=>cutX [((1,1),(4,6144))] 14 (lr GDone.enc x0 (gg g1 (xb GDone.enc ha0 (gg g2 (xb GDone.enc ha0 (ta GDone.enc [a0] z0 (kk 1 (oa 7 GDone.enc_len a0 (ox GDone.enc hz0 (ln GDone.enc z0 (oe GDone.enc z0 ee))))))))))) (ih h)) fun g2 h=>cutX [((1,1),(1,1))] 14 (lr GDone.enc x0 (gg g1 (xb GDone.enc ha0 (gg g2 (ln GDone.enc v0 ee))))) (ih h)) fun g1 h=>rtK h (lr GDone.enc x0 (gg g1 (kk 1 (oe GDone.enc v0 ee))))
theorem Zi3 {x0:List GDone} {x1:Int} {r:List GDone} (h:Qx x0 x1=some r):Fine Try.prog Mo (Zb6 x0 x1 r):=
 Zj Try.func15 (cutX [((1,1),(2,0))] 8 (tp (.num ([].map GDone.enc).length 0 0 []) (ob (show 0=([].map GDone.enc).length from rfl) ee)) (Zc8 h))
abbrev Zfg (x0:GBus) (x1:Int) (r:Int):Y:=(5,[.agg (GBus.enc x0),il x1],il r,[.undef,.undef])
theorem Zfs {x0:GBus} {x1:Int} {r:Int} (h:Kl x0 x1=some r):Fine Try.prog Mo (Zfg x0 x1 r):=
 Zj Try.func5 (bnK h fun r0 hr0 h=>rtK h (rr (Zi3 hr0) (lr GDone.enc r0 ee)))
abbrev Xu (x0:List GDone) (r:List GDone):Y:=(42,[.tr (x0.map GDone.enc)],.own 87 (r.map GDone.enc),[.undef])
theorem Km {x0:List GDone} {r:List GDone} (h:Ye x0=some r):Fine Try.prog Mo (Xu x0 r):=by
 refine Zj Try.func42 ?_
 unfold Ye at h
 cases x0 with
 | nil=>
  obtain rfl:[]=r:=(Zl8 h)
  have hn:CS (Xu [] []) Try.f42 [1,0,0] [(0,.tr [])] []:=Zlo Mo fOk (k:=at_ [1,0,1] (Zb4 Try.f42) []) (x0:=.tmp 0) (d0:=3) (d1:=4) (t:=51) (e:=87) (y:=.const (.slice none 0 0)) (by kernel_rfl) (by kernel_rfl) rfl rfl fun b=>by
   cases b with
   | true=>exact rtQ rfl [.k] tt
   | false=>exact rtQ rfl [.k,.app [] true [] 0,.k] (aa (Eq.refl ([]:List (List V))) (aa (Eq.refl true) (aa (Eq.refl true) (aa (Eq.refl 0) (aa (apz 56) (aa (Eq.refl ([]:List (List V))) (aa (Eq.refl 0) (aa (Eq.refl 0) tt))))))))
  exact cutQ [] 4 [] tt hn
 | cons a l=>
  exact rtQ rfl [.k,.app ((a::l).map GDone.enc) true (r.map GDone.enc) (r.map GDone.enc).length,.k] (aa (List.cons_ne_nil (GDone.enc a) (l.map GDone.enc)) (aa (Eq.refl ((a::l).map GDone.enc)) (aa (ltr GDone.enc_lit (a::l)) (aa (alr 7 GDone.enc_len (a::l)) (aa (Eq.refl 0) (aa (apl GDone.enc h) (aa (apm0 GDone.enc h) (aa (lene GDone.enc r) (aa (lene GDone.enc r) tt)))))))))
abbrev Zem (x0:GDone) (x1:Int) (r:Bool):Y:=(43,[.agg (GDone.enc x0),.rp true [il x1] 0],bl r,[.undef,.undef])
theorem Ko {x0:GDone} {x1:Int} {r:Bool} (h:X2 x0 x1=some r):Fine Try.prog Mo (Zem x0 x1 r):=
 Zj Try.func43 (rtK h ee)
abbrev Yd (x0:List GDone) (x1c0:Int) (r:Int):Y:=(52,[.tr (x0.map GDone.enc),.fn 43 [.rp true [il x1c0] 0]],il r,[.undef,.undef])
theorem Y5 {x0:List GDone} {x1c0:Int} {r:Int}:∀{m:Nat} {v0:Int},Zq x0 x1c0 m v0=some r→CS (Yd x0 x1c0 r) Try.f52 [1,0,1,0] [(0,.tr (x0.map GDone.enc)),(1,.fn 43 [.rp true [il x1c0] 0]),(7,il (x0.length:Int)),(8,il v0)] []:=by
 intro m
 induction m with
 | zero=>intro v0 h;cases h
 | succ m ih=>exact fun {v0} h=>itK h (fun g1 h=>bnK h fun a0 ha0 h=>bnK h fun r0 hr0 h=>itK h (fun g2 h=>rtK h (gg g1 (xb GDone.enc ha0 (rr (Ko hr0) (gg g2 ee))))) fun g2 h=>cutX [] 16 (gg g1 (xb GDone.enc ha0 (rr (Ko hr0) (gg g2 ee)))) (ih h)) fun g1 h=>rtK h (gg g1 ee)
theorem Xg {x0:List GDone} {x1c0:Int} {r:Int} (h:Z3 x0 x1c0=some r):Fine Try.prog Mo (Yd x0 x1c0 r):=
 Zj Try.func52 (cutX [] 6 (lr GDone.enc x0 ee) (Y5 h))
abbrev Yb (x0:List GDone) (x1c0:Int) (r:List GDone):Y:=(41,[.own 87 (x0.map GDone.enc),.fn 43 [.rp true [il x1c0] 0]],.own 87 (r.map GDone.enc),[.undef,.undef])
theorem Yz {x0:List GDone} {x1c0:Int} {r:List GDone}:∀{m:Nat} {v0:List GDone} {v1:Int} {v2:Int},Zp x0 x1c0 m v0 v1 v2=some r→CS (Yb x0 x1c0 r) Try.f41 [1,1,1,0,1,0] [(0,.sl (1,1) 0 (v0.map GDone.enc).length),(1,.fn 43 [.rp true [il x1c0] 0]),(5,il v1),(6,il v2)] [rx 1 87 (v0.map GDone.enc)]:=by
 intro m
 induction m with
 | zero=>intro v0 v1 v2 h;cases h
 | succ m ih=>exact fun {v0} {v1} {v2} h=>itK h (fun g1 h=>bnK h fun a0 ha0 h=>bnK h fun r0 hr0 h=>have p1 {q p} (k:Scr q p):=(lr GDone.enc v0 (gg g1 (xd GDone.enc ha0 (rr (Ko hr0) k))));itK h (fun g2 h=>bnK h fun a1 ha1 h=>bnK h fun y0 hy0 h=>cutX [((1,1),(1,1))] 18 (p1 (gg g2 (xp GDone.enc ha1 hy0 (tp (.num (y0.map GDone.enc).length 0 0 []) (ob (setl GDone.enc hy0) ee))))) (ih h)) fun g2 h=>cutX [((1,1),(1,1))] 16 (p1 (gg g2 (ln GDone.enc v0 ee))) (ih h)) fun g1 h=>bnK h fun s0 hs0 h=>bnK h fun y1 hy1 h=>bnK h fun s1 hs1 h=>rtK h (lr GDone.enc v0 (gg g1 (tp (.num (v1:Int).toNat ((v0.length:Int):Int).toNat (((v0.length:Int):Int).toNat - (v1:Int).toNat) []) (kk 1 (tp (.app (y1.map GDone.enc) true [] 0) (tp (.num (0:Int).toNat (v1:Int).toNat ((v1:Int).toNat - (0:Int).toNat) []) (kk 1 (tp (.mk 0 (s1.map GDone.enc)) (oe GDone.enc v0 (ob (sln hs0).1 (ob (lenr GDone.enc v0) (ob (sll GDone.enc hs0) (ob (alr 7 GDone.enc_len v0) (ob (Eq.refl (((v0.length:Int):Int).toNat - (v1:Int).toNat)) (ob (clrl GDone.enc hy1) (ob (clrr GDone.enc hy1) (ob (clrs GDone.enc hy1) (ob (Eq.refl 0) (ob (sln hs1).2 (ob (sll GDone.enc hs1) (ob (alr 7 GDone.enc_len y1) (ob (Eq.refl ((v1:Int).toNat - (0:Int).toNat)) (ob (sla GDone.enc hs1) (ob (slr GDone.enc hs1) ee))))))))))))))))))))))))
theorem Xd {x0:List GDone} {x1c0:Int} {r:List GDone} (h:Z1 x0 x1c0=some r):Fine Try.prog Mo (Yb x0 x1c0 r):=
 Zj Try.func41 (bnK h fun r1 hr1 h=>have p1 {q p} (k:Scr q p):=(kk 1 (oe GDone.enc x0 (rr (Xg hr1) k)));itK h (fun g1 h=>rtK h (p1 (gg g1 (kk 1 (oe GDone.enc x0 ee))))) fun g1 h=>cutX [((1,1),(0,0))] 13 (p1 (gg g1 (ln GDone.enc x0 ee))) (Yz h))
abbrev Zig (x0:List GDone) (x1:Int) (r:List GDone):Y:=(24,[.tr (x0.map GDone.enc),il x1],.own 87 (r.map GDone.enc),[.undef,.undef])
theorem Zh1 {x0:List GDone} {x1:Int} {r:List GDone} (h:Q4 x0 x1=some r):Fine Try.prog Mo (Zig x0 x1 r):=
 Zj Try.func24 (bnK h fun r0 hr0 h=>bnK h fun r1 hr1 h=>rtK h (rr (Km hr0) (kk 1 (oe GDone.enc r0 (rr (Xd hr1) (kk 1 (oe GDone.enc r1 ee)))))))
abbrev Zes (x0:GBus) (x1:Int) (r:Int):Y:=(7,[.agg (GBus.enc x0),il x1],il r,[.undef,.undef])
theorem Zey {x0:GBus} {x1:Int} {r:Int} (h:Wy x0 x1=some r):Fine Try.prog Mo (Zes x0 x1 r):=
 Zj Try.func7 (bnK h fun r0 hr0 h=>rtK h (rr (Zh1 hr0) (lr GDone.enc r0 ee)))
abbrev Zgj (x0:GMConf) (x1:GMConf) (r:Bool):Y:=(53,[.agg (GMConf.enc x0),.agg (GMConf.enc x1)],bl r,[.undef,.undef])
theorem Zgq {x0:GMConf} {x1:GMConf} {r:Bool} (h:Wf x0 x1=some r):Fine Try.prog Mo (Zgj x0 x1 r):=
 Zj Try.func53 (itK h (fun g1 h=>rtK h (gg g1 ee)) fun g1 h=>itK h (fun g2 h=>rtK h (gg g1 (gg g2 ee))) fun g2 h=>itK h (fun g3 h=>rtK h (gg g1 (gg g2 (gg g3 ee)))) fun g3 h=>itK h (fun g4 h=>rtK h (gg g1 (gg g2 (gg g3 (gg g4 ee))))) fun g4 h=>rtK h (gg g1 (gg g2 (gg g3 (gg g4 ee)))))
abbrev Zak (x0:List GMConf) (x1:List GMConf) (r:Bool):Y:=(44,[.tr (x0.map GMConf.enc),.tr (x1.map GMConf.enc)],bl r,[.undef,.undef])
theorem Zbw {x0:List GMConf} {x1:List GMConf} {r:Bool}:∀{m:Nat} {v0:Int},Xe x0 x1 m v0=some r→CS (Zak x0 x1 r) Try.f44 [1,1,0,1,0] [(0,.tr (x0.map GMConf.enc)),(1,.tr (x1.map GMConf.enc)),(5,il v0)] []:=by
 intro m
 induction m with
 | zero=>intro v0 h;cases h
 | succ m ih=>exact fun {v0} h=>itK h (fun g1 h=>bnK h fun a0 ha0 h=>bnK h fun a1 ha1 h=>bnK h fun r0 hr0 h=>have p1 {q p} (k:Scr q p):=(lr GMConf.enc x0 (gg g1 (xb GMConf.enc ha0 (xb GMConf.enc ha1 (rr (Zgq hr0) k)))));itK h (fun g2 h=>rtK h (p1 (gg g2 ee))) fun g2 h=>cutX [] 14 (p1 (gg g2 ee)) (ih h)) fun g1 h=>rtK h (lr GMConf.enc x0 (gg g1 ee))
theorem Zeo {x0:List GMConf} {x1:List GMConf} {r:Bool} (h:W6 x0 x1=some r):Fine Try.prog Mo (Zak x0 x1 r):=
 Zj Try.func44 (itK h (fun g1 h=>rtK h (lr GMConf.enc x0 (lr GMConf.enc x1 (gg g1 ee)))) fun g1 h=>cutX [] 11 (lr GMConf.enc x0 (lr GMConf.enc x1 (gg g1 ee))) (Zbw h))
abbrev Zie (x0:GConf) (x1:GConf) (r:Bool):Y:=(25,[.agg (GConf.enc x0),.agg (GConf.enc x1)],bl r,[.undef,.undef])
theorem Zhy {x0:GConf} {x1:GConf} {r:Bool} (h:Qv x0 x1=some r):Fine Try.prog Mo (Zie x0 x1 r):=
 Zj Try.func25 (bnK h fun r0 hr0 h=>have p1 {q p} (k:Scr q p):=(rr (Zeo hr0) k);itK h (fun g1 h=>rtK h (p1 (gg g1 ee))) fun g1 h=>itK h (fun g2 h=>rtK h (p1 (gg g1 (gg g2 ee)))) fun g2 h=>itK h (fun g3 h=>rtK h (p1 (gg g1 (gg g2 (gg g3 ee))))) fun g3 h=>itK h (fun g4 h=>rtK h (p1 (gg g1 (gg g2 (gg g3 (gg g4 ee)))))) fun g4 h=>itK h (fun g5 h=>rtK h (p1 (gg g1 (gg g2 (gg g3 (gg g4 (gg g5 ee))))))) fun g5 h=>itK h (fun g6 h=>rtK h (p1 (gg g1 (gg g2 (gg g3 (gg g4 (gg g5 (gg g6 ee)))))))) fun g6 h=>rtK h (p1 (gg g1 (gg g2 (gg g3 (gg g4 (gg g5 (gg g6 ee))))))))
abbrev Zc3 (x0:List Int) (x1:List Int) (r:Bool):Y:=(29,[.tr (x0.map encI),.tr (x1.map encI)],bl r,[.undef,.undef])
theorem Zde {x0:List Int} {x1:List Int} {r:Bool}:∀{m:Nat} {v0:Int},We x0 x1 m v0=some r→CS (Zc3 x0 x1 r) Try.f29 [1,1,0,1,0] [(0,.tr (x0.map encI)),(1,.tr (x1.map encI)),(5,il v0)] []:=by
 intro m
 induction m with
 | zero=>intro v0 h;cases h
 | succ m ih=>exact fun {v0} h=>itK h (fun g1 h=>bnK h fun a0 ha0 h=>bnK h fun a1 ha1 h=>itK h (fun g2 h=>rtK h (lr encI x0 (gg g1 (xb encI ha0 (xb encI ha1 (gg g2 ee)))))) fun g2 h=>cutX [] 14 (lr encI x0 (gg g1 (xb encI ha0 (xb encI ha1 (gg g2 ee))))) (ih h)) fun g1 h=>rtK h (lr encI x0 (gg g1 ee))
theorem Z8 {x0:List Int} {x1:List Int} {r:Bool} (h:Y0 x0 x1=some r):Fine Try.prog Mo (Zc3 x0 x1 r):=
 Zj Try.func29 (itK h (fun g1 h=>rtK h (lr encI x0 (lr encI x1 (gg g1 ee)))) fun g1 h=>cutX [] 11 (lr encI x0 (lr encI x1 (gg g1 ee))) (Zde h))
abbrev Zjq (x0:GReq) (x1:GReq) (r:Bool):Y:=(57,[.agg (GReq.enc x0),.agg (GReq.enc x1)],bl r,[.undef,.undef])
theorem Zi6 {x0:GReq} {x1:GReq} {r:Bool} (h:Ql x0 x1=some r):Fine Try.prog Mo (Zjq x0 x1 r):=
 Zj Try.func57 (itK h (fun g1 h=>rtK h (gg g1 ee)) fun g1 h=>itK h (fun g2 h=>rtK h (gg g1 (gg g2 ee))) fun g2 h=>itK h (fun g3 h=>rtK h (gg g1 (gg g2 (gg g3 ee)))) fun g3 h=>itK h (fun g4 h=>rtK h (gg g1 (gg g2 (gg g3 (gg g4 ee))))) fun g4 h=>itK h (fun g5 h=>rtK h (gg g1 (gg g2 (gg g3 (gg g4 (gg g5 ee)))))) fun g5 h=>bnK h fun r0 hr0 h=>itK h (fun g6 h=>rtK h (gg g1 (gg g2 (gg g3 (gg g4 (gg g5 (rr (Z8 hr0) (gg g6 ee)))))))) fun g6 h=>rtK h (gg g1 (gg g2 (gg g3 (gg g4 (gg g5 (rr (Z8 hr0) (gg g6 ee))))))))
abbrev Zb7 (x0:List GReq) (x1:List GReq) (r:Bool):Y:=(54,[.tr (x0.map GReq.enc),.tr (x1.map GReq.enc)],bl r,[.undef,.undef])
theorem Zdk {x0:List GReq} {x1:List GReq} {r:Bool}:∀{m:Nat} {v0:Int},X4 x0 x1 m v0=some r→CS (Zb7 x0 x1 r) Try.f54 [1,1,0,1,0] [(0,.tr (x0.map GReq.enc)),(1,.tr (x1.map GReq.enc)),(5,il v0)] []:=by
 intro m
 induction m with
 | zero=>intro v0 h;cases h
 | succ m ih=>exact fun {v0} h=>itK h (fun g1 h=>bnK h fun a0 ha0 h=>bnK h fun a1 ha1 h=>bnK h fun r0 hr0 h=>have p1 {q p} (k:Scr q p):=(lr GReq.enc x0 (gg g1 (xb GReq.enc ha0 (xb GReq.enc ha1 (rr (Zi6 hr0) k)))));itK h (fun g2 h=>rtK h (p1 (gg g2 ee))) fun g2 h=>cutX [] 14 (p1 (gg g2 ee)) (ih h)) fun g1 h=>rtK h (lr GReq.enc x0 (gg g1 ee))
theorem Zi1 {x0:List GReq} {x1:List GReq} {r:Bool} (h:Q1 x0 x1=some r):Fine Try.prog Mo (Zb7 x0 x1 r):=
 Zj Try.func54 (itK h (fun g1 h=>rtK h (lr GReq.enc x0 (lr GReq.enc x1 (gg g1 ee)))) fun g1 h=>cutX [] 11 (lr GReq.enc x0 (lr GReq.enc x1 (gg g1 ee))) (Zdk h))
abbrev Zjg (x0:GMst) (x1:GMst) (r:Bool):Y:=(45,[.agg (GMst.enc x0),.agg (GMst.enc x1)],bl r,[.undef,.undef])
theorem Zjl {x0:GMst} {x1:GMst} {r:Bool} (h:Kv x0 x1=some r):Fine Try.prog Mo (Zjg x0 x1 r):=
 Zj Try.func45 (bnK h fun r0 hr0 h=>have p1 {q p} (k:Scr q p):=(rr (Zi1 hr0) k);itK h (fun g1 h=>rtK h (p1 (gg g1 ee))) fun g1 h=>itK h (fun g2 h=>rtK h (p1 (gg g1 (gg g2 ee)))) fun g2 h=>itK h (fun g3 h=>rtK h (p1 (gg g1 (gg g2 (gg g3 ee))))) fun g3 h=>itK h (fun g4 h=>rtK h (p1 (gg g1 (gg g2 (gg g3 (gg g4 ee)))))) fun g4 h=>itK h (fun g5 h=>rtK h (p1 (gg g1 (gg g2 (gg g3 (gg g4 (gg g5 ee))))))) fun g5 h=>itK h (fun g6 h=>rtK h (p1 (gg g1 (gg g2 (gg g3 (gg g4 (gg g5 (gg g6 ee)))))))) fun g6 h=>rtK h (p1 (gg g1 (gg g2 (gg g3 (gg g4 (gg g5 (gg g6 ee))))))))
abbrev Zcd (x0:List GMst) (x1:List GMst) (r:Bool):Y:=(26,[.tr (x0.map GMst.enc),.tr (x1.map GMst.enc)],bl r,[.undef,.undef])
theorem Zdm {x0:List GMst} {x1:List GMst} {r:Bool}:∀{m:Nat} {v0:Int},X6 x0 x1 m v0=some r→CS (Zcd x0 x1 r) Try.f26 [1,1,0,1,0] [(0,.tr (x0.map GMst.enc)),(1,.tr (x1.map GMst.enc)),(5,il v0)] []:=by
 intro m
 induction m with
 | zero=>intro v0 h;cases h
 | succ m ih=>exact fun {v0} h=>itK h (fun g1 h=>bnK h fun a0 ha0 h=>bnK h fun a1 ha1 h=>bnK h fun r0 hr0 h=>have p1 {q p} (k:Scr q p):=(lr GMst.enc x0 (gg g1 (xb GMst.enc ha0 (xb GMst.enc ha1 (rr (Zjl hr0) k)))));itK h (fun g2 h=>rtK h (p1 (gg g2 ee))) fun g2 h=>cutX [] 14 (p1 (gg g2 ee)) (ih h)) fun g1 h=>rtK h (lr GMst.enc x0 (gg g1 ee))
theorem Zht {x0:List GMst} {x1:List GMst} {r:Bool} (h:Qz x0 x1=some r):Fine Try.prog Mo (Zcd x0 x1 r):=
 Zj Try.func26 (itK h (fun g1 h=>rtK h (lr GMst.enc x0 (lr GMst.enc x1 (gg g1 ee)))) fun g1 h=>cutX [] 11 (lr GMst.enc x0 (lr GMst.enc x1 (gg g1 ee))) (Zdm h))
abbrev Zks (x0:GWrr) (x1:GWrr) (r:Bool):Y:=(27,[.agg (GWrr.enc x0),.agg (GWrr.enc x1)],bl r,[.undef,.undef])
theorem Zi9 {x0:GWrr} {x1:GWrr} {r:Bool} (h:Kt x0 x1=some r):Fine Try.prog Mo (Zks x0 x1 r):=
 Zj Try.func27 (itK h (fun g1 h=>rtK h (gg g1 ee)) fun g1 h=>itK h (fun g2 h=>rtK h (gg g1 (gg g2 ee))) fun g2 h=>rtK h (gg g1 (gg g2 ee)))
abbrev Zeu (x0:GBucket) (x1:GBucket) (r:Bool):Y:=(46,[.agg (GBucket.enc x0),.agg (GBucket.enc x1)],bl r,[.undef,.undef])
theorem Zfk {x0:GBucket} {x1:GBucket} {r:Bool} (h:Wz x0 x1=some r):Fine Try.prog Mo (Zeu x0 x1 r):=
 Zj Try.func46 (itK h (fun g1 h=>rtK h (gg g1 ee)) fun g1 h=>itK h (fun g2 h=>rtK h (gg g1 (gg g2 ee))) fun g2 h=>rtK h (gg g1 (gg g2 ee)))
abbrev Zad (x0:List GBucket) (x1:List GBucket) (r:Bool):Y:=(28,[.tr (x0.map GBucket.enc),.tr (x1.map GBucket.enc)],bl r,[.undef,.undef])
theorem Zbd {x0:List GBucket} {x1:List GBucket} {r:Bool}:∀{m:Nat} {v0:Int},Y9 x0 x1 m v0=some r→CS (Zad x0 x1 r) Try.f28 [1,1,0,1,0] [(0,.tr (x0.map GBucket.enc)),(1,.tr (x1.map GBucket.enc)),(5,il v0)] []:=by
 intro m
 induction m with
 | zero=>intro v0 h;cases h
 | succ m ih=>exact fun {v0} h=>itK h (fun g1 h=>bnK h fun a0 ha0 h=>bnK h fun a1 ha1 h=>bnK h fun r0 hr0 h=>have p1 {q p} (k:Scr q p):=(lr GBucket.enc x0 (gg g1 (xb GBucket.enc ha0 (xb GBucket.enc ha1 (rr (Zfk hr0) k)))));itK h (fun g2 h=>rtK h (p1 (gg g2 ee))) fun g2 h=>cutX [] 14 (p1 (gg g2 ee)) (ih h)) fun g1 h=>rtK h (lr GBucket.enc x0 (gg g1 ee))
theorem Zed {x0:List GBucket} {x1:List GBucket} {r:Bool} (h:Wl x0 x1=some r):Fine Try.prog Mo (Zad x0 x1 r):=
 Zj Try.func28 (itK h (fun g1 h=>rtK h (lr GBucket.enc x0 (lr GBucket.enc x1 (gg g1 ee)))) fun g1 h=>cutX [] 11 (lr GBucket.enc x0 (lr GBucket.enc x1 (gg g1 ee))) (Zbd h))
abbrev Ziz (x0:GBeat) (x1:GBeat) (r:Bool):Y:=(30,[.agg (GBeat.enc x0),.agg (GBeat.enc x1)],bl r,[.undef,.undef])
theorem Zcn {x0:GBeat} {x1:GBeat} {r:Bool} (h:Wx x0 x1=some r):Fine Try.prog Mo (Ziz x0 x1 r):=
 Zj Try.func30 (itK h (fun g1 h=>rtK h (gg g1 ee)) fun g1 h=>itK h (fun g2 h=>rtK h (gg g1 (gg g2 ee))) fun g2 h=>have p1 {q p} (k:Scr q p):=(gg g1 (gg g2 k));itK h (fun g3 h=>rtK h (p1 (gg g3 ee))) fun g3 h=>itK h (fun g4 h=>rtK h (p1 (gg g3 (gg g4 ee)))) fun g4 h=>itK h (fun g5 h=>rtK h (p1 (gg g3 (gg g4 (gg g5 ee))))) fun g5 h=>itK h (fun g6 h=>rtK h (p1 (gg g3 (gg g4 (gg g5 (gg g6 ee)))))) fun g6 h=>itK h (fun g7 h=>rtK h (p1 (gg g3 (gg g4 (gg g5 (gg g6 (gg g7 ee))))))) fun g7 h=>itK h (fun g8 h=>rtK h (p1 (gg g3 (gg g4 (gg g5 (gg g6 (gg g7 (gg g8 ee)))))))) fun g8 h=>rtK h (p1 (gg g3 (gg g4 (gg g5 (gg g6 (gg g7 (gg g8 ee))))))))
abbrev Zj3 (x0:GDev) (x1:GDev) (r:Bool):Y:=(47,[.agg (GDev.enc x0),.agg (GDev.enc x1)],bl r,[.undef,.undef])
theorem Zdp {x0:GDev} {x1:GDev} {r:Bool} (h:Za5 x0 x1=some r):Fine Try.prog Mo (Zj3 x0 x1 r):=
 Zj Try.func47 (bnK h fun r0 hr0 h=>itK h (fun g1 h=>rtK h (rr (Z8 hr0) (gg g1 ee))) fun g1 h=>itK h (fun g2 h=>rtK h (rr (Z8 hr0) (gg g1 (gg g2 ee)))) fun g2 h=>bnK h fun r1 hr1 h=>itK h (fun g3 h=>rtK h (rr (Z8 hr0) (gg g1 (gg g2 (rr (Z8 hr1) (gg g3 ee)))))) fun g3 h=>rtK h (rr (Z8 hr0) (gg g1 (gg g2 (rr (Z8 hr1) (gg g3 ee))))))
abbrev Zf7 (x0:GModel) (x1:GModel) (r:Bool):Y:=(31,[.agg (GModel.enc x0),.agg (GModel.enc x1)],bl r,[.undef,.undef])
theorem Zgk {x0:GModel} {x1:GModel} {r:Bool} (h:Qd x0 x1=some r):Fine Try.prog Mo (Zf7 x0 x1 r):=
 Zj Try.func31 (bnK h fun r0 hr0 h=>itK h (fun g1 h=>rtK h (rr (Z8 hr0) (gg g1 ee))) fun g1 h=>bnK h fun r1 hr1 h=>itK h (fun g2 h=>rtK h (rr (Z8 hr0) (gg g1 (rr (Zdp hr1) (gg g2 ee))))) fun g2 h=>rtK h (rr (Z8 hr0) (gg g1 (rr (Zdp hr1) (gg g2 ee)))))
abbrev Zh5 (x0:GDone) (x1:GDone) (r:Bool):Y:=(48,[.agg (GDone.enc x0),.agg (GDone.enc x1)],bl r,[.undef,.undef])
theorem Zh7 {x0:GDone} {x1:GDone} {r:Bool} (h:Wr x0 x1=some r):Fine Try.prog Mo (Zh5 x0 x1 r):=
 Zj Try.func48 (itK h (fun g1 h=>rtK h (gg g1 ee)) fun g1 h=>itK h (fun g2 h=>rtK h (gg g1 (gg g2 ee))) fun g2 h=>itK h (fun g3 h=>rtK h (gg g1 (gg g2 (gg g3 ee)))) fun g3 h=>have p1 {q p} (k:Scr q p):=(gg g1 (gg g2 (gg g3 k)));itK h (fun g4 h=>rtK h (p1 (gg g4 ee))) fun g4 h=>itK h (fun g5 h=>rtK h (p1 (gg g4 (gg g5 ee)))) fun g5 h=>itK h (fun g6 h=>rtK h (p1 (gg g4 (gg g5 (gg g6 ee))))) fun g6 h=>itK h (fun g7 h=>rtK h (p1 (gg g4 (gg g5 (gg g6 (gg g7 ee)))))) fun g7 h=>rtK h (p1 (gg g4 (gg g5 (gg g6 (gg g7 ee))))))
abbrev Zbs (x0:List GDone) (x1:List GDone) (r:Bool):Y:=(32,[.tr (x0.map GDone.enc),.tr (x1.map GDone.enc)],bl r,[.undef,.undef])
theorem Zc5 {x0:List GDone} {x1:List GDone} {r:Bool}:∀{m:Nat} {v0:Int},Xr x0 x1 m v0=some r→CS (Zbs x0 x1 r) Try.f32 [1,1,0,1,0] [(0,.tr (x0.map GDone.enc)),(1,.tr (x1.map GDone.enc)),(5,il v0)] []:=by
 intro m
 induction m with
 | zero=>intro v0 h;cases h
 | succ m ih=>exact fun {v0} h=>itK h (fun g1 h=>bnK h fun a0 ha0 h=>bnK h fun a1 ha1 h=>bnK h fun r0 hr0 h=>have p1 {q p} (k:Scr q p):=(lr GDone.enc x0 (gg g1 (xb GDone.enc ha0 (xb GDone.enc ha1 (rr (Zh7 hr0) k)))));itK h (fun g2 h=>rtK h (p1 (gg g2 ee))) fun g2 h=>cutX [] 14 (p1 (gg g2 ee)) (ih h)) fun g1 h=>rtK h (lr GDone.enc x0 (gg g1 ee))
theorem Zbm {x0:List GDone} {x1:List GDone} {r:Bool} (h:Qi x0 x1=some r):Fine Try.prog Mo (Zbs x0 x1 r):=
 Zj Try.func32 (itK h (fun g1 h=>rtK h (lr GDone.enc x0 (lr GDone.enc x1 (gg g1 ee)))) fun g1 h=>cutX [] 11 (lr GDone.enc x0 (lr GDone.enc x1 (gg g1 ee))) (Zc5 h))
abbrev Zjz (x0:GBus) (x1:GBus) (r:Bool):Y:=(8,[.agg (GBus.enc x0),.agg (GBus.enc x1)],bl r,[.undef,.undef])
theorem Zkd {x0:GBus} {x1:GBus} {r:Bool} (h:Ks x0 x1=some r):Fine Try.prog Mo (Zjz x0 x1 r):=
 Zj Try.func8 (bnK h fun r0 hr0 h=>have p1 {q p} (k:Scr q p):=(rr (Zhy hr0) k);itK h (fun g1 h=>rtK h (p1 (gg g1 ee))) fun g1 h=>itK h (fun g2 h=>rtK h (p1 (gg g1 (gg g2 ee)))) fun g2 h=>bnK h fun r1 hr1 h=>have p2 {q p} (k:Scr q p):=(p1 (gg g1 (gg g2 (rr (Zht hr1) k))));itK h (fun g3 h=>rtK h (p2 (gg g3 ee))) fun g3 h=>bnK h fun r2 hr2 h=>have p3 {q p} (k:Scr q p):=(p2 (gg g3 (rr (Zi9 hr2) k)));itK h (fun g4 h=>rtK h (p3 (gg g4 ee))) fun g4 h=>bnK h fun r3 hr3 h=>have p4 {q p} (k:Scr q p):=(p3 (gg g4 (rr (Zed hr3) k)));itK h (fun g5 h=>rtK h (p4 (gg g5 ee))) fun g5 h=>bnK h fun r4 hr4 h=>have p5 {q p} (k:Scr q p):=(p4 (gg g5 (rr (Z8 hr4) k)));itK h (fun g6 h=>rtK h (p5 (gg g6 ee))) fun g6 h=>itK h (fun g7 h=>rtK h (p5 (gg g6 (gg g7 ee)))) fun g7 h=>have p6 {q p} (k:Scr q p):=(p5 (gg g6 (gg g7 k)));itK h (fun g8 h=>rtK h (p6 (gg g8 ee))) fun g8 h=>itK h (fun g9 h=>rtK h (p6 (gg g8 (gg g9 ee)))) fun g9 h=>bnK h fun r5 hr5 h=>have p7 {q p} (k:Scr q p):=(p6 (gg g8 (gg g9 (rr (Zcn hr5) k))));itK h (fun g10 h=>rtK h (p7 (gg g10 ee))) fun g10 h=>bnK h fun r6 hr6 h=>have p8 {q p} (k:Scr q p):=(p7 (gg g10 (rr (Zcn hr6) k)));itK h (fun g11 h=>rtK h (p8 (gg g11 ee))) fun g11 h=>bnK h fun r7 hr7 h=>have p9 {q p} (k:Scr q p):=(p8 (gg g11 (rr (Zgk hr7) k)));itK h (fun g12 h=>rtK h (p9 (gg g12 ee))) fun g12 h=>itK h (fun g13 h=>rtK h (p9 (gg g12 (gg g13 ee)))) fun g13 h=>bnK h fun r8 hr8 h=>itK h (fun g14 h=>rtK h (p9 (gg g12 (gg g13 (rr (Zbm hr8) (gg g14 ee)))))) fun g14 h=>rtK h (p9 (gg g12 (gg g13 (rr (Zbm hr8) (gg g14 ee))))))
abbrev Zae (x0:GBus) (x1:Int) (r:Bool):Y:=(3,[.agg (GBus.enc x0),il x1],bl r,[.undef,.undef])
theorem Zaf {x0:GBus} {x1:Int} {r:Bool} (h:Xl x0 x1=some r):Fine Try.prog Mo (Zae x0 x1 r):=
 Zj Try.func3 (bnK h fun r0 hr0 h=>itK h (fun g1 h=>rtK h (rr (Zdz hr0) (gg g1 ee))) fun g1 h=>bnK h fun r1 hr1 h=>bnK h fun r2 hr2 h=>bnK h fun r3 hr3 h=>bnK h fun r4 hr4 h=>have p1 {q p} (k:Scr q p):=(rr (Zdz hr0) (gg g1 (rr (Zai hr1) (kk 8 (GBus.so r1 (rr (Zfs hr2) (rr (Zai hr3) (kk 8 (GBus.so r3 (rr (Zey hr4) k))))))))));itK h (fun g2 h=>rtK h (p1 (gg g2 ee))) fun g2 h=>bnK h fun r5 hr5 h=>bnK h fun r6 hr6 h=>have p2 {q p} (k:Scr q p):=(p1 (gg g2 (rr (Zai hr5) (kk 16 (GBus.so r3 (GBus.so r5 (rr (Zkd hr6) k)))))));itK h (fun g3 h=>rtK h (p2 (gg g3 ee))) fun g3 h=>rtK h (p2 (gg g3 ee)))
end Go.Proofs.Ytgmmcfpabnoekaa.Ev
