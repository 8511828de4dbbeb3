/- A part of the proof of FnExactSolo: see the text YtagdmghmblplbaaGreatLawFnExactSolo for what is proved and its conditions. Conditions here: those in each line. -/
import Derived.Test.YtagdmghmblplbaaGreatA4
set_option linter.unusedSimpArgs false
set_option linter.unusedVariables false
set_option linter.unusedSectionVars false
namespace Go.Proofs.YtagdmghmblplbaaGreat.Ev
open Go Go.Proofs
variable [Anchor]
def Mo:Yp:=⟨λf=>(List.lookup f [(17,[.iov,.rd]),(18,[.iov,.rd]),(19,[.iov,.rd]),(27,[.iov,.rd]),(28,[.iov,.rd]),(40,[.iov,.rd]),(56,[.iov,.rd]),(57,[.iov,.rd]),(73,[.iov,.rd]),(74,[.iov,.rd]),(75,[.iov,.rd]),(76,[.iov,.rd]),(129,[.iov,.rd]),(173,[.io]),(226,[.io]),(228,[.io]),(233,[.io]),(175,[.io]),(97,[.io]),(172,[.io,.rd,.io]),(149,[.mv]),(150,[.mv]),(152,[.mv]),(151,[.mv]),(251,[.mv,.rd])]).getD [],λ_=>false⟩
abbrev Y:=FuncId×List V×V×List V
abbrev RF (fn:Func) (y:Y):Ex->St->Prop:=Ycn Tryz.prog Mo y.1 fn y.2.1 y.2.2
theorem Yuq {P:Program} (hm:P.follows .mixedOrders=true) (h:P.funcs.toList.all (λfn=>(match fn.body with|some c=>Kb fn.ntmps c|none=>true)&&!(fn.name == "runtime.NumGoroutine"))=true):Yk P:=by
 rw[ZZk] at h;refine⟨hm,λf fn c hf hc=>?_,λf fn hf=>?_⟩
 .have:=h fn (Array.mem_toList_iff.2 (Veh hf))
  rw[hc] at this;simp only[ZZg] at this;exact this.1
 .have:=h fn (Array.mem_toList_iff.2 (Veh hf))
  simp only[ZZg,Vb0] at this;exact this.2
theorem fOk:Yk Tryz.prog:=Yuq (by kernel_rfl) (by kernel_rfl)
theorem bnK {α β:Type} {x:Option α} {f:α->Option β} {b:β} {G:Prop} (h:x.bind f=some b) (k:∀a,x=some a->f a=some b->G):G:=by
 obtain⟨a,h1,h2⟩:=Yzw h;exact k a h1 h2
theorem itK {β:Type} {t:Bool} {x y:Option β} {b:β} {G:Prop} (h:(if t=true then x else y)=some b) (k1:t=true->x=some b->G) (k2:t=false->y=some b->G):G:=by
 rcases Y0a h with⟨h1,h2⟩|⟨h1,h2⟩
 .exact k1 h1 h2
 .exact k2 h1 h2
theorem rtQ {α:Type} {F:α->Y} {fn:Func} {a r:α} {p:Prop} {stk:List It} {s:St} (h:some a=some r) (q:List O) (hp:p) (e:Z6k (runK Tryz.prog Mo (F a).1 fn (F a).2.1 100000 stk s q)=some (p,(F a).2.2):=by kernel_rfl):SX Tryz.prog (RF fn (F r)) stk .normal s:=by
 cases h;exact Yr3 fOk 100000 q hp e
theorem rtK {α:Type} {F:α->Y} {fn:Func} {a r:α} {p:Prop} {stk:List It} {s:St} {q:List O} (h:some a=some r) (hp:Scr q p) (e:Z6k (runK Tryz.prog Mo (F a).1 fn (F a).2.1 100000 stk s q)=some (p,(F a).2.2):=by kernel_rfl):SX Tryz.prog (RF fn (F r)) stk .normal s:=by
 cases h;exact Yr3 fOk 100000 q hp e
theorem cutQ {y:Y} {fn:Func} {stk k2:List It} {s:St} {p:Prop} {l:List (Nat×V)} {h:List (Id×Blk)} {ep:Nat} (f:List (Id×Id)) (n:Nat) (q:List O) (hp:p) (hn:SX Tryz.prog (RF fn y) k2 .normal (mkS l h ep))
  (e:Z6k (cutK Tryz.prog Mo f l h n stk s q)=some (p,(k2,Ybs f l h)):=by kernel_rfl) (hb:(isC k2&&cutB f l h ep)=true:=by kernel_rfl):SX Tryz.prog (RF fn y) stk .normal s:=Ysl (M:=Mo) fOk f n q hp hn e hb
theorem Zi {y:Y} {fn:Func} {stk k2:List It} {s:St} {p:Prop} {l:List (Nat×V)} {h:List (Id×Blk)} {ep:Nat} {q:List O} (f:List (Id×Id)) (n:Nat) (hp:Scr q p) (hn:SX Tryz.prog (RF fn y) k2 .normal (mkS l h ep))
  (e:Z6k (cutK Tryz.prog Mo f l h n stk s q)=some (p,(k2,Ybs f l h)):=by kernel_rfl) (hb:(isC k2&&cutB f l h ep)=true:=by kernel_rfl):SX Tryz.prog (RF fn y) stk .normal s:=Ysl (M:=Mo) fOk f n q hp hn e hb
theorem Zs {α:Type} {F:α->Y} {fn:Func} {r:α} (hfn:Tryz.prog.funcs[(F r).1]?=some fn) (h:SX Tryz.prog (RF fn (F r)) [.c (Qw fn)] .normal (entS Mo (F r).1 (F r).2.1)) (hc:fn.body=some (Qw fn):=by kernel_rfl) (hs:(St.enters ⟨λ_=>.undef,λ_=>none,0⟩ 0 (Mo.modes (F r).1) (F r).2.1).isSome=true:=by kernel_rfl):
  Zt Tryz.prog Mo (F r):=Yz0 fOk hfn hc hs h
abbrev CS (y:Y) (fn:Func) (p:List Nat) (l:List (Nat×V)) (h:List (Id×Blk)):Prop:=SX Tryz.prog (RF fn y) (at_ p (Qw fn) []) .normal (mkS l h 1)
abbrev Yme (x0:List Zc) (x1:Int) (r:Int):Y:=(42,[.tr (x0.map Zc.enc),il x1],il r,[.undef,.undef])
theorem Z7j {x0:List Zc} {x1:Int} {r:Int} (h:Z57 x0 x1=some r):Zt Tryz.prog Mo (Yme x0 x1 r):=
 Zs Tryz.func42 (itK h (λg1 h=>rtK h (lr Zc.enc x0 (gg g1 ee))) λg1 h=>rtK h (lr Zc.enc x0 (gg g1 ee)))
abbrev Zco (x0:Zh) (x1:Int) (r:Int):Y:=(8,[.agg (Zh.enc x0),il x1],il r,[.undef,.undef])
theorem Z4k {x0:Zh} {x1:Int} {r:Int} (h:Zrr x0 x1=some r):Zt Tryz.prog Mo (Zco x0 x1 r):=
 Zs Tryz.func8 (bnK h λr0 Zn h=>itK h (λg1 h=>rtK h (rr (Z7j Zn) (gg g1 ee))) λg1 h=>rtK h (rr (Z7j Zn) (gg g1 ee)))
abbrev Yt8 (x0:List Int) (x1:Int) (r:Int):Y:=(59,[.tr (x0.map Ze),il x1],il r,[.undef,.undef])
theorem Ydp {x0:List Int} {x1:Int} {r:Int} (h:Yex x0 x1=some r):Zt Tryz.prog Mo (Yt8 x0 x1 r):=
 Zs Tryz.func59 (itK h (λg1 h=>rtK h (lr Ze x0 (gg g1 ee))) λg1 h=>rtK h (lr Ze x0 (gg g1 ee)))
abbrev Ywk (x0:Zb) (x1:Int) (r:Int):Y:=(43,[.agg (Zb.enc x0),il x1],il r,[.undef,.undef])
theorem Yii {x0:Zb} {x1:Int} {r:Int} (h:Z0o x0 x1=some r):Zt Tryz.prog Mo (Ywk x0 x1 r):=
 Zs Tryz.func43 (bnK h λr0 Zn h=>itK h (λg1 h=>rtK h (rr (Ydp Zn) (gg g1 ee))) λg1 h=>rtK h (rr (Ydp Zn) (gg g1 ee)))
abbrev Zf2 (x0:List Zb) (x1:Int) (r:Int):Y:=(9,[.tr (x0.map Zb.enc),il x1],il r,[.undef,.undef])
theorem Yg8 {x0:List Zb} {x1:Int} {r:Int}:∀{m:Nat} {v0:Int} {v1:Int},Znc x0 x1 m v0 v1=some r->CS (Zf2 x0 x1 r) Tryz.f9 [1,1,1,0,1,0] [(0,.tr (x0.map Zb.enc)),(1,il v0),(5,il v1)] []:=by
 intro m
 induction m with
 | zero=>intro v0 v1 h;cases h
 | succ m ih=>exactλ{v0} {v1} h=>itK h (λg1 h=>bnK h λa0 Z2 h=>bnK h λr0 Zn h=>itK h (λg2 h=>rtK h (lr Zb.enc x0 (gg g1 (xb Zb.enc Z2 (rr (Yii Zn) (gg g2 ee)))))) λg2 h=>Zi [] 16 (lr Zb.enc x0 (gg g1 (xb Zb.enc Z2 (rr (Yii Zn) (gg g2 ee))))) (ih h)) λg1 h=>rtK h (lr Zb.enc x0 (gg g1 ee))
theorem Yc6 {x0:List Zb} {x1:Int} {r:Int} (h:Zxd x0 x1=some r):Zt Tryz.prog Mo (Zf2 x0 x1 r):=
 Zs Tryz.func9 (itK h (λg1 h=>rtK h (lr Zb.enc x0 (gg g1 ee))) λg1 h=>Zi [] 13 (lr Zb.enc x0 (gg g1 ee)) (Yg8 h))
abbrev Yqz (x0:Zc) (r:Zc):Y:=(110,[.agg (Zc.enc x0)],.agg (Zc.enc r),[.undef])
theorem Yp6 {x0:Zc} {r:Zc} (h:Z1w x0=some r):Zt Tryz.prog Mo (Yqz x0 r):=
 Zs Tryz.func110 (rtK h ee)
abbrev Z52 (x0:List Zc) (r:List Zc):Y:=(47,[.tr (x0.map Zc.enc)],.own 150 (r.map Zc.enc),[.undef])
theorem Yb0 {x0:List Zc} {r:List Zc}:∀{m:Nat} {v0:List Zc} {v1:Int},Zii x0 m v0 v1=some r->CS (Z52 x0 r) Tryz.f47 [1,1,0,1,0] [(0,.tr (x0.map Zc.enc)),(3,.sl (1,1) 0 (v0.map Zc.enc).length),(4,il v1)] [rx 1 150 (v0.map Zc.enc)]:=by
 intro m
 induction m with
 | zero=>intro v0 v1 h;cases h
 | succ m ih=>exactλ{v0} {v1} h=>itK h (λg1 h=>bnK h λa0 Z2 h=>bnK h λr0 Zn h=>bnK h λa1 Y4 h=>bnK h λy0 W0 h=>Zi [((1,1),(1,1))] 11 (lr Zc.enc x0 (gg g1 (xb Zc.enc Z2 (rr (Yp6 Zn) (xp Zc.enc Y4 W0 (tp (.num (y0.map Zc.enc).length 0 0 []) (ob (Q5 Zc.enc W0) ee))))))) (ih h)) λg1 h=>rtK h (lr Zc.enc x0 (gg g1 (kk 1 (oe Zc.enc v0 ee))))
theorem Ymj {x0:List Zc} {r:List Zc} (h:Zr1 x0=some r):Zt Tryz.prog Mo (Z52 x0 r):=
 Zs Tryz.func47 (bnK h λm0 hm0 h=>Zi [((1,1),(2,2048))] 8 (lr Zc.enc x0 (tp (.mk ((x0.length:Int):Int).toNat (m0.map Zc.enc)) (ob (mkn hm0) (ob (mkn hm0) (ob (mkl hm0) (ob (mkr Zc.enc hm0) (ln Zc.enc m0 ee))))))) (Yb0 h))
abbrev Ji (x0:Zh) (r:Zh):Y:=(11,[.agg (Zh.enc x0)],.agg [.own 150 (r.masters.map Zc.enc),il r.quantum,il r.maxWait,il r.maxRetry,il r.maxSplit,il r.lockMost],[.undef])
theorem Zw0 {x0:Zh} {r:Zh} (h:Zxf x0=some r):Zt Tryz.prog Mo (Ji x0 r):=
 Zs Tryz.func11 (bnK h λr0 Zn h=>rtK h (rr (Ymj Zn) (kk 1 (oe Zc.enc r0 ee))))
abbrev Yfc (x0:List Int) (r:List Int):Y:=(63,[.tr (x0.map Ze)],.own 3 (r.map Ze),[.undef])
theorem Yhd {x0:List Int} {r:List Int}:∀{m:Nat} {v0:List Int} {v1:Int},Znr x0 m v0 v1=some r->CS (Yfc x0 r) Tryz.f63 [1,1,0,1,0] [(0,.tr (x0.map Ze)),(3,.sl (1,1) 0 (v0.map Ze).length),(4,il v1)] [rx 1 3 (v0.map Ze)]:=by
 intro m
 induction m with
 | zero=>intro v0 v1 h;cases h
 | succ m ih=>exactλ{v0} {v1} h=>itK h (λg1 h=>bnK h λa0 Z2 h=>bnK h λa1 Y4 h=>bnK h λy0 W0 h=>Zi [((1,1),(1,1))] 11 (lr Ze x0 (gg g1 (xb Ze Z2 (xp Ze Y4 W0 (tp (.num (y0.map Ze).length 0 0 []) (ob (Q5 Ze W0) ee)))))) (ih h)) λg1 h=>rtK h (lr Ze x0 (gg g1 (kk 1 (oe Ze v0 ee))))
theorem Yvf {x0:List Int} {r:List Int} (h:Zwo x0=some r):Zt Tryz.prog Mo (Yfc x0 r):=
 Zs Tryz.func63 (bnK h λm0 hm0 h=>Zi [((1,1),(2,2048))] 8 (lr Ze x0 (tp (.mk ((x0.length:Int):Int).toNat (m0.map Ze)) (ob (mkn hm0) (ob (mkn hm0) (ob (mkl hm0) (ob (mkr Ze hm0) (ln Ze m0 ee))))))) (Yhd h))
abbrev Ywp (x0:Zb) (r:Zb):Y:=(48,[.agg (Zb.enc x0)],.agg [bl r.write,il r.addr,il r.size,il r.burst,bl r.lock,.own 3 (r.data_.map Ze)],[.undef])
theorem Ywt {x0:Zb} {r:Zb} (h:Zqg x0=some r):Zt Tryz.prog Mo (Ywp x0 r):=
 Zs Tryz.func48 (bnK h λr0 Zn h=>rtK h (rr (Yvf Zn) (kk 1 (oe Ze r0 ee))))
abbrev Kr (x0:List Zb) (r:List Zb):Y:=(12,[.tr (x0.map Zb.enc)],.own 104 (r.map Zb.enc),[.undef])
theorem Ygt {x0:List Zb} {r:List Zb}:∀{m:Nat} {v0:List Zb} {v1:Int},Znk x0 m v0 v1=some r->CS (Kr x0 r) Tryz.f12 [1,1,0,1,0] [(0,.tr (x0.map Zb.enc)),(3,.sl (1,1) 0 (v0.map Zb.enc).length),(4,il v1)] [rx 1 104 (v0.map Zb.enc)]:=by
 intro m
 induction m with
 | zero=>intro v0 v1 h;cases h
 | succ m ih=>exactλ{v0} {v1} h=>itK h (λg1 h=>bnK h λa0 Z2 h=>bnK h λr0 Zn h=>bnK h λa1 Y4 h=>bnK h λy0 W0 h=>Zi [((1,1),(1,1))] 11 (lr Zb.enc x0 (gg g1 (xb Zb.enc Z2 (rr (Ywt Zn) (xq Zb.enc Y4 y0 (kk 1 (tp (.num (y0.map Zb.enc).length 0 0 []) (oe Ze r0.data_ (ob (Zxx Zb.enc W0) (ob (Q5 Zb.enc W0) ee)))))))))) (ih h)) λg1 h=>rtK h (lr Zb.enc x0 (gg g1 (kk 1 (oe Zb.enc v0 ee))))
theorem Zxh {x0:List Zb} {r:List Zb} (h:Zwn x0=some r):Zt Tryz.prog Mo (Kr x0 r):=
 Zs Tryz.func12 (bnK h λm0 hm0 h=>Zi [((1,1),(2,2048))] 8 (lr Zb.enc x0 (tp (.mk ((x0.length:Int):Int).toNat (m0.map Zb.enc)) (ob (mkn hm0) (ob (mkn hm0) (ob (mkl hm0) (ob (mkr Zb.enc hm0) (ln Zb.enc m0 ee))))))) (Ygt h))
abbrev Yyw (x0:Int) (x1:Int) (x2:Int) (r:Bool):Y:=(61,[il x0,il x1,il x2],bl r,[.undef,.undef,.undef])
theorem Z3 {x0:Int} {x1:Int} {x2:Int} {r:Bool} (h:Z4 x0 x1 x2=some r):Zt Tryz.prog Mo (Yyw x0 x1 x2 r):=
 Zs Tryz.func61 (itK h (λg1 h=>rtK h (gg g1 (kk 3 ee))) λg1 h=>rtK h (gg g1 (kk 3 ee)))
abbrev Ydn (x0:Zh) (r:Int):Y:=(178,[.agg (Zh.enc x0)],il r,[.undef])
theorem Z2s {x0:Zh} {r:Int} {v0:Bool} (h:Zn0 x0 v0=some r):CS (Ydn x0 r) Tryz.f178 [1,0,1] [(1,.ptr (1,1) 0 0),(12,bl v0)] [bx 1 (Zh.enc x0)]:=
 itK h (λg1 h=>rtK h (gg g1 ee)) λg1 h=>rtK h (gg g1 ee)
theorem Zry {x0:Zh} {r:Int} (h:Zi3 x0=some r):Zt Tryz.prog Mo (Ydn x0 r):=
 Zs Tryz.func178 (bnK h λr0 Zn h=>itK h (λg1 h=>Zi [((1,1),(1,0))] 5 (rr (Z3 Zn) (gg g1 (kk 4 ee))) (Z2s h)) λg1 h=>bnK h λr1 Zz h=>Zi [((1,1),(1,0))] 5 (rr (Z3 Zn) (gg g1 (kk 2 (rr (Z3 Zz) (kk 2 ee))))) (Z2s h))
abbrev Yuf (x0:Zh) (r:Int):Y:=(102,[.agg (Zh.enc x0)],il r,[.undef])
theorem Yes {x0:Zh} {r:Int} (h:Zfv x0=some r):Zt Tryz.prog Mo (Yuf x0 r):=
 Zs Tryz.func102 (bnK h λr0 Zn h=>itK h (λg1 h=>rtK h (rr (Zry Zn) (gg g1 (kk 5 ee)))) λg1 h=>bnK h λr1 Zz h=>itK h (λg2 h=>rtK h (rr (Zry Zn) (gg g1 (kk 2 (rr (Z3 Zz) (kk 2 (gg g2 ee))))))) λg2 h=>bnK h λr2 Z8 h=>rtK h (rr (Zry Zn) (gg g1 (kk 2 (rr (Z3 Zz) (kk 2 (gg g2 (rr (Zry Z8) ee))))))))
abbrev Ymq (x0:Zh) (r:Bool):Y:=(103,[.agg (Zh.enc x0)],bl r,[.undef])
theorem Yms {x0:Zh} {r:Bool} (h:Zqs x0=some r):Zt Tryz.prog Mo (Ymq x0 r):=
 Zs Tryz.func103 (bnK h λr0 Zn h=>itK h (λg1 h=>bnK h λr1 Zz h=>have p1 {q p} (k:Scr q p):=(rr (Z3 Zn) (gg g1 (kk 1 (rr (Zry Zz) (kk 2 k)))));itK h (λg2 h=>bnK h λr2 Z8 h=>itK h (λg3 h=>bnK h λr3 Y0 h=>rtK h (p1 (gg g2 (kk 2 (rr (Z3 Z8) (kk 1 (gg g3 (kk 2 (rr (Z3 Y0) (kk 1 ee)))))))))) λg3 h=>rtK h (p1 (gg g2 (kk 2 (rr (Z3 Z8) (kk 1 (gg g3 (kk 3 ee)))))))) λg2 h=>rtK h (p1 (gg g2 (kk 7 ee)))) λg1 h=>rtK h (rr (Z3 Zn) (gg g1 (kk 11 ee))))
abbrev Z34 (x0:Zh) (r:Bool):Y:=(44,[.agg (Zh.enc x0)],bl r,[.undef])
theorem Yhs {x0:Zh} {r:Bool}:∀{m:Nat} {v0:Int} {v1:Int},Zan x0 m v0 v1=some r->CS (Z34 x0 r) Tryz.f44 [1,1,1,0,1,0] [(1,.ptr (1,1) 0 0),(3,il v0),(5,il v1)] [bx 1 (Zh.enc x0)]:=by
 intro m
 induction m with
 | zero=>intro v0 v1 h;cases h
 | succ m ih=>exactλ{v0} {v1} h=>have p1 {q p} (k:Scr q p):=(lr Zc.enc x0.masters k);itK h (λg1 h=>bnK h λa0 Z2 h=>bnK h λr0 Zn h=>have p2 {q p} (k:Scr q p):=(p1 (gg g1 (xb Zc.enc Z2 (rr (Z3 Zn) k))));itK h (λg2 h=>rtK h (p2 (gg g2 (kk 11 ee)))) λg2 h=>have p3 {q p} (k:Scr q p):=(p2 (gg g2 (kk 3 k)));itK h (λg3 h=>itK h (λg4 h=>rtK h (p3 (gg g3 (kk 3 (gg g4 (kk 13 ee)))))) λg4 h=>have p4 {q p} (k:Scr q p):=(p3 (gg g3 (kk 3 (gg g4 (kk 7 k)))));itK h (λg5 h=>rtK h (p4 (gg g5 (kk 5 ee)))) λg5 h=>itK h (λg6 h=>bnK h λr1 Zz h=>bnK h λr2 Z8 h=>have p5 {q p} (k:Scr q p):=(p4 (gg g5 (kk 2 (gg g6 (kk 5 (rr (Yes Zz) (kk 2 (rr (Z3 Z8) (kk 2 k)))))))));itK h (λg7 h=>rtK h (p5 (gg g7 (kk 9 ee)))) λg7 h=>bnK h λr3 Y0 h=>itK h (λg8 h=>rtK h (p5 (gg g7 (kk 2 (rr (Z3 Y0) (kk 6 (gg g8 ee))))))) λg8 h=>Zi [((1,1),(1,1))] 16 (p5 (gg g7 (kk 2 (rr (Z3 Y0) (kk 6 (gg g8 ee)))))) (ih h)) λg6 h=>Zi [((1,1),(1,1))] 16 (p4 (gg g5 (kk 2 (gg g6 (kk 14 ee))))) (ih h)) λg3 h=>itK h (λg4 h=>bnK h λr1 Zz h=>bnK h λr2 Z8 h=>have p6 {q p} (k:Scr q p):=(p3 (gg g3 (kk 10 (gg g4 (kk 5 (rr (Yes Zz) (kk 2 (rr (Z3 Z8) (kk 2 k)))))))));itK h (λg5 h=>rtK h (p6 (gg g5 (kk 9 ee)))) λg5 h=>bnK h λr3 Y0 h=>itK h (λg6 h=>rtK h (p6 (gg g5 (kk 2 (rr (Z3 Y0) (kk 6 (gg g6 ee))))))) λg6 h=>Zi [((1,1),(1,1))] 16 (p6 (gg g5 (kk 2 (rr (Z3 Y0) (kk 6 (gg g6 ee)))))) (ih h)) λg4 h=>Zi [((1,1),(1,1))] 16 (p3 (gg g3 (kk 10 (gg g4 (kk 14 ee))))) (ih h)) λg1 h=>bnK h λr4 Kv h=>itK h (λg2 h=>bnK h λr5 hr5 h=>rtK h (p1 (gg g1 (lr Zc.enc x0.masters (rr (Z3 Kv) (gg g2 (kk 1 (rr (Yms hr5) (kk 1 ee))))))))) λg2 h=>rtK h (p1 (gg g1 (lr Zc.enc x0.masters (rr (Z3 Kv) (gg g2 (kk 2 ee))))))
theorem Yg7 {x0:Zh} {r:Bool}:∀{m:Nat} {v0:Int} {v2:Int},Znn x0 m v0 v2=some r->CS (Z34 x0 r) Tryz.f44 [1,1,0,1,0] [(1,.ptr (1,1) 0 0),(3,il v0),(4,il v2)] [bx 1 (Zh.enc x0)]:=by
 intro m
 induction m with
 | zero=>intro v0 v2 h;cases h
 | succ m ih=>exactλ{v0} {v2} h=>itK h (λg1 h=>bnK h λa1 Y4 h=>itK h (λg2 h=>Zi [((1,1),(1,1))] 14 (lr Zc.enc x0.masters (gg g1 (xb Zc.enc Y4 (gg g2 ee)))) (ih h)) λg2 h=>Zi [((1,1),(1,1))] 14 (lr Zc.enc x0.masters (gg g1 (xb Zc.enc Y4 (gg g2 ee)))) (ih h)) λg1 h=>Zi [((1,1),(1,1))] 13 (lr Zc.enc x0.masters (gg g1 ee)) (Yhs h)
theorem Zbb {x0:Zh} {r:Bool} (h:Zdq x0=some r):Zt Tryz.prog Mo (Z34 x0 r):=
 Zs Tryz.func44 (Zi [((1,1),(1,0))] 8 ee (Yg7 h))
abbrev Yqa (x0:Int) (r:Int):Y:=(106,[il x0],il r,[.undef])
theorem Zd0 {x0:Int} {r:Int} (h:Zaz x0=some r):Zt Tryz.prog Mo (Yqa x0 r):=
 Zs Tryz.func106 (bnK h λr0 Zn h=>itK h (λg1 h=>rtK h (rr (Z3 Zn) (gg g1 ee))) λg1 h=>bnK h λa0 Z2 h=>rtK h (rr (Z3 Zn) (gg g1 (xd Ze Z2 ee))))
abbrev Ypu (x0:Int) (r:Int):Y:=(180,[il x0],il r,[.undef])
theorem Jd {x0:Int} {r:Int} (h:Jg x0=some r):Zt Tryz.prog Mo (Ypu x0 r):=
 Zs Tryz.func180 (bnK h λr0 Zn h=>itK h (λg1 h=>rtK h (rr (Z3 Zn) (gg g1 ee))) λg1 h=>bnK h λn0 hn0 h=>rtK h (rr (Z3 Zn) (gg g1 (tp (.obl) (ob (nn0 hn0) ee)))))
abbrev Yrj (x0:Int) (x1:Int) (r:Bool):Y:=(196,[il x0,il x1],bl r,[.undef,.undef])
theorem Zo3 {x0:Int} {x1:Int} {r:Bool} (h:Za0 x0 x1=some r):Zt Tryz.prog Mo (Yrj x0 x1 r):=
 Zs Tryz.func196 (bnK h λr0 Zn h=>itK h (λg1 h=>itK h (λg2 h=>bnK h λr1 Zz h=>bnK h λn0 hn0 h=>rtK h (rr (Jd Zn) (gg g1 (kk 2 (gg g2 (kk 2 (rr (Jd Zz) (kk 1 (tp (.obl) (kk 2 (ob (nz0 hn0) ee))))))))))) λg2 h=>rtK h (rr (Jd Zn) (gg g1 (kk 2 (gg g2 (kk 5 ee)))))) λg1 h=>rtK h (rr (Jd Zn) (gg g1 (kk 8 ee))))
abbrev Zxr (x0:Int) (x1:Int) (x2:Int) (r:Int):Y:=(236,[il x0,il x1,il x2],il r,[.undef,.undef,.undef])
theorem Zzd {x0:Int} {x1:Int} {x2:Int} {r:Int} {v0:Int} {v1:Bool} (h:Zjd x0 x1 x2 v0 v1=some r):CS (Zxr x0 x1 x2 r) Tryz.f236 [1,1,1,0,1] [(0,il x0),(7,il v0),(34,bl v1)] []:=
 itK h (λg1 h=>rtK h (gg g1 ee)) λg1 h=>rtK h (gg g1 ee)
theorem Zp5 {x0:Int} {x1:Int} {x2:Int} {r:Int} {v0:Int} {v2:Bool} (h:Zed x0 x1 x2 v0 v2=some r):CS (Zxr x0 x1 x2 r) Tryz.f236 [1,1,0,1] [(0,il x0),(2,il x2),(7,il v0),(23,bl v2)] []:=
 itK h (λg1 h=>rtK h (gg g1 ee)) λg1 h=>itK h (λg2 h=>bnK h λn0 hn0 h=>Zi [] 5 (gg g1 (gg g2 (kk 5 (tp (.obl) (kk 2 (ob (nz0 hn0) ee)))))) (Zzd h)) λg2 h=>Zi [] 5 (gg g1 (gg g2 (kk 7 ee))) (Zzd h)
theorem Z7h {x0:Int} {x1:Int} {x2:Int} {r:Int} (h:Zmr x0 x1 x2=some r):Zt Tryz.prog Mo (Zxr x0 x1 x2 r):=
 Zs Tryz.func236 (bnK h λr0 Zn h=>bnK h λr1 Zz h=>have p1 {q p} (k:Scr q p):=(rr (Jd Zn) (rr (Zo3 Zz) k));itK h (λg1 h=>Zi [] 7 (p1 (gg g1 (kk 7 ee))) (Zp5 h)) λg1 h=>bnK h λr2 Z8 h=>itK h (λg2 h=>Zi [] 7 (p1 (gg g1 (kk 1 (rr (Z3 Z8) (kk 2 (gg g2 (kk 3 ee))))))) (Zp5 h)) λg2 h=>bnK h λr3 Y0 h=>Zi [] 7 (p1 (gg g1 (kk 1 (rr (Z3 Z8) (kk 2 (gg g2 (kk 1 (rr (Zd0 Y0) (kk 2 ee))))))))) (Zp5 h))
abbrev Zn6 (x0:Int) (x1:Int) (x2:Int) (r:List Int):Y:=(179,[il x0,il x1,il x2],.own 3 (r.map Ze),[.undef,.undef,.undef])
theorem Zuz {x0:Int} {x1:Int} {x2:Int} {r:List Int} {k_L1:Int->(List Int)->Option (List Int)} (i_L1:∀{v0:Int} {v1:List Int},k_L1 v0 v1=some r->CS (Zn6 x0 x1 x2 r) Tryz.f179 [1,1,0,0] [(0,il v0),(1,il x1),(2,il x2),(7,.sl (1,1) 0 (v1.map Ze).length)] [rx 1 3 (v1.map Ze)]) {v0:Int} {v1:List Int} {v2:Bool} (h:Zct x0 x1 x2 k_L1 v0 v1 v2=some r):CS (Zn6 x0 x1 x2 r) Tryz.f179 [1,1,0,0,0,0,1] [(0,il v0),(1,il x1),(2,il x2),(7,.sl (1,1) 0 (v1.map Ze).length),(20,bl v2)] [rx 1 3 (v1.map Ze)]:=
 itK h (λg1 h=>bnK h λz0 X9 h=>bnK h λr0 Zn h=>Zi [((1,1),(2,3072))] 7 (gg g1 (ta Ze [v0] z0 (kk 1 (oa 1 Zaf v0 (ox Ze X9 (oe Ze z0 (rr (Z7h Zn) (ln Ze z0 ee)))))))) (i_L1 h)) λg1 h=>bnK h λr1 Zz h=>itK h (λg2 h=>rtK h (gg g1 (lr Ze v1 (rr (Zd0 Zz) (gg g2 (kk 1 (ob (show 0=([].map Ze).length from rfl) ee))))))) λg2 h=>rtK h (gg g1 (lr Ze v1 (rr (Zd0 Zz) (gg g2 (kk 1 (oe Ze v1 ee))))))
theorem Z7a {x0:Int} {x1:Int} {x2:Int} {r:List Int}:∀{m:Nat} {v0:Int} {v1:List Int},Zga x0 x1 x2 m v0 v1=some r->CS (Zn6 x0 x1 x2 r) Tryz.f179 [1,1,0,0] [(0,il v0),(1,il x1),(2,il x2),(7,.sl (1,1) 0 (v1.map Ze).length)] [rx 1 3 (v1.map Ze)]:=by
 intro m
 induction m with
 | zero=>intro v0 v1 h;cases h
 | succ m ih=>exactλ{v0} {v1} h=>bnK h λr2 Z8 h=>itK h (λg1 h=>bnK h λr3 Y0 h=>Zi [((1,1),(1,1))] 4 (lr Ze v1 (rr (Zd0 Z8) (gg g1 (kk 3 (rr (Z7h Y0) (kk 2 (ln Ze v1 ee))))))) (Zuz ih h)) λg1 h=>Zi [((1,1),(1,1))] 4 (lr Ze v1 (rr (Zd0 Z8) (gg g1 (kk 5 (ln Ze v1 ee))))) (Zuz ih h)
theorem Z2c {x0:Int} {x1:Int} {x2:Int} {r:List Int} (h:Zht x0 x1 x2=some r):Zt Tryz.prog Mo (Zn6 x0 x1 x2 r):=
 Zs Tryz.func179 (Zi [((1,1),(2,0))] 6 (tp (.num ([].map Ze).length 0 0 []) (ob (show 0=([].map Ze).length from rfl) ee)) (Z7a h))
abbrev Z96 (x0:Int) (x1:Int) (x2:Int) (r:Bool):Y:=(104,[il x0,il x1,il x2],bl r,[.undef,.undef,.undef])
theorem Yff {x0:Int} {x1:Int} {x2:Int} {r:Bool}:∀{m:Nat} {v0:List Int} {v1:Int},Zlm x0 x1 x2 m v0 v1=some r->CS (Z96 x0 x1 x2 r) Tryz.f104 [1,1,0,1,0] [(7,.sl (1,1) 0 (v0.map Ze).length),(8,il v1)] [rx 1 3 (v0.map Ze)]:=by
 intro m
 induction m with
 | zero=>intro v0 v1 h;cases h
 | succ m ih=>exactλ{v0} {v1} h=>itK h (λg1 h=>bnK h λa0 Z2 h=>bnK h λa1 Y4 h=>itK h (λg2 h=>rtK h (lr Ze v0 (gg g1 (xd Ze Z2 (kk 1 (xd Ze Y4 (kk 1 (gg g2 ee)))))))) λg2 h=>Zi [((1,1),(1,1))] 14 (lr Ze v0 (gg g1 (xd Ze Z2 (kk 1 (xd Ze Y4 (kk 1 (gg g2 (ln Ze v0 ee)))))))) (ih h)) λg1 h=>rtK h (lr Ze v0 (gg g1 (lr Ze v0 ee)))
theorem Yap {x0:Int} {x1:Int} {x2:Int} {r:Bool} (h:Zud x0 x1 x2=some r):Zt Tryz.prog Mo (Z96 x0 x1 x2 r):=
 Zs Tryz.func104 (bnK h λr0 Zn h=>Zi [((1,1),(2,3072))] 8 (rr (Z2c Zn) (ln Ze r0 ee)) (Yff h))
abbrev Ypq (x0:Int) (r:Int):Y:=(105,[il x0],il r,[.undef])
theorem Zcn {x0:Int} {r:Int} (h:Qk x0=some r):Zt Tryz.prog Mo (Ypq x0 r):=
 Zs Tryz.func105 (bnK h λr0 Zn h=>itK h (λg1 h=>rtK h (rr (Jd Zn) (gg g1 ee))) λg1 h=>bnK h λr1 Zz h=>bnK h λn0 hn0 h=>rtK h (rr (Jd Zn) (gg g1 (rr (Jd Zz) (tp (.obl) (ob (nn0 hn0) ee))))))
abbrev Yif (x0:Zb) (r:Bool):Y:=(45,[.agg (Zb.enc x0)],bl r,[.undef])
theorem Yjw {x0:Zb} {r:Bool}:∀{m:Nat} {v0:Int},Zpk x0 m v0=some r->CS (Yif x0 r) Tryz.f45 [1,1,0,1,0] [(1,.ptr (1,1) 0 0),(3,il v0)] [bx 1 (Zb.enc x0)]:=by
 intro m
 induction m with
 | zero=>intro v0 h;cases h
 | succ m ih=>exactλ{v0} h=>have p1 {q p} (k:Scr q p):=(lr Ze x0.data_ k);itK h (λg1 h=>bnK h λa0 Z2 h=>bnK h λr0 Zn h=>bnK h λr1 Zz h=>have p2 {q p} (k:Scr q p):=(p1 (gg g1 (xb Ze Z2 (rr (Zcn Zn) (rr (Z3 Zz) k)))));itK h (λg2 h=>rtK h (p2 (gg g2 ee))) λg2 h=>Zi [((1,1),(1,1))] 14 (p2 (gg g2 ee)) (ih h)) λg1 h=>have p3 {q p} (k:Scr q p):=(p1 (gg g1 (lr Ze x0.data_ k)));itK h (λg2 h=>itK h (λg3 h=>rtK h (p3 (gg g2 (kk 3 (gg g3 (kk 9 ee)))))) λg3 h=>bnK h λr2 Z8 h=>have p4 {q p} (k:Scr q p):=(p3 (gg g2 (kk 3 (gg g3 (kk 2 (lr Ze x0.data_ (kk 3 (rr (Zd0 Z8) (kk 2 k)))))))));itK h (λg4 h=>rtK h (p4 (gg g4 (kk 4 ee)))) λg4 h=>rtK h (p4 (gg g4 (kk 4 ee)))) λg2 h=>bnK h λr2 Z8 h=>have p5 {q p} (k:Scr q p):=(p3 (gg g2 (kk 6 (lr Ze x0.data_ (kk 3 (rr (Zd0 Z8) (kk 2 k)))))));itK h (λg3 h=>rtK h (p5 (gg g3 (kk 4 ee)))) λg3 h=>rtK h (p5 (gg g3 (kk 4 ee)))
theorem Zvi {x0:Zb} {r:Bool} (h:Zqm x0=some r):Zt Tryz.prog Mo (Yif x0 r):=
 Zs Tryz.func45 (bnK h λr3 Y0 h=>itK h (λg1 h=>rtK h (rr (Yap Y0) (gg g1 ee))) λg1 h=>Zi [((1,1),(1,0))] 11 (rr (Yap Y0) (gg g1 ee)) (Yjw h))
abbrev Ytp (x0:Zh) (r:Zh):Y:=(107,[.agg (Zh.enc x0)],.agg [.own 150 (r.masters.map Zc.enc),il r.quantum,il r.maxWait,il r.maxRetry,il r.maxSplit,il r.lockMost],[.undef])
theorem Ye6 {x0:Zh} {r:Zh} (h:Zq2 x0=some r):Zt Tryz.prog Mo (Ytp x0 r):=
 Zs Tryz.func107 (bnK h λz0 X9 h=>rtK h (ta Zc.enc x0.masters z0 (kk 1 (ol 4 Zc.enc_len Zc.enc_lit x0.masters (ob (apl Zc.enc X9) (ob (apm Zc.enc X9) (oe Zc.enc z0 (oe Zc.enc z0 ee))))))))
abbrev Ytd  (r:Zl):Y:=(181,[],.agg (Zl.ow r),[])
theorem Yuo  {r:Zl} (h:Z48  = some r):Zt Tryz.prog Mo (Ytd  r):=
 Zs Tryz.func181 (bnK h λm0 hm0 h=>rtK h (tp (.mk (4:Int).toNat (m0.map Ze)) (kk 1 (ob (mkn hm0) (ob (mkn hm0) (ob (mkl hm0) (ob (mkr Ze hm0) (oe Ze m0 ee))))))))
abbrev Yny  (r:Zj):Y:=(108,[],.agg (Zj.ow r),[])
theorem Yoa  {r:Zj} (h:Zr7  = some r):Zt Tryz.prog Mo (Yny  r):=
 Zs Tryz.func108 (bnK h λm0 hm0 h=>bnK h λr0 Zn h=>rtK h (tp (.mk (192:Int).toNat (m0.map Ze)) (ob (mkn hm0) (ob (mkn hm0) (ob (mkl hm0) (ob (mkr Ze hm0) (rr (Yuo Zn) (kk 3 (oe Ze m0 (Zl.so r0 ee))))))))))
abbrev Ykd (x0:Zc) (r:Zk):Y:=(109,[.agg (Zc.enc x0)],.agg (Zk.enc r),[.undef])
theorem Yjx {x0:Zc} {r:Zk} (h:Zph x0=some r):Zt Tryz.prog Mo (Ykd x0 r):=
 Zs Tryz.func109 (itK h (λg1 h=>rtK h (gg g1 ee)) λg1 h=>rtK h (gg g1 ee))
abbrev Ydz (x0:Zh) (r:Za×Bool):Y:=(46,[.agg (Zh.enc x0)],.tup [.agg (Za.ow r.1),bl r.2],[.undef])
theorem Ygd {x0:Zh} {r:Za×Bool}:∀{m:Nat} {vb0:Za} {v0:Int},Zn2 x0 m vb0 v0=some r->CS (Ydz x0 r) Tryz.f46 [1,1,1,0,1,0] [(1,.ptr (1,1) 0 0),(2,.ptr (1,2) 0 0),(4,.ptr (1,11) 0 0),(5,il v0)] ([bx 1 (Zh.enc x0)]++Za.bk Za.z0 3++[bx 2 (Za.rl Za.z0 3)]++Za.bk vb0 12++[bx 11 (Za.rl vb0 12)]):=by
 intro m
 induction m with
 | zero=>intro vb0 v0 h;cases h
 | succ m ih=>exactλ{vb0} {v0} h=>itK h (λg1 h=>bnK h λz0 X9 h=>bnK h λa0 Z2 h=>bnK h λr0 Zn h=>bnK h λz1 hz1 h=>bnK h λz2 hz2 h=>Zi (ffi 1 12++[((1,13),(3,4096)),((1,14),(4,9216)),((1,15),(5,3072))]++ffi 16 4) 15 (lr Zc.enc x0.masters (gg g1 (ta Zd.enc [Zd.z0] z0 (kk 1 (oa 6 Zd.enc_len Zd.z0 (ox Zd.enc X9 (oe Zd.enc z0 (xb Zc.enc Z2 (rr (Yjx Zn) (ta Zk.enc [r0] z1 (kk 1 (ta Ze [0] z2 (kk 1 (oa 2 Zk.enc_len r0 (ox Zk.enc hz1 (oe Zk.enc z1 (oa 1 Zaf 0 (ox Ze hz2 (oe Ze z2 (Za.sc Za.z0 (Za.sc {vb0 with m:=z0,buckets:=z1,splits:=z2} ee))))))))))))))))))))) (ih h)) λg1 h=>rtK h (lr Zc.enc x0.masters (gg g1 (kk 8 (Za.so vb0 ee))))
theorem Yu0 {x0:Zh} {r:Za×Bool} (h:Zwz x0=some r):Zt Tryz.prog Mo (Ydz x0 r):=
 Zs Tryz.func46 (bnK h λr1 Zz h=>itK h (λg1 h=>rtK h (rr (Zbb Zz) (gg g1 ee))) λg1 h=>bnK h λr2 Z8 h=>bnK h λr3 Y0 h=>Zi [((1,1),(1,0)),((1,2),(1,1024)),((1,11),(3,4096)),((1,12),(3,1024)),((1,16),(3,2048)),((1,17),(3,2049)),((1,18),(3,2051))] 13 (rr (Zbb Zz) (gg g1 (rr (Ye6 Z8) (rr (Yoa Y0) (ln Zc.enc r2.masters (tp (.num (r3.mem.map Ze).length 0 0 []) (tp (.num (r3.dev.regs.map Ze).length 0 0 []) (tp (.num (r3.dev.fifo.map Ze).length 0 0 []) (Zj.so r3 ee))))))))) (Ygd h))
abbrev Yuz (x0:Zb) (r:Zb):Y:=(197,[.agg (Zb.enc x0)],.agg [bl r.write,il r.addr,il r.size,il r.burst,bl r.lock,.own 3 (r.data_.map Ze)],[.undef])
theorem Z5a {x0:Zb} {r:Zb} (h:Ziv x0=some r):Zt Tryz.prog Mo (Yuz x0 r):=
 Zs Tryz.func197 (bnK h λz0 X9 h=>rtK h (ta Ze x0.data_ z0 (kk 1 (ol 1 Zaf Zpx x0.data_ (ob (apl Ze X9) (ob (apm Ze X9) (oe Ze z0 (oe Ze z0 ee))))))))
abbrev Z9u (x0:Zd) (r:Zd):Y:=(143,[.agg (Zd.enc x0)],.agg [.own 104 (r.queue.map Zb.enc),il r.beat,il r.done,il r.tries,bl r.parted,bl r.broken],[.undef])
theorem Yem {x0:Zd} {r:Zd}:∀{m:Nat} {v0:List Zb} {v1:Int},Zlg x0 m v0 v1=some r->CS (Z9u x0 r) Tryz.f143 [1,1,0,1,0] [(1,.ptr (1,1) 0 0),(2,.ptr (1,2) 0 0),(3,.sl (1,4) 0 (v0.map Zb.enc).length),(4,il v1)] [bx 1 (Zd.enc x0),rx 3 104 ([].map Zb.enc),bx 2 [.sl (1,3) 0 ([].map Zb.enc).length,il 0,il 0,il 0,bl false,bl false],rx 4 104 (v0.map Zb.enc)]:=by
 intro m
 induction m with
 | zero=>intro v0 v1 h;cases h
 | succ m ih=>exactλ{v0} {v1} h=>itK h (λg1 h=>bnK h λa0 Z2 h=>bnK h λr0 Zn h=>bnK h λz0 X9 h=>Zi (ffi 1 3++[((1,4),(3,8192))]) 11 (lr Zb.enc x0.queue (gg g1 (xb Zb.enc Z2 (rr (Z5a Zn) (kk 1 (ta Zb.enc [r0] z0 (kk 1 (oe Ze r0.data_ (oa 6 Zb.enc_len r0 (ox Zb.enc X9 (ln Zb.enc z0 (oe Zb.enc z0 (ln Zb.enc [] ee))))))))))))) (ih h)) λg1 h=>rtK h (lr Zb.enc x0.queue (gg g1 (kk 1 (oe Zb.enc v0 ee))))
theorem Zd2 {x0:Zd} {r:Zd} (h:Zdw x0=some r):Zt Tryz.prog Mo (Z9u x0 r):=
 Zs Tryz.func143 (Zi [((1,1),(1,0)),((1,2),(1,1024)),((1,4),(2,0))] 8 (tp (.num ([].map Zb.enc).length 0 0 []) (ob (show 0=([].map Zb.enc).length from rfl) ee)) (Yem h))
abbrev Yvm (x0:Zl) (r:Zl):Y:=(198,[.agg (Zl.enc x0)],.agg (Zl.ow r),[.undef])
theorem Ycz {x0:Zl} {r:Zl} (h:Zrw x0=some r):Zt Tryz.prog Mo (Yvm x0 r):=
 Zs Tryz.func198 (bnK h λz0 X9 h=>bnK h λz1 hz1 h=>rtK h (ta Ze x0.regs z0 (ta Ze x0.fifo z1 (kk 2 (ol 1 Zaf Zpx x0.regs (ob (apl Ze X9) (ob (apm Ze X9) (oe Ze z0 (ol 1 Zaf Zpx x0.fifo (ob (apl Ze hz1) (ob (apm Ze hz1) (oe Ze z1 (oe Ze z0 (oe Ze z1 ee))))))))))))))
abbrev Yvp (x0:Zj) (r:Zj):Y:=(144,[.agg (Zj.enc x0)],.agg (Zj.ow r),[.undef])
theorem Yc8 {x0:Zj} {r:Zj} (h:Zrk x0=some r):Zt Tryz.prog Mo (Yvp x0 r):=
 Zs Tryz.func144 (bnK h λz0 X9 h=>bnK h λr0 Zn h=>rtK h (ta Ze x0.mem z0 (ol 1 Zaf Zpx x0.mem (ob (apl Ze X9) (ob (apm Ze X9) (oe Ze z0 (rr (Ycz Zn) (kk 3 (oe Ze z0 (Zl.so r0 ee))))))))))
abbrev Yau (x0:Za) (r:Za):Y:=(87,[.agg (Za.enc x0)],.agg (Za.ow r),[.undef])
theorem Yfj {x0:Za} {r:Za}:∀{m:Nat} {vb0:Za} {v0:Int},Zfu x0 m vb0 v0=some r->CS (Yau x0 r) Tryz.f87 [1,1,1,1,0,1,0] [(1,.ptr (1,1) 0 0),(2,.ptr (1,2) 0 0),(3,.ptr (1,11) 0 0),(4,il v0)] ([bx 1 (Za.enc x0)]++Za.bk Za.z0 3++[bx 2 (Za.rl Za.z0 3),rx 12 150 (vb0.conf.masters.map Zc.enc),rx 13 156 (vb0.m.map Zd.enc),bx 11 [.sl (1,12) 0 (vb0.conf.masters.map Zc.enc).length,il vb0.conf.quantum,il vb0.conf.maxWait,il vb0.conf.maxRetry,il vb0.conf.maxSplit,il vb0.conf.lockMost,il vb0.now,.sl (1,13) 0 (vb0.m.map Zd.enc).length,il vb0.arb.at_,il vb0.arb.credit,.tr (vb0.buckets.map Zk.enc),.tr (vb0.splits.map Ze),il vb0.holder,il vb0.held,il vb0.last,bl vb0.addr.live,il vb0.addr.who,il vb0.addr.beat,bl vb0.addr.first,il vb0.addr.by_,il vb0.addr.left,il vb0.addr.resp,bl vb0.addr.second,bl vb0.data_.live,il vb0.data_.who,il vb0.data_.beat,bl vb0.data_.first,il vb0.data_.by_,il vb0.data_.left,il vb0.data_.resp,bl vb0.data_.second,.tr (vb0.model.mem.map Ze),.tr (vb0.model.dev.regs.map Ze),il vb0.model.dev.timer,.tr (vb0.model.dev.fifo.map Ze),il vb0.picks,.tr (vb0.log.map Zm.enc)]]):=by
 intro m
 induction m with
 | zero=>intro vb0 v0 h;cases h
 | succ m ih=>exactλ{vb0} {v0} h=>itK h (λg1 h=>bnK h λa0 Z2 h=>bnK h λr0 Zn h=>bnK h λz0 X9 h=>Zi (ffi 1 12++[((1,13),(4,4096))]) 13 (lr Zd.enc x0.m (gg g1 (xb Zd.enc Z2 (rr (Zd2 Zn) (kk 1 (ta Zd.enc [r0] z0 (kk 1 (oe Zb.enc r0.queue (oa 6 Zd.enc_len r0 (ox Zd.enc X9 (oe Zd.enc z0 (Za.sc Za.z0 (ln Zc.enc vb0.conf.masters (ln Zd.enc z0 ee)))))))))))))) (ih h)) λg1 h=>bnK h λz1 hz1 h=>bnK h λz2 hz2 h=>bnK h λr1 Zz h=>bnK h λz3 hz3 h=>rtK h (lr Zd.enc x0.m (gg g1 (ta Zk.enc x0.buckets z1 (ta Ze x0.splits z2 (ol 2 Zk.enc_len Zk.enc_lit x0.buckets (ob (apl Zk.enc hz1) (ob (apm Zk.enc hz1) (oe Zk.enc z1 (ol 1 Zaf Zpx x0.splits (ob (apl Ze hz2) (ob (apm Ze hz2) (oe Ze z2 (rr (Yc8 Zz) (ta Zm.enc x0.log z3 (kk 8 (ol 7 Zm.enc_len Zm.enc_lit x0.log (ob (apl Zm.enc hz3) (ob (apm Zm.enc hz3) (oe Zm.enc z3 (oe Zc.enc vb0.conf.masters (oe Zd.enc vb0.m (oe Zk.enc z1 (oe Ze z2 (Zj.so r1 (oe Zm.enc z3 ee)))))))))))))))))))))))))
theorem Z1i {x0:Za} {r:Za} (h:Zor x0=some r):Zt Tryz.prog Mo (Yau x0 r):=
 Zs Tryz.func87 (bnK h λr2 Z8 h=>Zi [((1,1),(1,0)),((1,2),(1,1024)),((1,11),(2,1024)),((1,12),(3,2048)),((1,13),(4,0))] 12 (rr (Ye6 Z8) (ln Zc.enc r2.masters (tp (.num ([].map Zd.enc).length 0 0 []) (ob (show 0=([].map Zd.enc).length from rfl) ee)))) (Yfj h))
abbrev Ye7 (x0:Zh) (x1:Int) (r:Int):Y:=(191,[.agg (Zh.enc x0),il x1],il r,[.undef,.undef])
theorem Z2u {x0:Zh} {x1:Int} {r:Int} {v0:Bool} (h:Znl x0 x1 v0=some r):CS (Ye7 x0 x1 r) Tryz.f191 [1,0,1] [(1,il x1),(2,.ptr (1,1) 0 0),(16,bl v0)] [bx 1 (Zh.enc x0)]:=
 itK h (λg1 h=>rtK h (gg g1 ee)) λg1 h=>bnK h λa0 Z2 h=>rtK h (gg g1 (xb Zc.enc Z2 ee))
theorem Z4t {x0:Zh} {x1:Int} {r:Int} (h:Zi1 x0 x1=some r):Zt Tryz.prog Mo (Ye7 x0 x1 r):=
 Zs Tryz.func191 (bnK h λr0 Zn h=>itK h (λg1 h=>Zi [((1,1),(1,0))] 5 (rr (Zbb Zn) (gg g1 (kk 7 ee))) (Z2u h)) λg1 h=>bnK h λr1 Zz h=>Zi [((1,1),(1,0))] 5 (rr (Zbb Zn) (gg g1 (kk 3 (lr Zc.enc x0.masters (kk 2 (rr (Z3 Zz) (kk 2 ee))))))) (Z2u h))
abbrev Yyh (x0:Z6) (x1:Zh) (r:Bool):Y:=(135,[.agg (Z6.enc x0),.agg (Zh.enc x1)],bl r,[.undef,.undef])
theorem Zvc {x0:Z6} {x1:Zh} {r:Bool} (h:Zqk x0 x1=some r):Zt Tryz.prog Mo (Yyh x0 x1 r):=
 Zs Tryz.func135 (bnK h λr0 Zn h=>itK h (λg1 h=>bnK h λr1 Zz h=>have p1 {q p} (k:Scr q p):=(rr (Zbb Zn) (gg g1 (kk 4 (lr Zc.enc x1.masters (kk 2 (rr (Z3 Zz) (kk 1 k)))))));itK h (λg2 h=>bnK h λr2 Z8 h=>bnK h λr3 Y0 h=>rtK h (p1 (gg g2 (kk 5 (rr (Z4t Z8) (kk 1 (rr (Z3 Y0) (kk 1 ee)))))))) λg2 h=>rtK h (p1 (gg g2 (kk 7 ee)))) λg1 h=>rtK h (rr (Zbb Zn) (gg g1 (kk 15 ee))))
abbrev Yao (x0:List Int) (r:Bool):Y:=(192,[.tr (x0.map Ze)],bl r,[.undef])
theorem Yfi {x0:List Int} {r:Bool}:∀{m:Nat} {v0:Int},Zlf x0 m v0=some r->CS (Yao x0 r) Tryz.f192 [1,0,1,0] [(0,.tr (x0.map Ze)),(3,il v0)] []:=by
 intro m
 induction m with
 | zero=>intro v0 h;cases h
 | succ m ih=>exactλ{v0} h=>itK h (λg1 h=>bnK h λa0 Z2 h=>bnK h λr0 Zn h=>itK h (λg2 h=>rtK h (lr Ze x0 (gg g1 (xb Ze Z2 (rr (Z3 Zn) (gg g2 ee)))))) λg2 h=>Zi [] 14 (lr Ze x0 (gg g1 (xb Ze Z2 (rr (Z3 Zn) (gg g2 ee))))) (ih h)) λg1 h=>rtK h (lr Ze x0 (gg g1 (lr Ze x0 ee)))
theorem Zuq {x0:List Int} {r:Bool} (h:Zop x0=some r):Zt Tryz.prog Mo (Yao x0 r):=
 Zs Tryz.func192 (Zi [] 6 ee (Yfi h))
abbrev Ya0 (x0:List Int) (r:Bool):Y:=(242,[.tr (x0.map Ze)],bl r,[.undef])
theorem Yfm {x0:List Int} {r:Bool}:∀{m:Nat} {v0:Int},Zkp x0 m v0=some r->CS (Ya0 x0 r) Tryz.f242 [1,0,1,0] [(0,.tr (x0.map Ze)),(3,il v0)] []:=by
 intro m
 induction m with
 | zero=>intro v0 h;cases h
 | succ m ih=>exactλ{v0} h=>itK h (λg1 h=>bnK h λa0 Z2 h=>bnK h λr0 Zn h=>bnK h λr1 Zz h=>have p1 {q p} (k:Scr q p):=(lr Ze x0 (gg g1 (xb Ze Z2 (rr (Zcn Zn) (rr (Z3 Zz) k)))));itK h (λg2 h=>rtK h (p1 (gg g2 ee))) λg2 h=>Zi [] 14 (p1 (gg g2 ee)) (ih h)) λg1 h=>rtK h (lr Ze x0 (gg g1 ee))
theorem Z9s {x0:List Int} {r:Bool} (h:Zo7 x0=some r):Zt Tryz.prog Mo (Ya0 x0 r):=
 Zs Tryz.func242 (Zi [] 6 ee (Yfm h))
abbrev Yxz (x0:Zl) (r:Bool):Y:=(193,[.agg (Zl.enc x0)],bl r,[.undef])
theorem Yi1 {x0:Zl} {r:Bool} (h:Zvo x0=some r):Zt Tryz.prog Mo (Yxz x0 r):=
 Zs Tryz.func193 (itK h (λg1 h=>bnK h λr0 Zn h=>have p1 {q p} (k:Scr q p):=(lr Ze x0.regs (gg g1 (kk 2 (rr (Z9s Zn) (kk 1 k)))));itK h (λg2 h=>bnK h λr1 Zz h=>bnK h λr2 Z8 h=>have p2 {q p} (k:Scr q p):=(p1 (gg g2 (kk 2 (rr (Zcn Zz) (kk 2 (rr (Z3 Z8) (kk 1 k)))))));itK h (λg3 h=>itK h (λg4 h=>bnK h λr3 Y0 h=>rtK h (p2 (gg g3 (kk 2 (lr Ze x0.fifo (kk 2 (gg g4 (kk 2 (rr (Z9s Y0) (kk 1 ee)))))))))) λg4 h=>rtK h (p2 (gg g3 (kk 2 (lr Ze x0.fifo (kk 2 (gg g4 (kk 3 ee)))))))) λg3 h=>rtK h (p2 (gg g3 (kk 8 ee)))) λg2 h=>rtK h (p1 (gg g2 (kk 14 ee)))) λg1 h=>rtK h (lr Ze x0.regs (gg g1 (kk 18 ee))))
abbrev Yrf (x0:Zj) (r:Bool):Y:=(136,[.agg (Zj.enc x0)],bl r,[.undef])
theorem Z9r {x0:Zj} {r:Bool} (h:Zoz x0=some r):Zt Tryz.prog Mo (Yrf x0 r):=
 Zs Tryz.func136 (itK h (λg1 h=>bnK h λr0 Zn h=>itK h (λg2 h=>bnK h λr1 Zz h=>rtK h (lr Ze x0.mem (gg g1 (kk 2 (rr (Zuq Zn) (kk 1 (gg g2 (kk 2 (rr (Yi1 Zz) (kk 1 ee)))))))))) λg2 h=>rtK h (lr Ze x0.mem (gg g1 (kk 2 (rr (Zuq Zn) (kk 1 (gg g2 (kk 3 ee)))))))) λg1 h=>rtK h (lr Ze x0.mem (gg g1 (kk 7 ee))))
abbrev Yli (x0:Zd) (r:Int):Y:=(243,[.agg (Zd.enc x0)],il r,[.undef])
theorem Zef {x0:Zd} {r:Int} (h:Zc0 x0=some r):Zt Tryz.prog Mo (Yli x0 r):=
 Zs Tryz.func243 (itK h (λg1 h=>rtK h (lr Zb.enc x0.queue (gg g1 ee))) λg1 h=>bnK h λa0 Z2 h=>bnK h λr0 Zn h=>rtK h (lr Zb.enc x0.queue (gg g1 (xb Zb.enc Z2 (rr (Zd0 Zn) ee)))))
abbrev Zyt (x0:Zd) (r:Bool):Y:=(194,[.agg (Zd.enc x0)],bl r,[.undef])
theorem Zyw {x0:Zd} {r:Bool} {v0:Bool} (h:Zak x0 v0=some r):CS (Zyt x0 r) Tryz.f194 [1,1,0,1] [(1,.ptr (1,1) 0 0),(26,bl v0)] [bx 1 (Zd.enc x0)]:=
 itK h (λg1 h=>rtK h (gg g1 ee)) λg1 h=>have p1 {q p} (k:Scr q p):=(gg g1 (lr Zb.enc x0.queue k));itK h (λg2 h=>itK h (λg3 h=>itK h (λg4 h=>have p2 {q p} (k:Scr q p):=(p1 (gg g2 (gg g3 (kk 3 (gg g4 (kk 3 k))))));itK h (λg5 h=>itK h (λg6 h=>rtK h (p2 (gg g5 (kk 3 (gg g6 (kk 3 ee)))))) λg6 h=>rtK h (p2 (gg g5 (kk 3 (gg g6 (kk 3 ee)))))) λg5 h=>rtK h (p2 (gg g5 (kk 7 ee)))) λg4 h=>rtK h (p1 (gg g2 (gg g3 (kk 3 (gg g4 (kk 11 ee))))))) λg3 h=>rtK h (p1 (gg g2 (gg g3 (kk 15 ee))))) λg2 h=>bnK h λr0 Zn h=>bnK h λr1 Zz h=>itK h (λg3 h=>bnK h λr2 Z8 h=>bnK h λr3 Y0 h=>rtK h (p1 (gg g2 (rr (Zef Zn) (rr (Z3 Zz) (gg g3 (kk 8 (rr (Zef Z8) (kk 2 (rr (Z3 Y0) (kk 1 ee))))))))))) λg3 h=>rtK h (p1 (gg g2 (rr (Zef Zn) (rr (Z3 Zz) (gg g3 (kk 11 ee))))))
theorem Ybt {x0:Zd} {r:Bool}:∀{m:Nat} {v1:Int},Zjl x0 m v1=some r->CS (Zyt x0 r) Tryz.f194 [1,0,1,0] [(1,.ptr (1,1) 0 0),(3,il v1)] [bx 1 (Zd.enc x0)]:=by
 intro m
 induction m with
 | zero=>intro v1 h;cases h
 | succ m ih=>exactλ{v1} h=>itK h (λg1 h=>bnK h λa0 Z2 h=>bnK h λr4 Kv h=>have p1 {q p} (k:Scr q p):=(lr Zb.enc x0.queue (gg g1 (xb Zb.enc Z2 (rr (Zvi Kv) k))));itK h (λg2 h=>rtK h (p1 (gg g2 ee))) λg2 h=>Zi [((1,1),(1,1))] 14 (p1 (gg g2 ee)) (ih h)) λg1 h=>itK h (λg2 h=>Zi [((1,1),(1,1))] 12 (lr Zb.enc x0.queue (gg g1 (lr Zb.enc x0.queue (gg g2 (kk 3 ee))))) (Zyw h)) λg2 h=>Zi [((1,1),(1,1))] 12 (lr Zb.enc x0.queue (gg g1 (lr Zb.enc x0.queue (gg g2 (kk 3 ee))))) (Zyw h)
theorem J3 {x0:Zd} {r:Bool} (h:Za9 x0=some r):Zt Tryz.prog Mo (Zyt x0 r):=
 Zs Tryz.func194 (Zi [((1,1),(1,0))] 6 ee (Ybt h))
abbrev Yxt (x0:Zd) (x1:Zh) (r:Bool):Y:=(137,[.agg (Zd.enc x0),.agg (Zh.enc x1)],bl r,[.undef,.undef])
theorem Yxw {x0:Zd} {x1:Zh} {r:Bool} (h:Z7c x0 x1=some r):Zt Tryz.prog Mo (Yxt x0 x1 r):=
 Zs Tryz.func137 (bnK h λr0 Zn h=>itK h (λg1 h=>bnK h λr1 Zz h=>have p1 {q p} (k:Scr q p):=(rr (Zbb Zn) (gg g1 (kk 1 (rr (J3 Zz) (kk 1 k)))));itK h (λg2 h=>rtK h (p1 (gg g2 (kk 5 ee)))) λg2 h=>rtK h (p1 (gg g2 (kk 5 ee)))) λg1 h=>rtK h (rr (Zbb Zn) (gg g1 (kk 8 ee))))
abbrev Ym4 (x0:Zk) (x1:Zc) (r:Bool):Y:=(138,[.agg (Zk.enc x0),.agg (Zc.enc x1)],bl r,[.undef,.undef])
theorem Zml {x0:Zk} {x1:Zc} {r:Bool} (h:Zer x0 x1=some r):Zt Tryz.prog Mo (Ym4 x0 x1 r):=
 Zs Tryz.func138 (itK h (λg1 h=>rtK h (gg g1 ee)) λg1 h=>bnK h λr0 Zn h=>itK h (λg2 h=>bnK h λr1 Zz h=>rtK h (gg g1 (rr (Z3 Zn) (gg g2 (kk 5 (rr (Z3 Zz) (kk 1 ee))))))) λg2 h=>rtK h (gg g1 (rr (Z3 Zn) (gg g2 (kk 6 ee)))))
abbrev Z1r (x0:Za) (x1:Int) (r:Int):Y:=(139,[.agg (Za.enc x0),il x1],il r,[.undef,.undef])
theorem Z0s {x0:Za} {x1:Int} {r:Int} {v0:Int} (h:Zkw x0 x1 v0=some r):CS (Z1r x0 x1 r) Tryz.f139 [1,1,1] [(1,il x1),(2,.ptr (1,1) 0 0),(5,il v0)] [bx 1 (Za.enc x0)]:=
 itK h (λg1 h=>itK h (λg2 h=>rtK h (gg g1 (kk 5 (gg g2 ee)))) λg2 h=>rtK h (gg g1 (kk 5 (gg g2 ee)))) λg1 h=>rtK h (gg g1 (kk 6 ee))
theorem Zzx {x0:Za} {x1:Int} {r:Int} {v1:Bool} (h:Zkt x0 x1 v1=some r):CS (Z1r x0 x1 r) Tryz.f139 [1,1,0,1] [(1,il x1),(2,.ptr (1,1) 0 0),(5,il 0),(15,bl v1)] [bx 1 (Za.enc x0)]:=
 itK h (λg1 h=>Zi [((1,1),(1,1))] 2 (gg g1 ee) (Z0s h)) λg1 h=>Zi [((1,1),(1,1))] 2 (gg g1 ee) (Z0s h)
theorem Yrx {x0:Za} {x1:Int} {r:Int} (h:Zt1 x0 x1=some r):Zt Tryz.prog Mo (Z1r x0 x1 r):=
 Zs Tryz.func139 (itK h (λg1 h=>Zi [((1,1),(1,0))] 7 (gg g1 (kk 5 ee)) (Zzx h)) λg1 h=>Zi [((1,1),(1,0))] 7 (gg g1 (kk 5 ee)) (Zzx h))
abbrev Yle (x0:Int) (r:ByteArray):Y:=(195,[il x0],ss r,[.undef])
theorem Ylu {x0:Int} {r:ByteArray} (h:Zsq x0=some r):Zt Tryz.prog Mo (Yle x0 r):=
 Zs Tryz.func195 (bnK h λr0 Zn h=>itK h (λg1 h=>rtK h (rr (Z3 Zn) (gg g1 ee))) λg1 h=>bnK h λa0 Z2 h=>rtK h (rr (Z3 Zn) (gg g1 (xd encS Z2 ee))))
abbrev Z1k (x0:Za) (x1:Zf) (x2:Bool) (r:Bool):Y:=(140,[.agg (Za.enc x0),.agg (Zf.enc x1),bl x2],bl r,[.undef,.undef,.undef])
theorem Wj {x0:Za} {x1:Zf} {x2:Bool} {r:Bool} {vb0:Zd} {v0:Bool} (h:Ye x0 x1 x2 vb0 v0=some r):CS (Z1k x0 x1 x2 r) Tryz.f140 [1,1,1,1,1,0,1] [(3,.ptr (1,1) 0 0),(4,.ptr (1,2) 0 0),(7,.ptr (1,3) 0 0),(101,bl v0)] [bx 1 (Za.enc x0),bx 2 (Zf.enc x1),bx 3 (Zd.enc vb0)]:=
 itK h (λg1 h=>rtK h (gg g1 ee)) λg1 h=>itK h (λg2 h=>bnK h λr0 Zn h=>have p1 {q p} (k:Scr q p):=(gg g1 (gg g2 (kk 6 (rr (Z3 Zn) (kk 1 k)))));itK h (λg3 h=>bnK h λr1 Zz h=>have p2 {q p} (k:Scr q p):=(p1 (gg g3 (kk 2 (rr (Ylu Zz) (kk 2 k)))));itK h (λg4 h=>itK h (λg5 h=>rtK h (p2 (gg g4 (kk 3 (gg g5 (kk 7 ee)))))) λg5 h=>itK h (λg6 h=>rtK h (p2 (gg g4 (kk 3 (gg g5 (kk 3 (gg g6 (kk 7 ee)))))))) λg6 h=>rtK h (p2 (gg g4 (kk 3 (gg g5 (kk 3 (gg g6 (kk 7 ee)))))))) λg4 h=>rtK h (p2 (gg g4 (kk 5 ee)))) λg3 h=>rtK h (p1 (gg g3 (kk 10 ee)))) λg2 h=>rtK h (gg g1 (gg g2 (kk 18 ee)))
theorem Zrx {x0:Za} {x1:Zf} {x2:Bool} {r:Bool} {v1:Bool} (h:Q0 x0 x1 x2 v1=some r):CS (Z1k x0 x1 x2 r) Tryz.f140 [1,1,0,1] [(2,bl x2),(3,.ptr (1,1) 0 0),(4,.ptr (1,2) 0 0),(36,bl v1)] [bx 1 (Za.enc x0),bx 2 (Zf.enc x1)]:=
 itK h (λg1 h=>rtK h (gg g1 ee)) λg1 h=>bnK h λa0 Z2 h=>have p1 {q p} (k:Scr q p):=(gg g1 (xb Zd.enc Z2 k));itK h (λg2 h=>itK h (λg3 h=>itK h (λg4 h=>itK h (λg5 h=>rtK h (p1 (gg g2 (gg g3 (kk 3 (gg g4 (kk 3 (gg g5 (kk 3 ee))))))))) λg5 h=>rtK h (p1 (gg g2 (gg g3 (kk 3 (gg g4 (kk 3 (gg g5 (kk 3 ee))))))))) λg4 h=>rtK h (p1 (gg g2 (gg g3 (kk 3 (gg g4 (kk 7 ee))))))) λg3 h=>rtK h (p1 (gg g2 (gg g3 (kk 11 ee))))) λg2 h=>itK h (λg3 h=>have p2 {q p} (k:Scr q p):=(p1 (gg g2 (gg g3 (kk 6 k))));itK h (λg4 h=>Zi [((1,1),(1,1)),((1,2),(1,2)),((1,3),(2,6144))] 12 (p2 (gg g4 (kk 10 ee))) (Wj h)) λg4 h=>itK h (λg5 h=>have p3 {q p} (k:Scr q p):=(p2 (gg g4 (kk 3 (gg g5 (kk 2 k)))));itK h (λg6 h=>Zi [((1,1),(1,1)),((1,2),(1,2)),((1,3),(2,6144))] 12 (p3 (gg g6 (kk 14 ee))) (Wj h)) λg6 h=>itK h (λg7 h=>Zi [((1,1),(1,1)),((1,2),(1,2)),((1,3),(2,6144))] 12 (p3 (gg g6 (kk 9 (gg g7 (kk 4 ee))))) (Wj h)) λg7 h=>itK h (λg8 h=>Zi [((1,1),(1,1)),((1,2),(1,2)),((1,3),(2,6144))] 12 (p3 (gg g6 (kk 9 (gg g7 (kk 2 (gg g8 (kk 5 ee))))))) (Wj h)) λg8 h=>Zi [((1,1),(1,1)),((1,2),(1,2)),((1,3),(2,6144))] 12 (p3 (gg g6 (kk 9 (gg g7 (kk 2 (gg g8 (kk 5 ee))))))) (Wj h)) λg5 h=>itK h (λg6 h=>Zi [((1,1),(1,1)),((1,2),(1,2)),((1,3),(2,6144))] 12 (p2 (gg g4 (kk 3 (gg g5 (kk 9 (gg g6 (kk 5 ee))))))) (Wj h)) λg6 h=>Zi [((1,1),(1,1)),((1,2),(1,2)),((1,3),(2,6144))] 12 (p2 (gg g4 (kk 3 (gg g5 (kk 9 (gg g6 (kk 5 ee))))))) (Wj h)) λg3 h=>have p4 {q p} (k:Scr q p):=(p1 (gg g2 (gg g3 (kk 10 k))));itK h (λg4 h=>itK h (λg5 h=>Zi [((1,1),(1,1)),((1,2),(1,2)),((1,3),(2,6144))] 12 (p4 (gg g4 (kk 2 (gg g5 (kk 14 ee))))) (Wj h)) λg5 h=>itK h (λg6 h=>Zi [((1,1),(1,1)),((1,2),(1,2)),((1,3),(2,6144))] 12 (p4 (gg g4 (kk 2 (gg g5 (kk 9 (gg g6 (kk 4 ee))))))) (Wj h)) λg6 h=>itK h (λg7 h=>Zi [((1,1),(1,1)),((1,2),(1,2)),((1,3),(2,6144))] 12 (p4 (gg g4 (kk 2 (gg g5 (kk 9 (gg g6 (kk 2 (gg g7 (kk 5 ee))))))))) (Wj h)) λg7 h=>Zi [((1,1),(1,1)),((1,2),(1,2)),((1,3),(2,6144))] 12 (p4 (gg g4 (kk 2 (gg g5 (kk 9 (gg g6 (kk 2 (gg g7 (kk 5 ee))))))))) (Wj h)) λg4 h=>itK h (λg5 h=>Zi [((1,1),(1,1)),((1,2),(1,2)),((1,3),(2,6144))] 12 (p4 (gg g4 (kk 9 (gg g5 (kk 5 ee))))) (Wj h)) λg5 h=>Zi [((1,1),(1,1)),((1,2),(1,2)),((1,3),(2,6144))] 12 (p4 (gg g4 (kk 9 (gg g5 (kk 5 ee))))) (Wj h)
theorem Z9x {x0:Za} {x1:Zf} {x2:Bool} {r:Bool} (h:Zcl x0 x1 x2=some r):Zt Tryz.prog Mo (Z1k x0 x1 x2 r):=
 Zs Tryz.func140 (itK h (λg1 h=>rtK h (gg g1 ee)) λg1 h=>bnK h λr2 Z8 h=>have p1 {q p} (k:Scr q p):=(gg g1 (lr Zd.enc x0.m (rr (Z3 Z8) k)));itK h (λg2 h=>Zi [((1,1),(1,0)),((1,2),(1,1024))] 10 (p1 (gg g2 (kk 12 ee))) (Zrx h)) λg2 h=>bnK h λr3 Y0 h=>itK h (λg3 h=>Zi [((1,1),(1,0)),((1,2),(1,1024))] 10 (p1 (gg g2 (kk 2 (rr (Z3 Y0) (kk 2 (gg g3 (kk 7 ee))))))) (Zrx h)) λg3 h=>bnK h λa1 Y4 h=>Zi [((1,1),(1,0)),((1,2),(1,1024))] 10 (p1 (gg g2 (kk 2 (rr (Z3 Y0) (kk 2 (gg g3 (kk 4 (xb Ze Y4 (kk 3 ee))))))))) (Zrx h))
abbrev Z1y (x0:Za) (r:Bool):Y:=(141,[.agg (Za.enc x0)],bl r,[.undef])
theorem Zz5 {x0:Za} {r:Bool} {v0:Bool} (h:Zbe x0 v0=some r):CS (Z1y x0 r) Tryz.f141 [1,1,1,0,1] [(1,.ptr (1,1) 0 0),(67,bl v0)] [bx 1 (Za.enc x0)]:=
 itK h (λg1 h=>rtK h (gg g1 ee)) λg1 h=>bnK h λa0 Z2 h=>have p1 {q p} (k:Scr q p):=(gg g1 (xb Zd.enc Z2 (lr Zb.enc a0.queue k)));itK h (λg2 h=>bnK h λa1 Y4 h=>have p2 {q p} (k:Scr q p):=(p1 (gg g2 (kk 2 (xb Zb.enc Y4 (kk 3 k)))));itK h (λg3 h=>itK h (λg4 h=>bnK h λa2 Ka h=>rtK h (p2 (gg g3 (kk 3 (gg g4 (kk 4 (xb Ze Ka (kk 3 ee)))))))) λg4 h=>rtK h (p2 (gg g3 (kk 3 (gg g4 (kk 7 ee)))))) λg3 h=>rtK h (p2 (gg g3 (kk 11 ee)))) λg2 h=>rtK h (p1 (gg g2 (kk 17 ee)))
theorem Yde {x0:Za} {r:Bool}:∀{m:Nat} {v1:Int},Zsb x0 m v1=some r->CS (Z1y x0 r) Tryz.f141 [1,0,1,0] [(1,.ptr (1,1) 0 0),(3,il v1)] [bx 1 (Za.enc x0)]:=by
 intro m
 induction m with
 | zero=>intro v1 h;cases h
 | succ m ih=>exactλ{v1} h=>have p1 {q p} (k:Scr q p):=(lr Zd.enc x0.m k);itK h (λg1 h=>bnK h λa3 ha3 h=>have p2 {q p} (k:Scr q p):=(p1 (gg g1 (xb Zd.enc ha3 k)));itK h (λg2 h=>bnK h λa4 ha4 h=>have p3 {q p} (k:Scr q p):=(p2 (gg g2 (kk 3 (xb Zd.enc ha3 (kk 3 (xb Zb.enc ha4 (kk 3 k)))))));itK h (λg3 h=>have p4 {q p} (k:Scr q p):=(p3 (gg g3 (kk 3 (xb Zd.enc ha3 (kk 4 k)))));itK h (λg4 h=>itK h (λg5 h=>rtK h (p4 (gg g4 (kk 4 (gg g5 ee))))) λg5 h=>Zi [((1,1),(1,1))] 14 (p4 (gg g4 (kk 4 (gg g5 ee)))) (ih h)) λg4 h=>Zi [((1,1),(1,1))] 14 (p4 (gg g4 (kk 5 ee))) (ih h)) λg3 h=>Zi [((1,1),(1,1))] 14 (p3 (gg g3 (kk 13 ee))) (ih h)) λg2 h=>Zi [((1,1),(1,1))] 14 (p2 (gg g2 (kk 23 ee))) (ih h)) λg1 h=>itK h (λg2 h=>rtK h (p1 (gg g1 (gg g2 ee)))) λg2 h=>bnK h λr0 Zn h=>itK h (λg3 h=>Zi [((1,1),(1,1))] 17 (p1 (gg g1 (gg g2 (lr Zd.enc x0.m (rr (Z3 Zn) (gg g3 (kk 7 ee))))))) (Zz5 h)) λg3 h=>bnK h λr1 Zz h=>Zi [((1,1),(1,1))] 17 (p1 (gg g1 (gg g2 (lr Zd.enc x0.m (rr (Z3 Zn) (gg g3 (kk 5 (rr (Z3 Zz) (kk 2 ee))))))))) (Zz5 h)
theorem Z9v {x0:Za} {r:Bool} (h:Zot x0=some r):Zt Tryz.prog Mo (Z1y x0 r):=
 Zs Tryz.func141 (Zi [((1,1),(1,0))] 6 ee (Yde h))
abbrev Yc1 (x0:Za) (r:Bool):Y:=(142,[.agg (Za.enc x0)],bl r,[.undef])
theorem Yhh {x0:Za} {r:Bool}:∀{m:Nat} {v0:Int},Znv x0 m v0=some r->CS (Yc1 x0 r) Tryz.f142 [1,0,1,0] [(1,.ptr (1,1) 0 0),(3,il v0)] [bx 1 (Za.enc x0)]:=by
 intro m
 induction m with
 | zero=>intro v0 h;cases h
 | succ m ih=>exactλ{v0} h=>have p1 {q p} (k:Scr q p):=(lr Zm.enc x0.log k);itK h (λg1 h=>bnK h λa0 Z2 h=>bnK h λr0 Zn h=>have p2 {q p} (k:Scr q p):=(p1 (gg g1 (xb Zm.enc Z2 (rr (Z3 Zn) k))));itK h (λg2 h=>rtK h (p2 (gg g2 (kk 40 ee)))) λg2 h=>have p3 {q p} (k:Scr q p):=(p2 (gg g2 (kk 2 k)));itK h (λg3 h=>bnK h λa1 Y4 h=>have p4 {q p} (k:Scr q p):=(p3 (gg g3 (kk 6 (xb Zm.enc Y4 (kk 6 k)))));itK h (λg4 h=>rtK h (p4 (gg g4 (kk 35 ee)))) λg4 h=>bnK h λr1 Zz h=>have p5 {q p} (k:Scr q p):=(p4 (gg g4 (kk 4 (lr Zd.enc x0.m (kk 2 (rr (Z3 Zz) (kk 2 k)))))));itK h (λg5 h=>rtK h (p5 (gg g5 (kk 26 ee)))) λg5 h=>bnK h λr2 Z8 h=>have p6 {q p} (k:Scr q p):=(p5 (gg g5 (kk 4 (rr (Zo3 Z8) (kk 2 k)))));itK h (λg6 h=>rtK h (p6 (gg g6 (kk 19 ee)))) λg6 h=>bnK h λr3 Y0 h=>have p7 {q p} (k:Scr q p):=(p6 (gg g6 (kk 2 (rr (Z3 Y0) (kk 2 k)))));itK h (λg7 h=>rtK h (p7 (gg g7 (kk 14 ee)))) λg7 h=>bnK h λr4 Kv h=>bnK h λr5 hr5 h=>have p8 {q p} (k:Scr q p):=(p7 (gg g7 (kk 4 (rr (Zcn Kv) (kk 2 (rr (Z3 hr5) (kk 2 k)))))));itK h (λg8 h=>rtK h (p8 (gg g8 (kk 5 ee)))) λg8 h=>bnK h λr6 hr6 h=>itK h (λg9 h=>rtK h (p8 (gg g8 (kk 2 (rr (Z3 hr6) (kk 2 (gg g9 ee))))))) λg9 h=>Zi [((1,1),(1,1))] 16 (p8 (gg g8 (kk 2 (rr (Z3 hr6) (kk 2 (gg g9 ee)))))) (ih h)) λg3 h=>bnK h λr1 Zz h=>have p9 {q p} (k:Scr q p):=(p3 (gg g3 (kk 17 (lr Zd.enc x0.m (kk 2 (rr (Z3 Zz) (kk 2 k)))))));itK h (λg4 h=>rtK h (p9 (gg g4 (kk 26 ee)))) λg4 h=>bnK h λr2 Z8 h=>have p10 {q p} (k:Scr q p):=(p9 (gg g4 (kk 4 (rr (Zo3 Z8) (kk 2 k)))));itK h (λg5 h=>rtK h (p10 (gg g5 (kk 19 ee)))) λg5 h=>bnK h λr3 Y0 h=>have p11 {q p} (k:Scr q p):=(p10 (gg g5 (kk 2 (rr (Z3 Y0) (kk 2 k)))));itK h (λg6 h=>rtK h (p11 (gg g6 (kk 14 ee)))) λg6 h=>bnK h λr4 Kv h=>bnK h λr5 hr5 h=>have p12 {q p} (k:Scr q p):=(p11 (gg g6 (kk 4 (rr (Zcn Kv) (kk 2 (rr (Z3 hr5) (kk 2 k)))))));itK h (λg7 h=>rtK h (p12 (gg g7 (kk 5 ee)))) λg7 h=>bnK h λr6 hr6 h=>itK h (λg8 h=>rtK h (p12 (gg g7 (kk 2 (rr (Z3 hr6) (kk 2 (gg g8 ee))))))) λg8 h=>Zi [((1,1),(1,1))] 16 (p12 (gg g7 (kk 2 (rr (Z3 hr6) (kk 2 (gg g8 ee)))))) (ih h)) λg1 h=>rtK h (p1 (gg g1 ee))
theorem Yug {x0:Za} {r:Bool} (h:Zrz x0=some r):Zt Tryz.prog Mo (Yc1 x0 r):=
 Zs Tryz.func142 (Zi [((1,1),(1,0))] 6 ee (Yhh h))
abbrev Z6c (x0:Za) (r:Bool):Y:=(86,[.agg (Za.enc x0)],bl r,[.undef])
theorem Yj1 {x0:Za} {r:Bool}:∀{m:Nat} {v0:Int},Zpd x0 m v0=some r->CS (Z6c x0 r) Tryz.f86 [1,1,1,0,1,0] [(1,.ptr (1,1) 0 0),(3,il (x0.conf.masters.length:Int)),(4,il v0)] [bx 1 (Za.enc x0)]:=by
 intro m
 induction m with
 | zero=>intro v0 h;cases h
 | succ m ih=>exactλ{v0} h=>itK h (λg1 h=>bnK h λa0 Z2 h=>bnK h λr0 Zn h=>have p1 {q p} (k:Scr q p):=(gg g1 (xb Zd.enc Z2 (rr (Yxw Zn) k)));itK h (λg2 h=>rtK h (p1 (gg g2 (kk 43 ee)))) λg2 h=>bnK h λa1 Y4 h=>bnK h λa2 Ka h=>bnK h λr1 Zz h=>have p2 {q p} (k:Scr q p):=(p1 (gg g2 (kk 3 (xb Zk.enc Y4 (kk 6 (xb Zc.enc Ka (kk 2 (rr (Zml Zz) (kk 2 k)))))))));itK h (λg3 h=>rtK h (p2 (gg g3 (kk 29 ee)))) λg3 h=>bnK h λa3 ha3 h=>bnK h λr2 Z8 h=>have p3 {q p} (k:Scr q p):=(p2 (gg g3 (kk 3 (xb Ze ha3 (kk 5 (rr (Z3 Z8) (kk 2 k)))))));itK h (λg4 h=>rtK h (p3 (gg g4 (kk 18 ee)))) λg4 h=>bnK h λr3 Y0 h=>have p4 {q p} (k:Scr q p):=(p3 (gg g4 (kk 3 (xb Zd.enc Z2 (kk 6 (xb Zd.enc Z2 (kk 6 (rr (Yrx Y0) (kk 2 k)))))))));itK h (λg5 h=>rtK h (p4 (gg g5 ee))) λg5 h=>Zi [((1,1),(1,1))] 14 (p4 (gg g5 ee)) (ih h)) λg1 h=>bnK h λr4 Kv h=>have p5 {q p} (k:Scr q p):=(gg g1 (rr (Z9x Kv) k));itK h (λg2 h=>bnK h λr5 hr5 h=>have p6 {q p} (k:Scr q p):=(p5 (gg g2 (kk 3 (rr (Z9x hr5) (kk 1 k)))));itK h (λg3 h=>bnK h λr6 hr6 h=>itK h (λg4 h=>bnK h λr7 hr7 h=>rtK h (p6 (gg g3 (kk 1 (rr (Z9v hr6) (kk 1 (gg g4 (kk 1 (rr (Yug hr7) (kk 1 ee)))))))))) λg4 h=>rtK h (p6 (gg g3 (kk 1 (rr (Z9v hr6) (kk 1 (gg g4 (kk 2 ee)))))))) λg3 h=>rtK h (p6 (gg g3 (kk 5 ee)))) λg2 h=>rtK h (p5 (gg g2 (kk 10 ee)))
theorem Jh {x0:Za} {r:Bool} {v1:Bool} (h:Wu x0 v1=some r):CS (Z6c x0 r) Tryz.f86 [1,1,0,1] [(1,.ptr (1,1) 0 0),(3,il (x0.conf.masters.length:Int)),(73,bl v1)] [bx 1 (Za.enc x0)]:=
 itK h (λg1 h=>rtK h (gg g1 ee)) λg1 h=>Zi [((1,1),(1,1))] 6 (gg g1 ee) (Yj1 h)
theorem Yiy {x0:Za} {r:Bool} (h:Zmv x0=some r):Zt Tryz.prog Mo (Z6c x0 r):=
 Zs Tryz.func86 (bnK h λr8 hr8 h=>have p1 {q p} (k:Scr q p):=(lr Zc.enc x0.conf.masters (rr (Zbb hr8) k));itK h (λg1 h=>Zi [((1,1),(1,0))] 7 (p1 (gg g1 (kk 51 ee))) (Jh h)) λg1 h=>bnK h λr9 hr9 h=>have p2 {q p} (k:Scr q p):=(p1 (gg g1 (kk 2 (rr (Z3 hr9) (kk 2 k)))));itK h (λg2 h=>Zi [((1,1),(1,0))] 7 (p2 (gg g2 (kk 46 ee))) (Jh h)) λg2 h=>have p3 {q p} (k:Scr q p):=(p2 (gg g2 (kk 2 (lr Zd.enc x0.m (kk 3 k)))));itK h (λg3 h=>Zi [((1,1),(1,0))] 7 (p3 (gg g3 (kk 40 ee))) (Jh h)) λg3 h=>have p4 {q p} (k:Scr q p):=(p3 (gg g3 (kk 2 (lr Zk.enc x0.buckets (kk 3 k)))));itK h (λg4 h=>Zi [((1,1),(1,0))] 7 (p4 (gg g4 (kk 34 ee))) (Jh h)) λg4 h=>have p5 {q p} (k:Scr q p):=(p4 (gg g4 (kk 2 (lr Ze x0.splits (kk 3 k)))));itK h (λg5 h=>Zi [((1,1),(1,0))] 7 (p5 (gg g5 (kk 28 ee))) (Jh h)) λg5 h=>bnK h λr10 hr10 h=>have p6 {q p} (k:Scr q p):=(p5 (gg g5 (kk 4 (rr (Zvc hr10) (kk 2 k)))));itK h (λg6 h=>Zi [((1,1),(1,0))] 7 (p6 (gg g6 (kk 21 ee))) (Jh h)) λg6 h=>bnK h λr11 hr11 h=>have p7 {q p} (k:Scr q p):=(p6 (gg g6 (kk 4 (rr (Z3 hr11) (kk 2 k)))));itK h (λg7 h=>Zi [((1,1),(1,0))] 7 (p7 (gg g7 (kk 14 ee))) (Jh h)) λg7 h=>bnK h λr12 hr12 h=>have p8 {q p} (k:Scr q p):=(p7 (gg g7 (kk 2 (rr (Z9r hr12) (kk 2 k)))));itK h (λg8 h=>Zi [((1,1),(1,0))] 7 (p8 (gg g8 (kk 9 ee))) (Jh h)) λg8 h=>itK h (λg9 h=>Zi [((1,1),(1,0))] 7 (p8 (gg g8 (kk 3 (gg g9 (kk 5 ee))))) (Jh h)) λg9 h=>Zi [((1,1),(1,0))] 7 (p8 (gg g8 (kk 3 (gg g9 (kk 5 ee))))) (Jh h))
abbrev Z95 (x0:Za) (r:Bool):Y:=(98,[.agg (Za.enc x0)],bl r,[.undef])
theorem Yeq {x0:Za} {r:Bool}:∀{m:Nat} {v0:Int},Zlh x0 m v0=some r->CS (Z95 x0 r) Tryz.f98 [1,0,1,0] [(1,.ptr (1,1) 0 0),(3,il v0)] [bx 1 (Za.enc x0)]:=by
 intro m
 induction m with
 | zero=>intro v0 h;cases h
 | succ m ih=>exactλ{v0} h=>itK h (λg1 h=>bnK h λa0 Z2 h=>have p1 {q p} (k:Scr q p):=(lr Zd.enc x0.m (gg g1 (xb Zd.enc Z2 (lr Zb.enc a0.queue k))));itK h (λg2 h=>rtK h (p1 (gg g2 ee))) λg2 h=>Zi [((1,1),(1,1))] 14 (p1 (gg g2 ee)) (ih h)) λg1 h=>rtK h (lr Zd.enc x0.m (gg g1 ee))
theorem Yal {x0:Za} {r:Bool} (h:Zt2 x0=some r):Zt Tryz.prog Mo (Z95 x0 r):=
 Zs Tryz.func98 (Zi [((1,1),(1,0))] 6 ee (Yeq h))
abbrev Yaq (x0:Zd) (x1:Int) (r:Int):Y:=(199,[.agg (Zd.enc x0),il x1],il r,[.undef,.undef])
theorem Zzy {x0:Zd} {x1:Int} {r:Int} {v0:Bool} (h:Zlk x0 x1 v0=some r):CS (Yaq x0 x1 r) Tryz.f199 [1,0,1] [(1,il x1),(2,.ptr (1,1) 0 0),(16,bl v0)] [bx 1 (Zd.enc x0)]:=
 itK h (λg1 h=>rtK h (gg g1 ee)) λg1 h=>bnK h λa0 Z2 h=>bnK h λr0 Zn h=>bnK h λa1 Y4 h=>rtK h (gg g1 (xb Zb.enc Z2 (rr (Z2c Zn) (xd Ze Y4 ee))))
theorem Zow {x0:Zd} {x1:Int} {r:Int} (h:Zgz x0 x1=some r):Zt Tryz.prog Mo (Yaq x0 x1 r):=
 Zs Tryz.func199 (bnK h λr1 Zz h=>itK h (λg1 h=>Zi [((1,1),(1,0))] 5 (rr (J3 Zz) (gg g1 (kk 6 ee))) (Zzy h)) λg1 h=>bnK h λr2 Z8 h=>bnK h λr3 Y0 h=>Zi [((1,1),(1,0))] 5 (rr (J3 Zz) (gg g1 (kk 2 (rr (Zef Z8) (kk 2 (rr (Z3 Y0) (kk 2 ee))))))) (Zzy h))
abbrev Yac (x0:Za) (r:Zq):Y:=(145,[.agg (Za.enc x0)],.agg (Zq.enc r),[.undef])
theorem Zr6 {x0:Za} {r:Zq} {vb0:Zq} (h:Zf7 x0 vb0=some r):CS (Yac x0 r) Tryz.f145 [1,1,1] [(1,.ptr (1,1) 0 0),(2,.ptr (1,2) 0 0),(3,.ptr (1,3) 0 0)] [bx 1 (Za.enc x0),bx 2 (Zq.enc Zq.z0),bx 3 (Zq.enc vb0)]:=
 itK h (λg1 h=>bnK h λa0 Z2 h=>bnK h λr0 Zn h=>rtK h (gg g1 (xb Zd.enc Z2 (rr (Zow Zn) ee)))) λg1 h=>rtK h (gg g1 ee)
theorem Ypx {x0:Za} {r:Zq} (h:Zt0 x0=some r):Zt Tryz.prog Mo (Yac x0 r):=
 Zs Tryz.func145 (itK h (λg1 h=>bnK h λa1 Y4 h=>bnK h λr1 Zz h=>itK h (λg2 h=>Zi [((1,1),(1,0)),((1,2),(1,1024)),((1,3),(2,3072))] 18 (gg g1 (xb Zd.enc Y4 (rr (Zow Zz) (gg g2 ee)))) (Zr6 h)) λg2 h=>Zi [((1,1),(1,0)),((1,2),(1,1024)),((1,3),(2,3072))] 18 (gg g1 (xb Zd.enc Y4 (rr (Zow Zz) (gg g2 ee)))) (Zr6 h)) λg1 h=>Zi [((1,1),(1,0)),((1,2),(1,1024)),((1,3),(2,3072))] 9 (gg g1 ee) (Zr6 h))
abbrev Ya2 (x0:Zg) (x1:Int) (r:List Zv):Y:=(146,[.agg (Zg.enc x0),il x1],.own 106 (r.map Zv.enc),[.undef,.undef])
theorem Yd2 {x0:Zg} {x1:Int} {r:List Zv}:∀{m:Nat} {v0:List Zv} {v1:Int},Zk4 x0 x1 m v0 v1=some r->CS (Ya2 x0 x1 r) Tryz.f146 [1,1,0,1,0] [(1,il x1),(2,.ptr (1,1) 0 0),(5,.sl (1,2) 0 (v0.map Zv.enc).length),(6,il v1)] [bx 1 (Zg.enc x0),rx 2 106 (v0.map Zv.enc)]:=by
 intro m
 induction m with
 | zero=>intro v0 v1 h;cases h
 | succ m ih=>exactλ{v0} {v1} h=>itK h (λg1 h=>bnK h λa0 Z2 h=>itK h (λg2 h=>bnK h λr0 Zn h=>bnK h λz0 X9 h=>Zi [((1,1),(1,1)),((1,2),(6,3072))] 18 (lr Zv.enc x0.posts (gg g1 (xb Zv.enc Z2 (gg g2 (xb Zv.enc Z2 (rr (Z5a Zn) (kk 1 (ta Zv.enc [{a0 with req:=r0}] z0 (kk 1 (oe Ze r0.data_ (oa 8 Zv.enc_len {a0 with req:=r0} (ox Zv.enc X9 (ln Zv.enc z0 (oe Zv.enc z0 ee)))))))))))))) (ih h)) λg2 h=>Zi [((1,1),(1,1)),((1,2),(1,2))] 14 (lr Zv.enc x0.posts (gg g1 (xb Zv.enc Z2 (gg g2 (ln Zv.enc v0 ee))))) (ih h)) λg1 h=>rtK h (lr Zv.enc x0.posts (gg g1 (kk 1 (oe Zv.enc v0 ee))))
theorem Yp4 {x0:Zg} {x1:Int} {r:List Zv} (h:Zuc x0 x1=some r):Zt Tryz.prog Mo (Ya2 x0 x1 r):=
 Zs Tryz.func146 (Zi [((1,1),(1,0)),((1,2),(2,0))] 8 (tp (.num ([].map Zv.enc).length 0 0 []) (ob (show 0=([].map Zv.enc).length from rfl) ee)) (Yd2 h))
abbrev Z9y (x0:Zd) (x1:Zb) (r:Zd×Bool):Y:=(147,[.agg (Zd.enc x0),.agg (Zb.enc x1)],.tup [.agg [.own 104 (r.1.queue.map Zb.enc),il r.1.beat,il r.1.done,il r.1.tries,bl r.1.parted,bl r.1.broken],bl r.2],[.undef,.undef])
theorem Zri {x0:Zd} {x1:Zb} {r:Zd×Bool} {vb0:Zd} {v0:Bool} (h:Zfj x0 x1 vb0 v0=some r):CS (Z9y x0 x1 r) Tryz.f147 [1,1,0,1] [(3,.ptr (1,1) 0 0),(4,.ptr (1,2) 0 0),(6,.ptr (1,4) 0 0),(22,bl v0)] [bx 1 (Zb.enc x1),rx 3 104 ([].map Zb.enc),bx 2 [.sl (1,3) 0 ([].map Zb.enc).length,il 0,il 0,il 0,bl false,bl false],rx 5 104 (vb0.queue.map Zb.enc),bx 4 [.sl (1,5) 0 (vb0.queue.map Zb.enc).length,il vb0.beat,il vb0.done,il vb0.tries,bl vb0.parted,bl vb0.broken]]:=
 itK h (λg1 h=>rtK h (gg g1 (kk 1 (oe Zb.enc vb0.queue ee)))) λg1 h=>bnK h λr0 Zn h=>bnK h λz0 X9 h=>rtK h (gg g1 (rr (Z5a Zn) (kk 1 (ta Zb.enc [r0] z0 (kk 2 (oe Ze r0.data_ (oa 6 Zb.enc_len r0 (ox Zb.enc X9 (oe Zb.enc z0 (oe Zb.enc z0 ee))))))))))
theorem Ypk {x0:Zd} {x1:Zb} {r:Zd×Bool} (h:Zt8 x0 x1=some r):Zt Tryz.prog Mo (Z9y x0 x1 r):=
 Zs Tryz.func147 (bnK h λr1 Zz h=>bnK h λr2 Z8 h=>have p1 {q p} (k:Scr q p):=(rr (Zd2 Zz) (rr (J3 Z8) k));itK h (λg1 h=>Zi [((1,1),(1,1024)),((1,2),(1,2048)),((1,4),(2,2048)),((1,5),(2,1024))] 7 (p1 (gg g1 (kk 8 (ln Zb.enc r1.queue ee)))) (Zri h)) λg1 h=>bnK h λr3 Y0 h=>itK h (λg2 h=>Zi [((1,1),(1,1024)),((1,2),(1,2048)),((1,4),(2,2048)),((1,5),(2,1024))] 7 (p1 (gg g1 (kk 1 (rr (Zvi Y0) (kk 2 (gg g2 (kk 4 (ln Zb.enc r1.queue ee)))))))) (Zri h)) λg2 h=>Zi [((1,1),(1,1024)),((1,2),(1,2048)),((1,4),(2,2048)),((1,5),(2,1024))] 7 (p1 (gg g1 (kk 1 (rr (Zvi Y0) (kk 2 (gg g2 (kk 2 (lr Zb.enc x0.queue (kk 2 (ln Zb.enc r1.queue ee)))))))))) (Zri h))
abbrev Z2q (x0:Zk) (x1:Zc) (r:Zk):Y:=(148,[.agg (Zk.enc x0),.agg (Zc.enc x1)],.agg (Zk.enc r),[.undef,.undef])
theorem Zvd {x0:Zk} {x1:Zc} {r:Zk} {v0:Bool} (h:Zfl x0 x1 v0=some r):CS (Z2q x0 x1 r) Tryz.f148 [1,0,1] [(2,.ptr (1,1) 0 0),(3,.ptr (1,2) 0 0),(4,.ptr (1,3) 0 0),(13,bl v0)] [bx 1 (Zk.enc x0),bx 2 (Zc.enc x1),bx 3 (Zk.enc Zk.z0)]:=
 itK h (λg1 h=>rtK h (gg g1 ee)) λg1 h=>itK h (λg2 h=>rtK h (gg g1 (gg g2 ee))) λg2 h=>rtK h (gg g1 (gg g2 ee))
theorem Ygi {x0:Zk} {x1:Zc} {r:Zk} (h:Znp x0 x1=some r):Zt Tryz.prog Mo (Z2q x0 x1 r):=
 Zs Tryz.func148 (itK h (λg1 h=>Zi [((1,1),(1,0)),((1,2),(1,1024)),((1,3),(1,2048))] 5 (gg g1 (kk 4 ee)) (Zvd h)) λg1 h=>bnK h λr0 Zn h=>Zi [((1,1),(1,0)),((1,2),(1,1024)),((1,3),(1,2048))] 5 (gg g1 (kk 2 (rr (Zml Zn) (kk 2 ee)))) (Zvd h))
abbrev Yag (x0:Zd) (r:Zd×Bool):Y:=(200,[.agg (Zd.enc x0)],.tup [.agg [.own 104 (r.1.queue.map Zb.enc),il r.1.beat,il r.1.done,il r.1.tries,bl r.1.parted,bl r.1.broken],bl r.2],[.undef])
theorem Z0a {x0:Zd} {r:Zd×Bool} {vb0:Zd} {v0:Bool} (h:Zkq x0 vb0 v0=some r):CS (Yag x0 r) Tryz.f200 [1,1,0,1] [(2,.ptr (1,1) 0 0),(4,.ptr (1,3) 0 0),(16,bl v0)] [rx 2 104 ([].map Zb.enc),bx 1 [.sl (1,2) 0 ([].map Zb.enc).length,il 0,il 0,il 0,bl false,bl false],rx 4 104 (vb0.queue.map Zb.enc),bx 3 [.sl (1,4) 0 (vb0.queue.map Zb.enc).length,il vb0.beat,il vb0.done,il vb0.tries,bl vb0.parted,bl vb0.broken]]:=
 itK h (λg1 h=>rtK h (gg g1 (kk 1 (oe Zb.enc vb0.queue ee)))) λg1 h=>rtK h (gg g1 (kk 1 (oe Zb.enc vb0.queue ee)))
theorem Yrs {x0:Zd} {r:Zd×Bool} (h:Zui x0=some r):Zt Tryz.prog Mo (Yag x0 r):=
 Zs Tryz.func200 (bnK h λr0 Zn h=>bnK h λr1 Zz h=>itK h (λg1 h=>Zi [((1,1),(1,1024)),((1,3),(2,2048)),((1,4),(2,1024))] 7 (rr (Zd2 Zn) (rr (J3 Zz) (gg g1 (kk 5 (ln Zb.enc r0.queue ee))))) (Z0a h)) λg1 h=>Zi [((1,1),(1,1024)),((1,3),(2,2048)),((1,4),(2,1024))] 7 (rr (Zd2 Zn) (rr (J3 Zz) (gg g1 (kk 5 (ln Zb.enc r0.queue ee))))) (Z0a h))
abbrev Z2r (x0:Zk) (x1:Zc) (r:Zk):Y:=(201,[.agg (Zk.enc x0),.agg (Zc.enc x1)],.agg (Zk.enc r),[.undef,.undef])
theorem Zvg {x0:Zk} {x1:Zc} {r:Zk} {v0:Bool} (h:Zgb x0 x1 v0=some r):CS (Z2r x0 x1 r) Tryz.f201 [1,0,1] [(2,.ptr (1,1) 0 0),(3,.ptr (1,2) 0 0),(4,.ptr (1,3) 0 0),(11,bl v0)] [bx 1 (Zk.enc x0),bx 2 (Zc.enc x1),bx 3 (Zk.enc Zk.z0)]:=
 itK h (λg1 h=>rtK h (gg g1 ee)) λg1 h=>rtK h (gg g1 ee)
theorem Yg2 {x0:Zk} {x1:Zc} {r:Zk} (h:Zns x0 x1=some r):Zt Tryz.prog Mo (Z2r x0 x1 r):=
 Zs Tryz.func201 (itK h (λg1 h=>bnK h λr0 Zn h=>Zi [((1,1),(1,0)),((1,2),(1,1024)),((1,3),(1,2048))] 5 (gg g1 (kk 2 (rr (Zml Zn) (kk 1 ee)))) (Zvg h)) λg1 h=>Zi [((1,1),(1,0)),((1,2),(1,1024)),((1,3),(1,2048))] 5 (gg g1 (kk 3 ee)) (Zvg h))
abbrev Z91 (x0:Z6) (x1:Zh) (x2:Int) (r:Z6):Y:=(202,[.agg (Z6.enc x0),.agg (Zh.enc x1),il x2],.agg (Z6.enc r),[.undef,.undef,.undef])
theorem Z0u {x0:Z6} {x1:Zh} {x2:Int} {r:Z6} {v0:Bool} (h:Zlc x0 x1 x2 v0=some r):CS (Z91 x0 x1 x2 r) Tryz.f202 [1,0,1] [(2,il x2),(3,.ptr (1,1) 0 0),(4,.ptr (1,2) 0 0),(6,.ptr (1,3) 0 0),(15,bl v0)] [bx 1 (Z6.enc x0),bx 2 (Zh.enc x1),bx 3 (Z6.enc Z6.z0)]:=
 itK h (λg1 h=>bnK h λr0 Zn h=>rtK h (gg g1 (rr (Z4t Zn) ee))) λg1 h=>rtK h (gg g1 ee)
theorem Yo8 {x0:Z6} {x1:Zh} {x2:Int} {r:Z6} (h:Zt4 x0 x1 x2=some r):Zt Tryz.prog Mo (Z91 x0 x1 x2 r):=
 Zs Tryz.func202 (bnK h λr1 Zz h=>itK h (λg1 h=>Zi [((1,1),(1,0)),((1,2),(1,1024)),((1,3),(1,2048))] 5 (rr (Zvc Zz) (gg g1 (kk 4 ee))) (Z0u h)) λg1 h=>Zi [((1,1),(1,0)),((1,2),(1,1024)),((1,3),(1,2048))] 5 (rr (Zvc Zz) (gg g1 (kk 4 ee))) (Z0u h))
abbrev Yrz (x0:Za) (x1:Zf) (r:Za):Y:=(149,[.agg (Za.ow x0),.agg (Zf.enc x1)],.agg (Za.ow r),[.undef,.undef])
theorem Z1z {x0:Za} {x1:Zf} {r:Za} (h:Zka x0 x1=some r):Zt Tryz.prog Mo (Yrz x0 x1 r):=
 Zs Tryz.func149 (bnK h λa0 Z2 h=>bnK h λr0 Zn h=>bnK h λy0 W0 h=>have p1 {q p} (k:Scr q p):=(xd Zd.enc Z2 (rr (Yrs Zn) (xq Zd.enc Z2 y0 (kk 1 (oe Zb.enc r0.1.queue (ob (Zxx Zd.enc W0) k))))));itK h (λg1 h=>bnK h λa1 Y4 h=>bnK h λa2 Ka h=>bnK h λr1 Zz h=>bnK h λy1 hy1 h=>rtK h (p1 (gg g1 (xd Zk.enc Y4 (xd Zc.enc Ka (rr (Yg2 Zz) (xp Zk.enc Y4 hy1 (kk 8 (oe Zc.enc x0.conf.masters (ob (Q5 Zd.enc W0) (ob (Q5 Zk.enc hy1) (oe Ze x0.splits (Zj.so x0.model (oe Zm.enc x0.log ee)))))))))))))) λg1 h=>itK h (λg2 h=>bnK h λr2 Z8 h=>rtK h (p1 (gg g1 (gg g2 (kk 1 (oe Zc.enc x0.conf.masters (rr (Yo8 Z8) (kk 8 (oe Zc.enc x0.conf.masters (ob (Q5 Zd.enc W0) (oe Zk.enc x0.buckets (oe Ze x0.splits (Zj.so x0.model (oe Zm.enc x0.log ee)))))))))))))) λg2 h=>rtK h (p1 (gg g1 (gg g2 (kk 8 (oe Zc.enc x0.conf.masters (ob (Q5 Zd.enc W0) (oe Zk.enc x0.buckets (oe Ze x0.splits (Zj.so x0.model (oe Zm.enc x0.log ee)))))))))))
abbrev Ymb (x0:List Int) (x1:Int) (r:Int):Y:=(244,[.tr (x0.map Ze),il x1],il r,[.undef,.undef])
theorem Z71 {x0:List Int} {x1:Int} {r:Int} {v0:Bool} (h:Zx7 x0 x1 v0=some r):CS (Ymb x0 x1 r) Tryz.f244 [1,0,1] [(0,.tr (x0.map Ze)),(1,il x1),(11,bl v0)] []:=
 itK h (λg1 h=>rtK h (gg g1 ee)) λg1 h=>bnK h λn0 hn0 h=>bnK h λa0 Z2 h=>rtK h (gg g1 (lr Ze x0 (tp (.obl) (ob (nz0 hn0) (xb Ze Z2 ee)))))
theorem Zyv {x0:List Int} {x1:Int} {r:Int} (h:Zzf x0 x1=some r):Zt Tryz.prog Mo (Ymb x0 x1 r):=
 Zs Tryz.func244 (itK h (λg1 h=>Zi [] 5 (lr Ze x0 (gg g1 (kk 2 ee))) (Z71 h)) λg1 h=>Zi [] 5 (lr Ze x0 (gg g1 (kk 2 ee))) (Z71 h))
abbrev Yr1 (x0:Zh) (x1:Zg) (x2:Int) (r:Int):Y:=(203,[.agg (Zh.enc x0),.agg (Zg.enc x1),il x2],il r,[.undef,.undef,.undef])
theorem Yp5 {x0:Zh} {x1:Zg} {x2:Int} {r:Int} (h:Zt3 x0 x1 x2=some r):Zt Tryz.prog Mo (Yr1 x0 x1 x2 r):=
 Zs Tryz.func203 (bnK h λr0 Zn h=>rtK h (rr (Zyv Zn) ee))
abbrev Yna (x0:Zb) (x1:Int) (r:Int):Y:=(205,[.agg (Zb.enc x0),il x1],il r,[.undef,.undef])
theorem Z7l {x0:Zb} {x1:Int} {r:Int} (h:Zma x0 x1=some r):Zt Tryz.prog Mo (Yna x0 x1 r):=
 Zs Tryz.func205 (itK h (λg1 h=>rtK h (gg g1 ee)) λg1 h=>bnK h λa0 Z2 h=>rtK h (gg g1 (xb Ze Z2 ee)))
abbrev Z97 (x0:Int) (r:Int):Y:=(211,[il x0],il r,[.undef])
theorem Z0f {x0:Int} {r:Int} {v0:Bool} (h:Zr4 x0 v0=some r):CS (Z97 x0 r) Tryz.f211 [1,0,0,1] [(0,il x0),(3,bl v0)] []:=
 itK h (λg1 h=>rtK h (gg g1 ee)) λg1 h=>itK h (λg2 h=>rtK h (gg g1 (gg g2 ee))) λg2 h=>itK h (λg3 h=>rtK h (gg g1 (gg g2 (gg g3 ee)))) λg3 h=>rtK h (gg g1 (gg g2 (gg g3 ee)))
theorem Z1o {x0:Int} {r:Int} (h:Zts x0=some r):Zt Tryz.prog Mo (Z97 x0 r):=
 Zs Tryz.func211 (itK h (λg1 h=>Zi [] 6 (gg g1 (kk 2 ee)) (Z0f h)) λg1 h=>Zi [] 6 (gg g1 (kk 2 ee)) (Z0f h))
abbrev Yu9 (x0:List Int) (x1:Int) (x2:Int) (r:Bool):Y:=(263,[.tr (x0.map Ze),il x1,il x2],bl r,[.undef,.undef,.undef])
theorem Z4a {x0:List Int} {x1:Int} {x2:Int} {r:Bool} (h:Zqu x0 x1 x2=some r):Zt Tryz.prog Mo (Yu9 x0 x1 x2 r):=
 Zs Tryz.func263 (bnK h λr0 Zn h=>itK h (λg1 h=>bnK h λr1 Zz h=>have p1 {q p} (k:Scr q p):=(rr (Zuq Zn) (gg g1 (kk 2 (rr (Zo3 Zz) (kk 1 k)))));itK h (λg2 h=>bnK h λr2 Z8 h=>rtK h (p1 (gg g2 (kk 2 (lr Ze x0 (kk 2 (rr (Jd Z8) (kk 3 ee)))))))) λg2 h=>rtK h (p1 (gg g2 (kk 7 ee)))) λg1 h=>rtK h (rr (Zuq Zn) (gg g1 (kk 11 ee))))
abbrev Z3y (x0:List Int) (x1:Int) (x2:Int) (x3:Int) (r:List Int×Bool):Y:=(245,[.tr (x0.map Ze),il x1,il x2,il x3],.tup [.own 3 (r.1.map Ze),bl r.2],[.undef,.undef,.undef,.undef])
theorem Ygv {x0:List Int} {x1:Int} {x2:Int} {x3:Int} {r:List Int×Bool}:∀{m:Nat} {v0:Int} {v1:List Int} {v2:Int},Zm7 x0 x1 x2 x3 m v0 v1 v2=some r->CS (Z3y x0 x1 x2 x3 r) Tryz.f245 [1,1,1,0,1,0] [(1,il x1),(2,il x2),(3,il v0),(10,.sl (1,1) 0 (v1.map Ze).length),(11,il v2)] [rx 1 3 (v1.map Ze)]:=by
 intro m
 induction m with
 | zero=>intro v0 v1 v2 h;cases h
 | succ m ih=>exactλ{v0} {v1} {v2} h=>bnK h λr0 Zn h=>itK h (λg1 h=>bnK h λa0 Z2 h=>bnK h λy0 W0 h=>Zi [((1,1),(1,1))] 13 (rr (Jd Zn) (gg g1 (kk 1 (xp Ze Z2 W0 (kk 1 (tp (.num (y0.map Ze).length 0 0 []) (ob (Q5 Ze W0) ee))))))) (ih h)) λg1 h=>rtK h (rr (Jd Zn) (gg g1 (kk 1 (oe Ze v1 ee))))
theorem Z2j {x0:List Int} {x1:Int} {x2:Int} {x3:Int} {r:List Int×Bool} {v1:List Int} {v3:Bool} (h:Zn1 x0 x1 x2 x3 v1 v3=some r):CS (Z3y x0 x1 x2 x3 r) Tryz.f245 [1,1,0,1] [(1,il x1),(2,il x2),(3,il x3),(10,.sl (1,1) 0 (v1.map Ze).length),(27,bl v3)] [rx 1 3 (v1.map Ze)]:=
 itK h (λg1 h=>rtK h (gg g1 (kk 1 (oe Ze v1 ee)))) λg1 h=>Zi [((1,1),(1,1))] 6 (gg g1 (ln Ze v1 ee)) (Ygv h)
theorem Ytu {x0:List Int} {x1:Int} {x2:Int} {x3:Int} {r:List Int×Bool} (h:Zwd x0 x1 x2 x3=some r):Zt Tryz.prog Mo (Z3y x0 x1 x2 x3 r):=
 Zs Tryz.func245 (bnK h λz0 X9 h=>bnK h λr1 Zz h=>have p1 {q p} (k:Scr q p):=(ta Ze x0 z0 (ol 1 Zaf Zpx x0 (ob (apl Ze X9) (ob (apm Ze X9) (oe Ze z0 (rr (Z4a Zz) k))))));itK h (λg1 h=>Zi [((1,1),(2,2048))] 7 (p1 (gg g1 (kk 6 (ln Ze z0 ee)))) (Z2j h)) λg1 h=>bnK h λr2 Z8 h=>bnK h λr3 Y0 h=>Zi [((1,1),(2,2048))] 7 (p1 (gg g1 (kk 2 (rr (Zcn Z8) (kk 2 (rr (Z3 Y0) (kk 2 (ln Ze z0 ee)))))))) (Z2j h))
abbrev Zql (x0:Zl) (x1:Bool) (x2:Int) (x3:Int) (r:Zl×Int×Bool):Y:=(247,[.agg (Zl.enc x0),bl x1,il x2,il x3],.tup [.agg (Zl.ow r.1),il r.2.1,bl r.2.2],[.undef,.undef,.undef,.undef])
theorem Zv0 {x0:Zl} {x1:Bool} {x2:Int} {x3:Int} {r:Zl×Int×Bool} {vb0:Zl} {v0:Bool} (h:Zjz x0 x1 x2 x3 vb0 v0=some r):CS (Zql x0 x1 x2 x3 r) Tryz.f247 [1,1,1,0,0,1,1,1,1,1,1,1,1,1,1,1] [(8,.ptr (1,1) 0 0),(11,.ptr (1,4) 0 0),(101,bl v0)] (Zl.bk Zl.z0 2++[bx 1 (Zl.rl Zl.z0 2)]++Zl.bk vb0 5++[bx 4 (Zl.rl vb0 5)]):=
 itK h (λg1 h=>bnK h λa0 Z2 h=>bnK h λs0 hs0 h=>rtK h (gg g1 (xd Ze Z2 (tp (.num (1:Int).toNat ((vb0.fifo.length:Int):Int).toNat (((vb0.fifo.length:Int):Int).toNat - (1:Int).toNat) []) (kk 2 (tp (.mk 0 (s0.map Ze)) (oe Ze vb0.fifo (ob (sln hs0).1 (ob (Yg3 Ze vb0.fifo) (ob (sll Ze hs0) (ob (alr 1 Zaf vb0.fifo) (ob (Eq.refl (((vb0.fifo.length:Int):Int).toNat - (1:Int).toNat)) (oe Ze vb0.regs (ob (sla Ze hs0) (ob (slr Ze hs0) ee))))))))))))))) λg1 h=>rtK h (gg g1 (kk 2 (Zl.so vb0 ee)))
theorem Zvs {x0:Zl} {x1:Bool} {x2:Int} {x3:Int} {r:Zl×Int×Bool} {vb0:Zl} {v1:Bool} (h:Zj3 x0 x1 x2 x3 vb0 v1=some r):CS (Zql x0 x1 x2 x3 r) Tryz.f247 [1,1,1,0,0,1,1,1,1,1,1,1,1,1] [(1,bl x1),(2,il x2),(3,il x3),(8,.ptr (1,1) 0 0),(11,.ptr (1,4) 0 0),(81,bl v1)] (Zl.bk Zl.z0 2++[bx 1 (Zl.rl Zl.z0 2)]++Zl.bk vb0 5++[bx 4 (Zl.rl vb0 5)]):=
 itK h (λg1 h=>bnK h λz0 X9 h=>rtK h (gg g1 (ta Ze [x3] z0 (kk 3 (oa 1 Zaf x3 (ox Ze X9 (oe Ze z0 (oe Ze vb0.regs (oe Ze z0 ee))))))))) λg1 h=>itK h (λg2 h=>itK h (λg3 h=>Zi (ffi 1 6) 3 (gg g1 (gg g2 (kk 2 (gg g3 (kk 2 (lr Ze vb0.fifo (kk 2 (Zl.sc Zl.z0 (Zl.sc vb0 ee))))))))) (Zv0 h)) λg3 h=>Zi (ffi 1 6) 3 (gg g1 (gg g2 (kk 2 (gg g3 (kk 4 (Zl.sc Zl.z0 (Zl.sc vb0 ee))))))) (Zv0 h)) λg2 h=>Zi (ffi 1 6) 3 (gg g1 (gg g2 (kk 7 (Zl.sc Zl.z0 (Zl.sc vb0 ee))))) (Zv0 h)
theorem Z5u {x0:Zl} {x1:Bool} {x2:Int} {x3:Int} {r:Zl×Int×Bool} {vb0:Zl} {v2:Bool} (h:Zpl x0 x1 x2 x3 vb0 v2=some r):CS (Zql x0 x1 x2 x3 r) Tryz.f247 [1,1,1,0,0,1,1,1,1,1] [(1,bl x1),(2,il x2),(3,il x3),(8,.ptr (1,1) 0 0),(11,.ptr (1,4) 0 0),(59,bl v2)] (Zl.bk Zl.z0 2++[bx 1 (Zl.rl Zl.z0 2)]++Zl.bk vb0 5++[bx 4 (Zl.rl vb0 5)]):=
 itK h (λg1 h=>rtK h (gg g1 (kk 2 (Zl.so vb0 ee)))) λg1 h=>itK h (λg2 h=>bnK h λr0 Zn h=>bnK h λn0 hn0 h=>rtK h (gg g1 (gg g2 (rr (Zcn Zn) (tp (.obl) (kk 2 (ob (nz0 hn0) (Zl.so vb0 ee)))))))) λg2 h=>itK h (λg3 h=>itK h (λg4 h=>Zi (ffi 1 6) 6 (gg g1 (gg g2 (gg g3 (kk 1 (gg g4 (kk 2 (lr Ze vb0.fifo (kk 2 (Zl.sc Zl.z0 (Zl.sc vb0 ee)))))))))) (Zvs h)) λg4 h=>Zi (ffi 1 6) 6 (gg g1 (gg g2 (gg g3 (kk 1 (gg g4 (kk 4 (Zl.sc Zl.z0 (Zl.sc vb0 ee)))))))) (Zvs h)) λg3 h=>Zi (ffi 1 6) 6 (gg g1 (gg g2 (gg g3 (kk 6 (Zl.sc Zl.z0 (Zl.sc vb0 ee)))))) (Zvs h)
theorem Z5s {x0:Zl} {x1:Bool} {x2:Int} {x3:Int} {r:Zl×Int×Bool} {vb0:Zl} {v3:Bool} (h:Zpq x0 x1 x2 x3 vb0 v3=some r):CS (Zql x0 x1 x2 x3 r) Tryz.f247 [1,1,1,0,0,1] [(1,bl x1),(2,il x2),(3,il x3),(8,.ptr (1,1) 0 0),(11,.ptr (1,4) 0 0),(35,bl v3)] (Zl.bk Zl.z0 2++[bx 1 (Zl.rl Zl.z0 2)]++Zl.bk vb0 5++[bx 4 (Zl.rl vb0 5)]):=
 itK h (λg1 h=>bnK h λa1 Y4 h=>bnK h λy0 W0 h=>rtK h (gg g1 (kk 1 (xp Ze Y4 W0 (kk 2 (ob (Q5 Ze W0) (oe Ze vb0.fifo ee))))))) λg1 h=>bnK h λr1 Zz h=>itK h (λg2 h=>bnK h λa2 Ka h=>rtK h (gg g1 (rr (Z3 Zz) (gg g2 (kk 1 (xd Ze Ka (kk 2 (Zl.so vb0 ee)))))))) λg2 h=>itK h (λg3 h=>Zi (ffi 1 6) 6 (gg g1 (rr (Z3 Zz) (gg g2 (gg g3 (kk 1 (Zl.sc Zl.z0 (Zl.sc vb0 ee))))))) (Z5u h)) λg3 h=>Zi (ffi 1 6) 6 (gg g1 (rr (Z3 Zz) (gg g2 (gg g3 (kk 1 (Zl.sc Zl.z0 (Zl.sc vb0 ee))))))) (Z5u h)
theorem Zpp {x0:Zl} {x1:Bool} {x2:Int} {x3:Int} {r:Zl×Int×Bool} {vb0:Zl} {v4:Bool} (h:Zaa x0 x1 x2 x3 vb0 v4=some r):CS (Zql x0 x1 x2 x3 r) Tryz.f247 [1,1,0,1] [(1,bl x1),(2,il x2),(3,il x3),(8,.ptr (1,1) 0 0),(11,.ptr (1,4) 0 0),(33,bl v4)] (Zl.bk Zl.z0 2++[bx 1 (Zl.rl Zl.z0 2)]++Zl.bk vb0 5++[bx 4 (Zl.rl vb0 5)]):=
 itK h (λg1 h=>rtK h (gg g1 (kk 2 (Zl.so vb0 ee)))) λg1 h=>bnK h λr2 Z8 h=>itK h (λg2 h=>Zi (ffi 1 6) 6 (gg g1 (rr (Z3 Z8) (gg g2 (kk 1 (Zl.sc Zl.z0 (Zl.sc vb0 ee)))))) (Z5s h)) λg2 h=>Zi (ffi 1 6) 6 (gg g1 (rr (Z3 Z8) (gg g2 (kk 1 (Zl.sc Zl.z0 (Zl.sc vb0 ee)))))) (Z5s h)
theorem Yh5 {x0:Zl} {x1:Bool} {x2:Int} {x3:Int} {r:Zl×Int×Bool} (h:Zz4 x0 x1 x2 x3=some r):Zt Tryz.prog Mo (Zql x0 x1 x2 x3 r):=
 Zs Tryz.func247 (bnK h λr3 Y0 h=>bnK h λr4 Kv h=>have p1 {q p} (k:Scr q p):=(rr (Ycz Y0) (rr (Yi1 Kv) k));itK h (λg1 h=>Zi ([((1,1),(1,1024)),((1,4),(2,2048))]++Zl.ff 5 2 1024) 7 (p1 (gg g1 (kk 7 (Zl.sc r3 ee)))) (Zpp h)) λg1 h=>itK h (λg2 h=>Zi ([((1,1),(1,1024)),((1,4),(2,2048))]++Zl.ff 5 2 1024) 7 (p1 (gg g1 (kk 4 (gg g2 (kk 3 (Zl.sc r3 ee)))))) (Zpp h)) λg2 h=>itK h (λg3 h=>bnK h λr5 hr5 h=>bnK h λr6 hr6 h=>Zi ([((1,1),(1,1024)),((1,4),(2,2048))]++Zl.ff 5 2 1024) 7 (p1 (gg g1 (kk 4 (gg g2 (kk 1 (gg g3 (kk 1 (rr (Zcn hr5) (kk 2 (rr (Z3 hr6) (kk 4 (Zl.sc r3 ee)))))))))))) (Zpp h)) λg3 h=>Zi ([((1,1),(1,1024)),((1,4),(2,2048))]++Zl.ff 5 2 1024) 7 (p1 (gg g1 (kk 4 (gg g2 (kk 1 (gg g3 (kk 7 (Zl.sc r3 ee)))))))) (Zpp h))
abbrev Ydu (x0:List Int) (x1:Int) (x2:Int) (r:Int×Bool):Y:=(246,[.tr (x0.map Ze),il x1,il x2],.tup [il r.1,bl r.2],[.undef,.undef,.undef])
theorem Ygr {x0:List Int} {x1:Int} {x2:Int} {r:Int×Bool}:∀{m:Nat} {v0:Int} {v1:Int},Zod x0 x1 x2 m v0 v1=some r->CS (Ydu x0 x1 x2 r) Tryz.f246 [1,1,1,0,1,0] [(0,.tr (x0.map Ze)),(1,il x1),(8,il v0),(9,il v1)] []:=by
 intro m
 induction m with
 | zero=>intro v0 v1 h;cases h
 | succ m ih=>exactλ{v0} {v1} h=>itK h (λg1 h=>bnK h λa0 Z2 h=>Zi [] 11 (gg g1 (xb Ze Z2 ee)) (ih h)) λg1 h=>rtK h (gg g1 ee)
theorem Ytg {x0:List Int} {x1:Int} {x2:Int} {r:Int×Bool} (h:Zwm x0 x1 x2=some r):Zt Tryz.prog Mo (Ydu x0 x1 x2 r):=
 Zs Tryz.func246 (bnK h λr0 Zn h=>itK h (λg1 h=>rtK h (rr (Z4a Zn) (gg g1 ee))) λg1 h=>bnK h λr1 Zz h=>Zi [] 13 (rr (Z4a Zn) (gg g1 (rr (Jd Zz) ee))) (Ygr h))
abbrev Zul (x0:Zj) (x1:Bool) (x2:Int) (x3:Int) (x4:Int) (r:Zj×Int×Int):Y:=(204,[.agg (Zj.enc x0),bl x1,il x2,il x3,il x4],.tup [.agg (Zj.ow r.1),il r.2.1,il r.2.2],[.undef,.undef,.undef,.undef,.undef])
theorem Z0t {x0:Zj} {x1:Bool} {x2:Int} {x3:Int} {x4:Int} {r:Zj×Int×Int} {vb0:Zj} {vb1:Zl} {v0:Int} {v1:Bool} (h:Zlp x0 x1 x2 x3 x4 vb0 vb1 v0 v1=some r):CS (Zul x0 x1 x2 x3 x4 r) Tryz.f204 [1,1,1,0,1,0,1,1,1,0,1,1] [(10,.ptr (1,1) 0 0),(13,.ptr (1,5) 0 0),(16,.ptr (1,9) 0 0),(17,il v0),(87,bl v1)] (Zj.bk Zj.z0 2++[bx 1 (Zj.rl Zj.z0 2)]++Zj.bk vb0 6++[bx 5 (Zj.rl vb0 6)]++Zl.bk vb1 10++[bx 9 (Zl.rl vb1 10)]):=
 itK h (λg1 h=>rtK h (gg g1 (kk 3 (oe Ze vb0.mem (Zl.so vb1 ee))))) λg1 h=>rtK h (gg g1 (kk 3 (Zj.so vb0 ee)))
theorem Z0d {x0:Zj} {x1:Bool} {x2:Int} {x3:Int} {x4:Int} {r:Zj×Int×Int} {vb2:Zj} {v2:Int} {v3:Bool} (h:Zlb x0 x1 x2 x3 x4 vb2 v2 v3=some r):CS (Zul x0 x1 x2 x3 x4 r) Tryz.f204 [1,1,1,0,1,0,1] [(1,bl x1),(2,il x2),(3,il x3),(4,il x4),(5,.ptr (1,1) 0 0),(10,.ptr (1,2) 0 0),(13,.ptr (1,6) 0 0),(43,il v2),(44,bl v3)] ([bx 1 (Zj.enc x0)]++Zj.bk Zj.z0 3++[bx 2 (Zj.rl Zj.z0 3)]++Zj.bk vb2 7++[bx 6 (Zj.rl vb2 7)]):=
 itK h (λg1 h=>itK h (λg2 h=>bnK h λr0 Zn h=>rtK h (gg g1 (gg g2 (rr (Ytu Zn) (kk 3 (oe Ze r0.1 (Zl.so vb2.dev ee))))))) λg2 h=>bnK h λr1 Zz h=>rtK h (gg g1 (gg g2 (rr (Ytg Zz) (kk 3 (Zj.so vb2 ee)))))) λg1 h=>itK h (λg2 h=>bnK h λr2 Z8 h=>itK h (λg3 h=>Zi ([((1,1),(1,2)),((1,2),(1,3)),((1,3),(1,4)),((1,4),(1,5)),((1,5),(1,6)),((1,6),(1,7)),((1,7),(1,8)),((1,8),(1,9)),((1,9),(3,11264))]++Zl.ff 10 3 6144) 8 (gg g1 (gg g2 (rr (Yh5 Z8) (gg g3 (kk 1 (Zj.sc Zj.z0 (Zj.sc vb2 (Zl.sc r2.1 ee)))))))) (Z0t h)) λg3 h=>Zi ([((1,1),(1,2)),((1,2),(1,3)),((1,3),(1,4)),((1,4),(1,5)),((1,5),(1,6)),((1,6),(1,7)),((1,7),(1,8)),((1,8),(1,9)),((1,9),(3,11264))]++Zl.ff 10 3 6144) 8 (gg g1 (gg g2 (rr (Yh5 Z8) (gg g3 (kk 1 (Zj.sc Zj.z0 (Zj.sc vb2 (Zl.sc r2.1 ee)))))))) (Z0t h)) λg2 h=>rtK h (gg g1 (gg g2 (kk 3 (Zj.so vb2 ee))))
theorem Zld {x0:Zj} {x1:Bool} {x2:Int} {x3:Int} {x4:Int} {r:Zj×Int×Int} {vb2:Zj} {v4:Bool} (h:Kt x0 x1 x2 x3 x4 vb2 v4=some r):CS (Zul x0 x1 x2 x3 x4 r) Tryz.f204 [1,1,0,1] [(1,bl x1),(2,il x2),(3,il x3),(4,il x4),(5,.ptr (1,1) 0 0),(10,.ptr (1,2) 0 0),(13,.ptr (1,6) 0 0),(40,bl v4)] ([bx 1 (Zj.enc x0)]++Zj.bk Zj.z0 3++[bx 2 (Zj.rl Zj.z0 3)]++Zj.bk vb2 7++[bx 6 (Zj.rl vb2 7)]):=
 itK h (λg1 h=>rtK h (gg g1 (kk 3 (Zj.so vb2 ee)))) λg1 h=>bnK h λr3 Y0 h=>itK h (λg2 h=>Zi (ffi 1 9) 11 (gg g1 (rr (Z1o Y0) (gg g2 (Zj.sc Zj.z0 (Zj.sc vb2 ee))))) (Z0d h)) λg2 h=>Zi (ffi 1 9) 11 (gg g1 (rr (Z1o Y0) (gg g2 (Zj.sc Zj.z0 (Zj.sc vb2 ee))))) (Z0d h)
theorem Ya1 {x0:Zj} {x1:Bool} {x2:Int} {x3:Int} {x4:Int} {r:Zj×Int×Int} (h:Zom x0 x1 x2 x3 x4=some r):Zt Tryz.prog Mo (Zul x0 x1 x2 x3 x4 r):=
 Zs Tryz.func204 (bnK h λr4 Kv h=>bnK h λr5 hr5 h=>have p1 {q p} (k:Scr q p):=(rr (Yc8 Kv) (rr (Z9r hr5) k));itK h (λg1 h=>Zi ([((1,1),(1,0)),((1,2),(1,1024)),((1,6),(2,2048))]++Zj.ff 7 2 1024) 7 (p1 (gg g1 (kk 8 (Zj.sc r4 ee)))) (Zld h)) λg1 h=>bnK h λr6 hr6 h=>have p2 {q p} (k:Scr q p):=(p1 (gg g1 (kk 2 (rr (Zo3 hr6) (kk 2 k)))));itK h (λg2 h=>Zi ([((1,1),(1,0)),((1,2),(1,1024)),((1,6),(2,2048))]++Zj.ff 7 2 1024) 7 (p2 (gg g2 (kk 3 (Zj.sc r4 ee)))) (Zld h)) λg2 h=>itK h (λg3 h=>bnK h λr7 hr7 h=>bnK h λr8 hr8 h=>Zi ([((1,1),(1,0)),((1,2),(1,1024)),((1,6),(2,2048))]++Zj.ff 7 2 1024) 7 (p2 (gg g2 (kk 1 (gg g3 (kk 2 (rr (Zcn hr7) (kk 2 (rr (Z3 hr8) (kk 4 (Zj.sc r4 ee)))))))))) (Zld h)) λg3 h=>Zi ([((1,1),(1,0)),((1,2),(1,1024)),((1,6),(2,2048))]++Zj.ff 7 2 1024) 7 (p2 (gg g2 (kk 1 (gg g3 (kk 8 (Zj.sc r4 ee)))))) (Zld h))
abbrev Yfd (x0:Zd) (r:Zd×Bool):Y:=(206,[.agg (Zd.enc x0)],.tup [.agg [.own 104 (r.1.queue.map Zb.enc),il r.1.beat,il r.1.done,il r.1.tries,bl r.1.parted,bl r.1.broken],bl r.2],[.undef])
theorem Z2b {x0:Zd} {r:Zd×Bool} {vb0:Zd} {v0:Bool} (h:Zoc x0 vb0 v0=some r):CS (Yfd x0 r) Tryz.f206 [1,1,0,1] [(1,.ptr (1,1) 0 0),(2,.ptr (1,2) 0 0),(4,.ptr (1,4) 0 0),(16,bl v0)] [bx 1 (Zd.enc x0),rx 3 104 ([].map Zb.enc),bx 2 [.sl (1,3) 0 ([].map Zb.enc).length,il 0,il 0,il 0,bl false,bl false],rx 5 104 (vb0.queue.map Zb.enc),bx 4 [.sl (1,5) 0 (vb0.queue.map Zb.enc).length,il vb0.beat,il vb0.done,il vb0.tries,bl vb0.parted,bl vb0.broken]]:=
 itK h (λg1 h=>rtK h (gg g1 (kk 1 (oe Zb.enc vb0.queue ee)))) λg1 h=>bnK h λr0 Zn h=>itK h (λg2 h=>bnK h λs0 hs0 h=>rtK h (gg g1 (rr (Zef Zn) (gg g2 (tp (.num (1:Int).toNat ((vb0.queue.length:Int):Int).toNat (((vb0.queue.length:Int):Int).toNat - (1:Int).toNat) []) (kk 1 (tp (.mk 0 (s0.map Zb.enc)) (oe Zb.enc vb0.queue (ob (sln hs0).1 (ob (Yg3 Zb.enc vb0.queue) (ob (sll Zb.enc hs0) (ob (alr 6 Zb.enc_len vb0.queue) (ob (Eq.refl (((vb0.queue.length:Int):Int).toNat - (1:Int).toNat)) (ob (sla Zb.enc hs0) (ob (slr Zb.enc hs0) ee))))))))))))))) λg2 h=>rtK h (gg g1 (rr (Zef Zn) (gg g2 (kk 1 (oe Zb.enc vb0.queue ee)))))
theorem Yvo {x0:Zd} {r:Zd×Bool} (h:Zw4 x0=some r):Zt Tryz.prog Mo (Yfd x0 r):=
 Zs Tryz.func206 (bnK h λr1 Zz h=>bnK h λr2 Z8 h=>itK h (λg1 h=>Zi [((1,1),(1,0)),((1,2),(1,1024)),((1,4),(2,2048)),((1,5),(2,1024))] 7 (rr (Zd2 Zz) (rr (J3 Z8) (gg g1 (kk 5 (ln Zb.enc r1.queue ee))))) (Z2b h)) λg1 h=>Zi [((1,1),(1,0)),((1,2),(1,1024)),((1,4),(2,2048)),((1,5),(2,1024))] 7 (rr (Zd2 Zz) (rr (J3 Z8) (gg g1 (kk 5 (ln Zb.enc r1.queue ee))))) (Z2b h))
abbrev Z5m (x0:Za) (x1:Zg) (r:Za):Y:=(150,[.agg (Za.ow x0),.agg (Zg.enc x1)],.agg (Za.ow r),[.undef,.undef])
theorem Zv7 {x0:Za} {x1:Zg} {r:Za} {vb0:Za} {vb1:Zd} {vb2:Zm} (h:Zdl x0 x1 vb0 vb1 vb2=some r):CS (Z5m x0 x1 r) Tryz.f150 [1,1,1,1,1,1,1,1] [(2,.ptr (1,1) 0 0),(4,.ptr (1,10) 0 0),(5,.ptr (1,19) 0 0),(6,.ptr (1,20) 0 0),(8,.ptr (1,21) 0 0)] (Za.bk vb0 2++[bx 1 (Za.rl vb0 2)]++Za.bk Za.z0 11++[bx 10 (Za.rl Za.z0 11),bx 19 (Zf.enc x0.data_),bx 20 (Zd.enc vb1),bx 21 (Zm.enc vb2)]):=
 bnK h λz0 X9 h=>bnK h λr0 Zn h=>bnK h λa0 Z2 h=>bnK h λy0 W0 h=>have p1 {q p} (k:Scr q p):=(ta Zm.enc [vb2] z0 (kk 1 (oa 7 Zm.enc_len vb2 (ox Zm.enc X9 (oe Zm.enc z0 (rr (Yvo Zn) (xq Zd.enc Z2 y0 (kk 1 (oe Zb.enc r0.1.queue (ob (Zxx Zd.enc W0) k))))))))));itK h (λg1 h=>itK h (λg2 h=>rtK h (p1 (gg g1 (kk 3 (gg g2 (kk 8 (oe Zc.enc vb0.conf.masters (ob (Q5 Zd.enc W0) (oe Zk.enc vb0.buckets (oe Ze vb0.splits (Zj.so vb0.model (oe Zm.enc z0 ee)))))))))))) λg2 h=>rtK h (p1 (gg g1 (kk 3 (gg g2 (kk 8 (oe Zc.enc vb0.conf.masters (ob (Q5 Zd.enc W0) (oe Zk.enc vb0.buckets (oe Ze vb0.splits (Zj.so vb0.model (oe Zm.enc z0 ee)))))))))))) λg1 h=>rtK h (p1 (gg g1 (kk 12 (oe Zc.enc vb0.conf.masters (ob (Q5 Zd.enc W0) (oe Zk.enc vb0.buckets (oe Ze vb0.splits (Zj.so vb0.model (oe Zm.enc z0 ee)))))))))
theorem Yj4 {x0:Za} {x1:Zg} {r:Za} (h:Zpg x0 x1=some r):Zt Tryz.prog Mo (Z5m x0 x1 r):=
 Zs Tryz.func150 (bnK h λa1 Y4 h=>itK h (λg1 h=>bnK h λy1 hy1 h=>bnK h λr1 Zz h=>rtK h (xd Zd.enc Y4 (gg g1 (xp Zd.enc Y4 hy1 (kk 8 (oe Zc.enc x0.conf.masters (ob (Q5 Zd.enc hy1) (oe Zk.enc x0.buckets (oe Ze x0.splits (Zj.so x0.model (oe Zm.enc x0.log (rr (Z1z Zz) (kk 8 (Za.so r1 ee)))))))))))))) λg1 h=>itK h (λg2 h=>bnK h λy2 hy2 h=>bnK h λr2 Z8 h=>bnK h λa2 Ka h=>bnK h λy3 hy3 h=>bnK h λr3 Y0 h=>rtK h (xd Zd.enc Y4 (gg g1 (gg g2 (xp Zd.enc Y4 hy2 (kk 1 (oe Zc.enc x0.conf.masters (rr (Yp5 Z8) (xp Ze Ka hy3 (kk 8 (oe Zc.enc x0.conf.masters (ob (Q5 Zd.enc hy2) (oe Zk.enc x0.buckets (ob (Q5 Ze hy3) (Zj.so x0.model (oe Zm.enc x0.log (rr (Z1z Y0) (kk 8 (Za.so r3 ee))))))))))))))))))) λg2 h=>bnK h λa3 ha3 h=>bnK h λr4 Kv h=>have p1 {q p} (k:Scr q p):=(xd Zd.enc Y4 (gg g1 (gg g2 (xb Zb.enc ha3 (rr (Zow Kv) k)))));itK h (λg3 h=>bnK h λr5 hr5 h=>bnK h λr6 hr6 h=>Zi [((1,1),(1,0)),((1,2),(0,0)),((1,3),(0,7)),((1,4),(0,10)),((1,5),(0,11)),((1,6),(11,12288)),((1,7),(11,12289)),((1,8),(11,12291)),((1,9),(0,36)),((1,10),(1,2048)),((1,19),(2,2048)),((1,20),(4,6144)),((1,21),(9,15360))] 29 (p1 (gg g3 (rr (Z7l hr5) (kk 3 (Zj.so x0.model (rr (Ya1 hr6) (Za.sc {x0 with data_:=Zf.z0,model:=r6.1} ee))))))) (Zv7 h)) λg3 h=>Zi ([((1,1),(1,0))]++Za.ff 2 0 0++[((1,10),(1,2048)),((1,19),(2,2048)),((1,20),(4,6144)),((1,21),(9,15360))]) 29 (p1 (gg g3 (Za.sc {x0 with data_:=Zf.z0} ee))) (Zv7 h))
abbrev Yvq (x0:Zg) (x1:Int) (r:Int):Y:=(212,[.agg (Zg.enc x0),il x1],il r,[.undef,.undef])
theorem Yvi {x0:Zg} {x1:Int} {r:Int} (h:Zwk x0 x1=some r):Zt Tryz.prog Mo (Yvq x0 x1 r):=
 Zs Tryz.func212 (bnK h λr0 Zn h=>itK h (λg1 h=>rtK h (rr (Zyv Zn) (gg g1 (kk 3 ee)))) λg1 h=>itK h (λg2 h=>rtK h (rr (Zyv Zn) (gg g1 (kk 2 (gg g2 ee))))) λg2 h=>rtK h (rr (Zyv Zn) (gg g1 (kk 2 (gg g2 ee)))))
abbrev Yu6 (x0:Zh) (x1:Zg) (x2:Int) (r:Int):Y:=(213,[.agg (Zh.enc x0),.agg (Zg.enc x1),il x2],il r,[.undef,.undef,.undef])
theorem Yte {x0:Zh} {x1:Zg} {x2:Int} {r:Int} (h:Zwi x0 x1 x2=some r):Zt Tryz.prog Mo (Yu6 x0 x1 x2 r):=
 Zs Tryz.func213 (bnK h λr0 Zn h=>rtK h (rr (Zyv Zn) ee))
abbrev Zbh (x0:Za) (x1:Zg) (r:Za):Y:=(152,[.agg (Za.ow x0),.agg (Zg.enc x1)],.agg (Za.ow r),[.undef,.undef])
end Go.Proofs.YtagdmghmblplbaaGreat.Ev
