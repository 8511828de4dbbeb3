/- A part of the proof of FnExactPlay: see the text YtagdmghmblplbaaGreatLawFnExactPlay for what is proved and its conditions. Conditions here: those in each line. -/
import Derived.Test.YtagdmghmblplbaaGreatA4
set_option linter.unusedSimpArgs false
set_option linter.unusedVariables false
set_option linter.unusedSectionVars false
namespace Go.Proofs.YtagdmghmblplbaaGreat.Ev
open Go Go.Proofs
variable [Anchor]
def Mo:Yt:=⟨λf=>(List.lookup f [(17,[.iov,.rd]),(18,[.iov,.rd]),(19,[.iov,.rd]),(27,[.iov,.rd]),(28,[.iov,.rd]),(40,[.iov,.rd]),(56,[.iov,.rd]),(57,[.iov,.rd]),(73,[.iov,.rd]),(74,[.iov,.rd]),(75,[.iov,.rd]),(76,[.iov,.rd]),(129,[.iov,.rd]),(173,[.io]),(226,[.io]),(228,[.io]),(233,[.io]),(175,[.io]),(97,[.io]),(172,[.io,.rd,.io]),(149,[.mv]),(150,[.mv]),(152,[.mv]),(151,[.mv]),(251,[.mv,.rd])]).getD [],λ_=>false⟩
abbrev Y:=FuncId×List V×V×List V
abbrev RF (fn:Func) (y:Y):Ex->St->Prop:=Yeq Tryz.prog Mo y.1 fn y.2.1 y.2.2
theorem Yxt {P:Program} (hm:P.follows .mixedOrders=true) (h:P.funcs.toList.all (λfn=>(match fn.body with|some c=>Kg fn.ntmps c|none=>true)&&!(fn.name == "runtime.NumGoroutine"))=true):Ym P:=by
 rw[ZZk] at h;refine⟨hm,λf fn c hf hc=>?_,λf fn hf=>?_⟩
 .have:=h fn (Array.mem_toList_iff.2 (Veg hf))
  rw[hc] at this;simp only[ZZg] at this;exact this.1
 .have:=h fn (Array.mem_toList_iff.2 (Veg hf))
  simp only[ZZg,Vb2] at this;exact this.2
theorem fOk:Ym Tryz.prog:=Yxt (by kernel_rfl) (by kernel_rfl)
theorem bnK {α β:Type} {x:Option α} {f:α->Option β} {b:β} {G:Prop} (h:x.bind f=some b) (k:∀a,x=some a->f a=some b->G):G:=by
 obtain⟨a,h1,h2⟩:=Y20 h;exact k a h1 h2
theorem itK {β:Type} {t:Bool} {x y:Option β} {b:β} {G:Prop} (h:(if t=true then x else y)=some b) (k1:t=true->x=some b->G) (k2:t=false->y=some b->G):G:=by
 rcases Y2o h with⟨h1,h2⟩|⟨h1,h2⟩
 .exact k1 h1 h2
 .exact k2 h1 h2
theorem rtQ {α:Type} {F:α->Y} {fn:Func} {a r:α} {p:Prop} {stk:List It} {s:St} (h:some a=some r) (q:List O) (hp:p) (e:Z8e (runK Tryz.prog Mo (F a).1 fn (F a).2.1 100000 stk s q)=some (p,(F a).2.2):=by kernel_rfl):SX Tryz.prog (RF fn (F r)) stk .normal s:=by
 cases h;exact Yu1 fOk 100000 q hp e
theorem rtK {α:Type} {F:α->Y} {fn:Func} {a r:α} {p:Prop} {stk:List It} {s:St} {q:List O} (h:some a=some r) (hp:Scr q p) (e:Z8e (runK Tryz.prog Mo (F a).1 fn (F a).2.1 100000 stk s q)=some (p,(F a).2.2):=by kernel_rfl):SX Tryz.prog (RF fn (F r)) stk .normal s:=by
 cases h;exact Yu1 fOk 100000 q hp e
theorem cutQ {y:Y} {fn:Func} {stk k2:List It} {s:St} {p:Prop} {l:List (Nat×V)} {h:List (Id×Blk)} {ep:Nat} (f:List (Id×Id)) (n:Nat) (q:List O) (hp:p) (hn:SX Tryz.prog (RF fn y) k2 .normal (mkS l h ep))
  (e:Z8e (cutK Tryz.prog Mo f l h n stk s q)=some (p,(k2,Yd7 f l h)):=by kernel_rfl) (hb:(isC k2&&cutB f l h ep)=true:=by kernel_rfl):SX Tryz.prog (RF fn y) stk .normal s:=Yvb (M:=Mo) fOk f n q hp hn e hb
theorem Zk {y:Y} {fn:Func} {stk k2:List It} {s:St} {p:Prop} {l:List (Nat×V)} {h:List (Id×Blk)} {ep:Nat} {q:List O} (f:List (Id×Id)) (n:Nat) (hp:Scr q p) (hn:SX Tryz.prog (RF fn y) k2 .normal (mkS l h ep))
  (e:Z8e (cutK Tryz.prog Mo f l h n stk s q)=some (p,(k2,Yd7 f l h)):=by kernel_rfl) (hb:(isC k2&&cutB f l h ep)=true:=by kernel_rfl):SX Tryz.prog (RF fn y) stk .normal s:=Yvb (M:=Mo) fOk f n q hp hn e hb
theorem Zt {α:Type} {F:α->Y} {fn:Func} {r:α} (hfn:Tryz.prog.funcs[(F r).1]?=some fn) (h:SX Tryz.prog (RF fn (F r)) [.c (Xm fn)] .normal (entS Mo (F r).1 (F r).2.1)) (hc:fn.body=some (Xm fn):=by kernel_rfl) (hs:(St.enters ⟨λ_=>.undef,λ_=>none,0⟩ 0 (Mo.modes (F r).1) (F r).2.1).isSome=true:=by kernel_rfl):
  Zv Tryz.prog Mo (F r):=Y24 fOk hfn hc hs h
abbrev CS (y:Y) (fn:Func) (p:List Nat) (l:List (Nat×V)) (h:List (Id×Blk)):Prop:=SX Tryz.prog (RF fn y) (at_ p (Xm fn) []) .normal (mkS l h 1)
abbrev Ypy (x0:List Zc) (x1:Int) (r:Int):Y:=(42,[.tr (x0.map Zc.enc),il x1],il r,[.undef,.undef])
theorem Z8k {x0:List Zc} {x1:Int} {r:Int} (h:Z9d x0 x1=some r):Zv Tryz.prog Mo (Ypy x0 x1 r):=
 Zt Tryz.func42 (itK h (λg1 h=>rtK h (lr Zc.enc x0 (gg g1 ee))) λg1 h=>rtK h (lr Zc.enc x0 (gg g1 ee)))
abbrev Zcr (x0:Zh) (x1:Int) (r:Int):Y:=(8,[.agg (Zh.enc x0),il x1],il r,[.undef,.undef])
theorem Z5b {x0:Zh} {x1:Int} {r:Int} (h:Ztw x0 x1=some r):Zv Tryz.prog Mo (Zcr x0 x1 r):=
 Zt Tryz.func8 (bnK h λr0 Zo h=>itK h (λg1 h=>rtK h (rr (Z8k Zo) (gg g1 ee))) λg1 h=>rtK h (rr (Z8k Zo) (gg g1 ee)))
abbrev Ywr (x0:List Int) (x1:Int) (r:Int):Y:=(59,[.tr (x0.map Zd),il x1],il r,[.undef,.undef])
theorem Zt2 {x0:List Int} {x1:Int} {r:Int} (h:Zye x0 x1=some r):Zv Tryz.prog Mo (Ywr x0 x1 r):=
 Zt Tryz.func59 (itK h (λg1 h=>rtK h (lr Zd x0 (gg g1 ee))) λg1 h=>rtK h (lr Zd x0 (gg g1 ee)))
abbrev Yzj (x0:Zi) (x1:Int) (r:Int):Y:=(43,[.agg (Zi.enc x0),il x1],il r,[.undef,.undef])
theorem Ykw {x0:Zi} {x1:Int} {r:Int} (h:Z1u x0 x1=some r):Zv Tryz.prog Mo (Yzj x0 x1 r):=
 Zt Tryz.func43 (bnK h λr0 Zo h=>itK h (λg1 h=>rtK h (rr (Zt2 Zo) (gg g1 ee))) λg1 h=>rtK h (rr (Zt2 Zo) (gg g1 ee)))
abbrev Yv4 (x0:Zl) (x1:Int) (r:Int):Y:=(122,[.agg (Zl.enc x0),il x1],il r,[.undef,.undef])
theorem Yv8 {x0:Zl} {x1:Int} {r:Int} (h:Zx7 x0 x1=some r):Zv Tryz.prog Mo (Yv4 x0 x1 r):=
 Zt Tryz.func122 (bnK h λr0 Zo h=>itK h (λg1 h=>rtK h (rr (Ykw Zo) (gg g1 ee))) λg1 h=>rtK h (rr (Ykw Zo) (gg g1 ee)))
abbrev Yb1 (x0:List Zl) (x1:Int) (r:Int):Y:=(58,[.tr (x0.map Zl.enc),il x1],il r,[.undef,.undef])
theorem Yhk {x0:List Zl} {x1:Int} {r:Int}:∀{m:Nat} {v0:Int} {v1:Int},Zkt x0 x1 m v0 v1=some r->CS (Yb1 x0 x1 r) Tryz.f58 [1,1,1,0,1,0] [(0,.tr (x0.map Zl.enc)),(1,il v0),(5,il v1)] []:=by
 intro m
 induction m with
 | zero=>intro v0 v1 h;cases h
 | succ m ih=>exactλ{v0} {v1} h=>itK h (λg1 h=>bnK h λa0 Z0 h=>bnK h λr0 Zo h=>have p1 {q p} (k:Scr q p):=(lr Zl.enc x0 (gg g1 (xb Zl.enc Z0 (rr (Yv8 Zo) k))));itK h (λg2 h=>rtK h (p1 (gg g2 ee))) λg2 h=>Zk [] 16 (p1 (gg g2 ee)) (ih h)) λg1 h=>rtK h (lr Zl.enc x0 (gg g1 ee))
theorem Yc6 {x0:List Zl} {x1:Int} {r:Int} (h:Z3h x0 x1=some r):Zv Tryz.prog Mo (Yb1 x0 x1 r):=
 Zt Tryz.func58 (itK h (λg1 h=>rtK h (lr Zl.enc x0 (gg g1 ee))) λg1 h=>Zk [] 13 (lr Zl.enc x0 (gg g1 ee)) (Yhk h))
abbrev Zew (x0:Ze) (x1:Int) (r:Int):Y:=(21,[.agg (Ze.enc x0),il x1],il r,[.undef,.undef])
theorem Z7t {x0:Ze} {x1:Int} {r:Int} (h:Zt0 x0 x1=some r):Zv Tryz.prog Mo (Zew x0 x1 r):=
 Zt Tryz.func21 (bnK h λr0 Zo h=>itK h (λg1 h=>rtK h (rr (Yc6 Zo) (gg g1 ee))) λg1 h=>bnK h λr1 Zw h=>have p1 {q p} (k:Scr q p):=(rr (Yc6 Zo) (gg g1 (rr (Zt2 Zw) k)));itK h (λg2 h=>rtK h (p1 (gg g2 ee))) λg2 h=>bnK h λr2 Z6 h=>itK h (λg3 h=>rtK h (p1 (gg g2 (rr (Zt2 Z6) (gg g3 ee))))) λg3 h=>rtK h (p1 (gg g2 (rr (Zt2 Z6) (gg g3 ee)))))
abbrev Yuh (x0:Zc) (r:Zc):Y:=(110,[.agg (Zc.enc x0)],.agg (Zc.enc r),[.undef])
theorem Yur {x0:Zc} {r:Zc} (h:Z3i x0=some r):Zv Tryz.prog Mo (Yuh x0 r):=
 Zt Tryz.func110 (rtK h ee)
abbrev Z9a (x0:List Zc) (r:List Zc):Y:=(47,[.tr (x0.map Zc.enc)],.own 150 (r.map Zc.enc),[.undef])
theorem Ydq {x0:List Zc} {r:List Zc}:∀{m:Nat} {v0:List Zc} {v1:Int},Zjl x0 m v0 v1=some r->CS (Z9a x0 r) Tryz.f47 [1,1,0,1,0] [(0,.tr (x0.map Zc.enc)),(3,.sl (1,1) 0 (v0.map Zc.enc).length),(4,il v1)] [rx 1 150 (v0.map Zc.enc)]:=by
 intro m
 induction m with
 | zero=>intro v0 v1 h;cases h
 | succ m ih=>exactλ{v0} {v1} h=>itK h (λg1 h=>bnK h λa0 Z0 h=>bnK h λr0 Zo h=>bnK h λa1 Y3 h=>bnK h λy0 W6 h=>Zk [((1,1),(1,1))] 11 (lr Zc.enc x0 (gg g1 (xb Zc.enc Z0 (rr (Yur Zo) (xp Zc.enc Y3 W6 (tp (.num (y0.map Zc.enc).length 0 0 []) (ob (Q9 Zc.enc W6) ee))))))) (ih h)) λg1 h=>rtK h (lr Zc.enc x0 (gg g1 (kk 1 (oe Zc.enc v0 ee))))
theorem Yoc {x0:List Zc} {r:List Zc} (h:Zrm x0=some r):Zv Tryz.prog Mo (Z9a x0 r):=
 Zt Tryz.func47 (bnK h λm0 hm0 h=>Zk [((1,1),(2,2048))] 8 (lr Zc.enc x0 (tp (.mk ((x0.length:Int):Int).toNat (m0.map Zc.enc)) (ob (mkn hm0) (ob (mkn hm0) (ob (mkl hm0) (ob (mkr Zc.enc hm0) (ln Zc.enc m0 ee))))))) (Ydq h))
abbrev Jq (x0:Zh) (r:Zh):Y:=(11,[.agg (Zh.enc x0)],.agg [.own 150 (r.masters.map Zc.enc),il r.quantum,il r.maxWait,il r.maxRetry,il r.maxSplit,il r.lockMost],[.undef])
theorem Zxt {x0:Zh} {r:Zh} (h:Zxn x0=some r):Zv Tryz.prog Mo (Jq x0 r):=
 Zt Tryz.func11 (bnK h λr0 Zo h=>rtK h (rr (Yoc Zo) (kk 1 (oe Zc.enc r0 ee))))
abbrev Yg2 (x0:List Int) (r:List Int):Y:=(63,[.tr (x0.map Zd)],.own 3 (r.map Zd),[.undef])
theorem Yjz {x0:List Int} {r:List Int}:∀{m:Nat} {v0:List Int} {v1:Int},Zoa x0 m v0 v1=some r->CS (Yg2 x0 r) Tryz.f63 [1,1,0,1,0] [(0,.tr (x0.map Zd)),(3,.sl (1,1) 0 (v0.map Zd).length),(4,il v1)] [rx 1 3 (v0.map Zd)]:=by
 intro m
 induction m with
 | zero=>intro v0 v1 h;cases h
 | succ m ih=>exactλ{v0} {v1} h=>itK h (λg1 h=>bnK h λa0 Z0 h=>bnK h λa1 Y3 h=>bnK h λy0 W6 h=>Zk [((1,1),(1,1))] 11 (lr Zd x0 (gg g1 (xb Zd Z0 (xp Zd Y3 W6 (tp (.num (y0.map Zd).length 0 0 []) (ob (Q9 Zd W6) ee)))))) (ih h)) λg1 h=>rtK h (lr Zd x0 (gg g1 (kk 1 (oe Zd v0 ee))))
theorem Z5j {x0:List Int} {r:List Int} (h:Zn2 x0=some r):Zv Tryz.prog Mo (Yg2 x0 r):=
 Zt Tryz.func63 (bnK h λm0 hm0 h=>Zk [((1,1),(2,2048))] 8 (lr Zd x0 (tp (.mk ((x0.length:Int):Int).toNat (m0.map Zd)) (ob (mkn hm0) (ob (mkn hm0) (ob (mkl hm0) (ob (mkr Zd hm0) (ln Zd m0 ee))))))) (Yjz h))
abbrev Y0z (x0:Zi) (r:Zi):Y:=(48,[.agg (Zi.enc x0)],.agg [bl r.write,il r.addr,il r.size,il r.burst,bl r.lock,.own 3 (r.data_.map Zd)],[.undef])
theorem Y0w {x0:Zi} {r:Zi} (h:Zwa x0=some r):Zv Tryz.prog Mo (Y0z x0 r):=
 Zt Tryz.func48 (bnK h λr0 Zo h=>rtK h (rr (Z5j Zo) (kk 1 (oe Zd r0 ee))))
abbrev Ywf (x0:Zl) (r:Zl):Y:=(123,[.agg (Zl.enc x0)],.agg [il r.at_,il r.who,bl r.req.write,il r.req.addr,il r.req.size,il r.req.burst,bl r.req.lock,.own 3 (r.req.data_.map Zd)],[.undef])
theorem Yxp {x0:Zl} {r:Zl} (h:Zru x0=some r):Zv Tryz.prog Mo (Ywf x0 r):=
 Zt Tryz.func123 (bnK h λr0 Zo h=>rtK h (rr (Y0w Zo) (kk 1 (oe Zd r0.data_ ee))))
abbrev Ybp (x0:List Zl) (r:List Zl):Y:=(62,[.tr (x0.map Zl.enc)],.own 106 (r.map Zl.enc),[.undef])
theorem Yfe {x0:List Zl} {r:List Zl}:∀{m:Nat} {v0:List Zl} {v1:Int},Zkx x0 m v0 v1=some r->CS (Ybp x0 r) Tryz.f62 [1,1,0,1,0] [(0,.tr (x0.map Zl.enc)),(3,.sl (1,1) 0 (v0.map Zl.enc).length),(4,il v1)] [rx 1 106 (v0.map Zl.enc)]:=by
 intro m
 induction m with
 | zero=>intro v0 v1 h;cases h
 | succ m ih=>exactλ{v0} {v1} h=>itK h (λg1 h=>bnK h λa0 Z0 h=>bnK h λr0 Zo h=>bnK h λa1 Y3 h=>bnK h λy0 W6 h=>Zk [((1,1),(1,1))] 11 (lr Zl.enc x0 (gg g1 (xb Zl.enc Z0 (rr (Yxp Zo) (xq Zl.enc Y3 y0 (kk 1 (tp (.num (y0.map Zl.enc).length 0 0 []) (oe Zd r0.req.data_ (ob (Z0r Zl.enc W6) (ob (Q9 Zl.enc W6) ee)))))))))) (ih h)) λg1 h=>rtK h (lr Zl.enc x0 (gg g1 (kk 1 (oe Zl.enc v0 ee))))
theorem Yr8 {x0:List Zl} {r:List Zl} (h:Zvo x0=some r):Zv Tryz.prog Mo (Ybp x0 r):=
 Zt Tryz.func62 (bnK h λm0 hm0 h=>Zk [((1,1),(2,2048))] 8 (lr Zl.enc x0 (tp (.mk ((x0.length:Int):Int).toNat (m0.map Zl.enc)) (ob (mkn hm0) (ob (mkn hm0) (ob (mkl hm0) (ob (mkr Zl.enc hm0) (ln Zl.enc m0 ee))))))) (Yfe h))
abbrev Qy (x0:Ze) (r:Ze):Y:=(23,[.agg (Ze.enc x0)],.agg (Ze.ow r),[.undef])
theorem Zsj {x0:Ze} {r:Ze} (h:Zs9 x0=some r):Zv Tryz.prog Mo (Qy x0 r):=
 Zt Tryz.func23 (bnK h λr0 Zo h=>bnK h λr1 Zw h=>bnK h λr2 Z6 h=>rtK h (rr (Yr8 Zo) (rr (Z5j Zw) (rr (Z5j Z6) (kk 3 (oe Zl.enc r0 (oe Zd r1 (oe Zd r2 ee))))))))
abbrev Y2j (x0:Int) (x1:Int) (x2:Int) (r:Bool):Y:=(61,[il x0,il x1,il x2],bl r,[.undef,.undef,.undef])
theorem Z3 {x0:Int} {x1:Int} {x2:Int} {r:Bool} (h:Z4 x0 x1 x2=some r):Zv Tryz.prog Mo (Y2j x0 x1 x2 r):=
 Zt Tryz.func61 (itK h (λg1 h=>rtK h (gg g1 (kk 3 ee))) λg1 h=>rtK h (gg g1 (kk 3 ee)))
abbrev Yfk (x0:Zh) (r:Int):Y:=(178,[.agg (Zh.enc x0)],il r,[.undef])
theorem Z4a {x0:Zh} {r:Int} {v0:Bool} (h:Zns x0 v0=some r):CS (Yfk x0 r) Tryz.f178 [1,0,1] [(1,.ptr (1,1) 0 0),(12,bl v0)] [bx 1 (Zh.enc x0)]:=
 itK h (λg1 h=>rtK h (gg g1 ee)) λg1 h=>rtK h (gg g1 ee)
theorem Zsb {x0:Zh} {r:Int} (h:Zjh x0=some r):Zv Tryz.prog Mo (Yfk x0 r):=
 Zt Tryz.func178 (bnK h λr0 Zo h=>itK h (λg1 h=>Zk [((1,1),(1,0))] 5 (rr (Z3 Zo) (gg g1 (kk 4 ee))) (Z4a h)) λg1 h=>bnK h λr1 Zw h=>Zk [((1,1),(1,0))] 5 (rr (Z3 Zo) (gg g1 (kk 2 (rr (Z3 Zw) (kk 2 ee))))) (Z4a h))
abbrev Ywx (x0:Zh) (r:Int):Y:=(102,[.agg (Zh.enc x0)],il r,[.undef])
theorem Yhd {x0:Zh} {r:Int} (h:Zgm x0=some r):Zv Tryz.prog Mo (Ywx x0 r):=
 Zt Tryz.func102 (bnK h λr0 Zo h=>itK h (λg1 h=>rtK h (rr (Zsb Zo) (gg g1 (kk 5 ee)))) λg1 h=>bnK h λr1 Zw h=>itK h (λg2 h=>rtK h (rr (Zsb Zo) (gg g1 (kk 2 (rr (Z3 Zw) (kk 2 (gg g2 ee))))))) λg2 h=>bnK h λr2 Z6 h=>rtK h (rr (Zsb Zo) (gg g1 (kk 2 (rr (Z3 Zw) (kk 2 (gg g2 (rr (Zsb Z6) ee))))))))
abbrev Ypo (x0:Zh) (r:Bool):Y:=(103,[.agg (Zh.enc x0)],bl r,[.undef])
theorem Yob {x0:Zh} {r:Bool} (h:Zr7 x0=some r):Zv Tryz.prog Mo (Ypo x0 r):=
 Zt Tryz.func103 (bnK h λr0 Zo h=>itK h (λg1 h=>bnK h λr1 Zw h=>have p1 {q p} (k:Scr q p):=(rr (Z3 Zo) (gg g1 (kk 1 (rr (Zsb Zw) (kk 2 k)))));itK h (λg2 h=>bnK h λr2 Z6 h=>itK h (λg3 h=>bnK h λr3 Yu h=>rtK h (p1 (gg g2 (kk 2 (rr (Z3 Z6) (kk 1 (gg g3 (kk 2 (rr (Z3 Yu) (kk 1 ee)))))))))) λg3 h=>rtK h (p1 (gg g2 (kk 2 (rr (Z3 Z6) (kk 1 (gg g3 (kk 3 ee)))))))) λg2 h=>rtK h (p1 (gg g2 (kk 7 ee)))) λg1 h=>rtK h (rr (Z3 Zo) (gg g1 (kk 11 ee))))
abbrev Z6x (x0:Zh) (r:Bool):Y:=(44,[.agg (Zh.enc x0)],bl r,[.undef])
theorem Yj2 {x0:Zh} {r:Bool}:∀{m:Nat} {v0:Int} {v1:Int},Zav x0 m v0 v1=some r->CS (Z6x x0 r) Tryz.f44 [1,1,1,0,1,0] [(1,.ptr (1,1) 0 0),(3,il v0),(5,il v1)] [bx 1 (Zh.enc x0)]:=by
 intro m
 induction m with
 | zero=>intro v0 v1 h;cases h
 | succ m ih=>exactλ{v0} {v1} h=>have p1 {q p} (k:Scr q p):=(lr Zc.enc x0.masters k);itK h (λg1 h=>bnK h λa0 Z0 h=>bnK h λr0 Zo h=>have p2 {q p} (k:Scr q p):=(p1 (gg g1 (xb Zc.enc Z0 (rr (Z3 Zo) k))));itK h (λg2 h=>rtK h (p2 (gg g2 (kk 11 ee)))) λg2 h=>have p3 {q p} (k:Scr q p):=(p2 (gg g2 (kk 3 k)));itK h (λg3 h=>itK h (λg4 h=>rtK h (p3 (gg g3 (kk 3 (gg g4 (kk 13 ee)))))) λg4 h=>have p4 {q p} (k:Scr q p):=(p3 (gg g3 (kk 3 (gg g4 (kk 7 k)))));itK h (λg5 h=>rtK h (p4 (gg g5 (kk 5 ee)))) λg5 h=>itK h (λg6 h=>bnK h λr1 Zw h=>bnK h λr2 Z6 h=>have p5 {q p} (k:Scr q p):=(p4 (gg g5 (kk 2 (gg g6 (kk 5 (rr (Yhd Zw) (kk 2 (rr (Z3 Z6) (kk 2 k)))))))));itK h (λg7 h=>rtK h (p5 (gg g7 (kk 9 ee)))) λg7 h=>bnK h λr3 Yu h=>itK h (λg8 h=>rtK h (p5 (gg g7 (kk 2 (rr (Z3 Yu) (kk 6 (gg g8 ee))))))) λg8 h=>Zk [((1,1),(1,1))] 16 (p5 (gg g7 (kk 2 (rr (Z3 Yu) (kk 6 (gg g8 ee)))))) (ih h)) λg6 h=>Zk [((1,1),(1,1))] 16 (p4 (gg g5 (kk 2 (gg g6 (kk 14 ee))))) (ih h)) λg3 h=>itK h (λg4 h=>bnK h λr1 Zw h=>bnK h λr2 Z6 h=>have p6 {q p} (k:Scr q p):=(p3 (gg g3 (kk 10 (gg g4 (kk 5 (rr (Yhd Zw) (kk 2 (rr (Z3 Z6) (kk 2 k)))))))));itK h (λg5 h=>rtK h (p6 (gg g5 (kk 9 ee)))) λg5 h=>bnK h λr3 Yu h=>itK h (λg6 h=>rtK h (p6 (gg g5 (kk 2 (rr (Z3 Yu) (kk 6 (gg g6 ee))))))) λg6 h=>Zk [((1,1),(1,1))] 16 (p6 (gg g5 (kk 2 (rr (Z3 Yu) (kk 6 (gg g6 ee)))))) (ih h)) λg4 h=>Zk [((1,1),(1,1))] 16 (p3 (gg g3 (kk 10 (gg g4 (kk 14 ee))))) (ih h)) λg1 h=>bnK h λr4 Kx h=>itK h (λg2 h=>bnK h λr5 hr5 h=>rtK h (p1 (gg g1 (lr Zc.enc x0.masters (rr (Z3 Kx) (gg g2 (kk 1 (rr (Yob hr5) (kk 1 ee))))))))) λg2 h=>rtK h (p1 (gg g1 (lr Zc.enc x0.masters (rr (Z3 Kx) (gg g2 (kk 2 ee))))))
theorem Yi7 {x0:Zh} {r:Bool}:∀{m:Nat} {v0:Int} {v2:Int},Zoe x0 m v0 v2=some r->CS (Z6x x0 r) Tryz.f44 [1,1,0,1,0] [(1,.ptr (1,1) 0 0),(3,il v0),(4,il v2)] [bx 1 (Zh.enc x0)]:=by
 intro m
 induction m with
 | zero=>intro v0 v2 h;cases h
 | succ m ih=>exactλ{v0} {v2} h=>itK h (λg1 h=>bnK h λa1 Y3 h=>itK h (λg2 h=>Zk [((1,1),(1,1))] 14 (lr Zc.enc x0.masters (gg g1 (xb Zc.enc Y3 (gg g2 ee)))) (ih h)) λg2 h=>Zk [((1,1),(1,1))] 14 (lr Zc.enc x0.masters (gg g1 (xb Zc.enc Y3 (gg g2 ee)))) (ih h)) λg1 h=>Zk [((1,1),(1,1))] 13 (lr Zc.enc x0.masters (gg g1 ee)) (Yj2 h)
theorem Zcv {x0:Zh} {r:Bool} (h:Zd2 x0=some r):Zv Tryz.prog Mo (Z6x x0 r):=
 Zt Tryz.func44 (Zk [((1,1),(1,0))] 8 ee (Yi7 h))
abbrev Ysx (x0:Int) (r:Int):Y:=(106,[il x0],il r,[.undef])
theorem Zeb {x0:Int} {r:Int} (h:Za4 x0=some r):Zv Tryz.prog Mo (Ysx x0 r):=
 Zt Tryz.func106 (bnK h λr0 Zo h=>itK h (λg1 h=>rtK h (rr (Z3 Zo) (gg g1 ee))) λg1 h=>bnK h λa0 Z0 h=>rtK h (rr (Z3 Zo) (gg g1 (xd Zd Z0 ee))))
abbrev Yuo (x0:Int) (r:Int):Y:=(180,[il x0],il r,[.undef])
theorem Jk {x0:Int} {r:Int} (h:Jn x0=some r):Zv Tryz.prog Mo (Yuo x0 r):=
 Zt Tryz.func180 (bnK h λr0 Zo h=>itK h (λg1 h=>rtK h (rr (Z3 Zo) (gg g1 ee))) λg1 h=>bnK h λn0 hn0 h=>rtK h (rr (Z3 Zo) (gg g1 (tp (.obl) (ob (nn0 hn0) ee)))))
abbrev Ytg (x0:Int) (x1:Int) (r:Bool):Y:=(196,[il x0,il x1],bl r,[.undef,.undef])
theorem Zo9 {x0:Int} {x1:Int} {r:Bool} (h:Za3 x0 x1=some r):Zv Tryz.prog Mo (Ytg x0 x1 r):=
 Zt Tryz.func196 (bnK h λr0 Zo h=>itK h (λg1 h=>itK h (λg2 h=>bnK h λr1 Zw h=>bnK h λn0 hn0 h=>rtK h (rr (Jk Zo) (gg g1 (kk 2 (gg g2 (kk 2 (rr (Jk Zw) (kk 1 (tp (.obl) (kk 2 (ob (nz0 hn0) ee))))))))))) λg2 h=>rtK h (rr (Jk Zo) (gg g1 (kk 2 (gg g2 (kk 5 ee)))))) λg1 h=>rtK h (rr (Jk Zo) (gg g1 (kk 8 ee))))
abbrev Zza (x0:Int) (x1:Int) (x2:Int) (r:Int):Y:=(236,[il x0,il x1,il x2],il r,[.undef,.undef,.undef])
theorem Z0c {x0:Int} {x1:Int} {x2:Int} {r:Int} {v0:Int} {v1:Bool} (h:Zjk x0 x1 x2 v0 v1=some r):CS (Zza x0 x1 x2 r) Tryz.f236 [1,1,1,0,1] [(0,il x0),(7,il v0),(34,bl v1)] []:=
 itK h (λg1 h=>rtK h (gg g1 ee)) λg1 h=>rtK h (gg g1 ee)
theorem Zqn {x0:Int} {x1:Int} {x2:Int} {r:Int} {v0:Int} {v2:Bool} (h:Zev x0 x1 x2 v0 v2=some r):CS (Zza x0 x1 x2 r) Tryz.f236 [1,1,0,1] [(0,il x0),(2,il x2),(7,il v0),(23,bl v2)] []:=
 itK h (λg1 h=>rtK h (gg g1 ee)) λg1 h=>itK h (λg2 h=>bnK h λn0 hn0 h=>Zk [] 5 (gg g1 (gg g2 (kk 5 (tp (.obl) (kk 2 (ob (nz0 hn0) ee)))))) (Z0c h)) λg2 h=>Zk [] 5 (gg g1 (gg g2 (kk 7 ee))) (Z0c h)
theorem Z8v {x0:Int} {x1:Int} {x2:Int} {r:Int} (h:Zmt x0 x1 x2=some r):Zv Tryz.prog Mo (Zza x0 x1 x2 r):=
 Zt Tryz.func236 (bnK h λr0 Zo h=>bnK h λr1 Zw h=>have p1 {q p} (k:Scr q p):=(rr (Jk Zo) (rr (Zo9 Zw) k));itK h (λg1 h=>Zk [] 7 (p1 (gg g1 (kk 7 ee))) (Zqn h)) λg1 h=>bnK h λr2 Z6 h=>itK h (λg2 h=>Zk [] 7 (p1 (gg g1 (kk 1 (rr (Z3 Z6) (kk 2 (gg g2 (kk 3 ee))))))) (Zqn h)) λg2 h=>bnK h λr3 Yu h=>Zk [] 7 (p1 (gg g1 (kk 1 (rr (Z3 Z6) (kk 2 (gg g2 (kk 1 (rr (Zeb Yu) (kk 2 ee))))))))) (Zqn h))
abbrev Znu (x0:Int) (x1:Int) (x2:Int) (r:List Int):Y:=(179,[il x0,il x1,il x2],.own 3 (r.map Zd),[.undef,.undef,.undef])
theorem Zv9 {x0:Int} {x1:Int} {x2:Int} {r:List Int} {k_L1:Int->(List Int)->Option (List Int)} (i_L1:∀{v0:Int} {v1:List Int},k_L1 v0 v1=some r->CS (Znu x0 x1 x2 r) Tryz.f179 [1,1,0,0] [(0,il v0),(1,il x1),(2,il x2),(7,.sl (1,1) 0 (v1.map Zd).length)] [rx 1 3 (v1.map Zd)]) {v0:Int} {v1:List Int} {v2:Bool} (h:Zc7 x0 x1 x2 k_L1 v0 v1 v2=some r):CS (Znu x0 x1 x2 r) Tryz.f179 [1,1,0,0,0,0,1] [(0,il v0),(1,il x1),(2,il x2),(7,.sl (1,1) 0 (v1.map Zd).length),(20,bl v2)] [rx 1 3 (v1.map Zd)]:=
 itK h (λg1 h=>bnK h λz0 We h=>bnK h λr0 Zo h=>Zk [((1,1),(2,3072))] 7 (gg g1 (ta Zd [v0] z0 (kk 1 (oa 1 Zak v0 (ox Zd We (oe Zd z0 (rr (Z8v Zo) (ln Zd z0 ee)))))))) (i_L1 h)) λg1 h=>bnK h λr1 Zw h=>itK h (λg2 h=>rtK h (gg g1 (lr Zd v1 (rr (Zeb Zw) (gg g2 (kk 1 (ob (show 0=([].map Zd).length from rfl) ee))))))) λg2 h=>rtK h (gg g1 (lr Zd v1 (rr (Zeb Zw) (gg g2 (kk 1 (oe Zd v1 ee))))))
theorem Z8j {x0:Int} {x1:Int} {x2:Int} {r:List Int}:∀{m:Nat} {v0:Int} {v1:List Int},Zf5 x0 x1 x2 m v0 v1=some r->CS (Znu x0 x1 x2 r) Tryz.f179 [1,1,0,0] [(0,il v0),(1,il x1),(2,il x2),(7,.sl (1,1) 0 (v1.map Zd).length)] [rx 1 3 (v1.map Zd)]:=by
 intro m
 induction m with
 | zero=>intro v0 v1 h;cases h
 | succ m ih=>exactλ{v0} {v1} h=>bnK h λr2 Z6 h=>itK h (λg1 h=>bnK h λr3 Yu h=>Zk [((1,1),(1,1))] 4 (lr Zd v1 (rr (Zeb Z6) (gg g1 (kk 3 (rr (Z8v Yu) (kk 2 (ln Zd v1 ee))))))) (Zv9 ih h)) λg1 h=>Zk [((1,1),(1,1))] 4 (lr Zd v1 (rr (Zeb Z6) (gg g1 (kk 5 (ln Zd v1 ee))))) (Zv9 ih h)
theorem Z33 {x0:Int} {x1:Int} {x2:Int} {r:List Int} (h:Zh2 x0 x1 x2=some r):Zv Tryz.prog Mo (Znu x0 x1 x2 r):=
 Zt Tryz.func179 (Zk [((1,1),(2,0))] 6 (tp (.num ([].map Zd).length 0 0 []) (ob (show 0=([].map Zd).length from rfl) ee)) (Z8j h))
abbrev Ybi (x0:Int) (x1:Int) (x2:Int) (r:Bool):Y:=(104,[il x0,il x1,il x2],bl r,[.undef,.undef,.undef])
theorem Yhz {x0:Int} {x1:Int} {x2:Int} {r:Bool}:∀{m:Nat} {v0:List Int} {v1:Int},Zlr x0 x1 x2 m v0 v1=some r->CS (Ybi x0 x1 x2 r) Tryz.f104 [1,1,0,1,0] [(7,.sl (1,1) 0 (v0.map Zd).length),(8,il v1)] [rx 1 3 (v0.map Zd)]:=by
 intro m
 induction m with
 | zero=>intro v0 v1 h;cases h
 | succ m ih=>exactλ{v0} {v1} h=>itK h (λg1 h=>bnK h λa0 Z0 h=>bnK h λa1 Y3 h=>itK h (λg2 h=>rtK h (lr Zd v0 (gg g1 (xd Zd Z0 (kk 1 (xd Zd Y3 (kk 1 (gg g2 ee)))))))) λg2 h=>Zk [((1,1),(1,1))] 14 (lr Zd v0 (gg g1 (xd Zd Z0 (kk 1 (xd Zd Y3 (kk 1 (gg g2 (ln Zd v0 ee)))))))) (ih h)) λg1 h=>rtK h (lr Zd v0 (gg g1 (lr Zd v0 ee)))
theorem Yci {x0:Int} {x1:Int} {x2:Int} {r:Bool} (h:Zvm x0 x1 x2=some r):Zv Tryz.prog Mo (Ybi x0 x1 x2 r):=
 Zt Tryz.func104 (bnK h λr0 Zo h=>Zk [((1,1),(2,3072))] 8 (rr (Z33 Zo) (ln Zd r0 ee)) (Yhz h))
abbrev Ytw (x0:Int) (r:Int):Y:=(105,[il x0],il r,[.undef])
theorem Zcu {x0:Int} {r:Int} (h:Ql x0=some r):Zv Tryz.prog Mo (Ytw x0 r):=
 Zt Tryz.func105 (bnK h λr0 Zo h=>itK h (λg1 h=>rtK h (rr (Jk Zo) (gg g1 ee))) λg1 h=>bnK h λr1 Zw h=>bnK h λn0 hn0 h=>rtK h (rr (Jk Zo) (gg g1 (rr (Jk Zw) (tp (.obl) (ob (nn0 hn0) ee))))))
abbrev Yki (x0:Zi) (r:Bool):Y:=(45,[.agg (Zi.enc x0)],bl r,[.undef])
theorem Ymn {x0:Zi} {r:Bool}:∀{m:Nat} {v0:Int},Zp6 x0 m v0=some r->CS (Yki x0 r) Tryz.f45 [1,1,0,1,0] [(1,.ptr (1,1) 0 0),(3,il v0)] [bx 1 (Zi.enc x0)]:=by
 intro m
 induction m with
 | zero=>intro v0 h;cases h
 | succ m ih=>exactλ{v0} h=>have p1 {q p} (k:Scr q p):=(lr Zd x0.data_ k);itK h (λg1 h=>bnK h λa0 Z0 h=>bnK h λr0 Zo h=>bnK h λr1 Zw h=>have p2 {q p} (k:Scr q p):=(p1 (gg g1 (xb Zd Z0 (rr (Zcu Zo) (rr (Z3 Zw) k)))));itK h (λg2 h=>rtK h (p2 (gg g2 ee))) λg2 h=>Zk [((1,1),(1,1))] 14 (p2 (gg g2 ee)) (ih h)) λg1 h=>have p3 {q p} (k:Scr q p):=(p1 (gg g1 (lr Zd x0.data_ k)));itK h (λg2 h=>itK h (λg3 h=>rtK h (p3 (gg g2 (kk 3 (gg g3 (kk 9 ee)))))) λg3 h=>bnK h λr2 Z6 h=>have p4 {q p} (k:Scr q p):=(p3 (gg g2 (kk 3 (gg g3 (kk 2 (lr Zd x0.data_ (kk 3 (rr (Zeb Z6) (kk 2 k)))))))));itK h (λg4 h=>rtK h (p4 (gg g4 (kk 4 ee)))) λg4 h=>rtK h (p4 (gg g4 (kk 4 ee)))) λg2 h=>bnK h λr2 Z6 h=>have p5 {q p} (k:Scr q p):=(p3 (gg g2 (kk 6 (lr Zd x0.data_ (kk 3 (rr (Zeb Z6) (kk 2 k)))))));itK h (λg3 h=>rtK h (p5 (gg g3 (kk 4 ee)))) λg3 h=>rtK h (p5 (gg g3 (kk 4 ee)))
theorem Z13 {x0:Zi} {r:Bool} (h:Zra x0=some r):Zv Tryz.prog Mo (Yki x0 r):=
 Zt Tryz.func45 (bnK h λr3 Yu h=>itK h (λg1 h=>rtK h (rr (Yci Yu) (gg g1 ee))) λg1 h=>Zk [((1,1),(1,0))] 11 (rr (Yci Yu) (gg g1 ee)) (Ymn h))
abbrev Yxw (x0:Zh) (r:Zh):Y:=(107,[.agg (Zh.enc x0)],.agg [.own 150 (r.masters.map Zc.enc),il r.quantum,il r.maxWait,il r.maxRetry,il r.maxSplit,il r.lockMost],[.undef])
theorem Yhm {x0:Zh} {r:Zh} (h:Zs5 x0=some r):Zv Tryz.prog Mo (Yxw x0 r):=
 Zt Tryz.func107 (bnK h λz0 We h=>rtK h (ta Zc.enc x0.masters z0 (kk 1 (ol 4 Zc.enc_len Zc.enc_lit x0.masters (ob (apl Zc.enc We) (ob (apm Zc.enc We) (oe Zc.enc z0 (oe Zc.enc z0 ee))))))))
abbrev Ywi  (r:Zn):Y:=(181,[],.agg (Zn.ow r),[])
theorem Yx6  {r:Zn} (h:Z42  = some r):Zv Tryz.prog Mo (Ywi  r):=
 Zt Tryz.func181 (bnK h λm0 hm0 h=>rtK h (tp (.mk (4:Int).toNat (m0.map Zd)) (kk 1 (ob (mkn hm0) (ob (mkn hm0) (ob (mkl hm0) (ob (mkr Zd hm0) (oe Zd m0 ee))))))))
abbrev Yol  (r:Zj):Y:=(108,[],.agg (Zj.ow r),[])
theorem Yos  {r:Zj} (h:Zsu  = some r):Zv Tryz.prog Mo (Yol  r):=
 Zt Tryz.func108 (bnK h λm0 hm0 h=>bnK h λr0 Zo h=>rtK h (tp (.mk (192:Int).toNat (m0.map Zd)) (ob (mkn hm0) (ob (mkn hm0) (ob (mkl hm0) (ob (mkr Zd hm0) (rr (Yx6 Zo) (kk 3 (oe Zd m0 (Zn.so r0 ee))))))))))
abbrev Ymd (x0:Zc) (r:Zf):Y:=(109,[.agg (Zc.enc x0)],.agg (Zf.enc r),[.undef])
theorem Yl2 {x0:Zc} {r:Zf} (h:Zqb x0=some r):Zv Tryz.prog Mo (Ymd x0 r):=
 Zt Tryz.func109 (itK h (λg1 h=>rtK h (gg g1 ee)) λg1 h=>rtK h (gg g1 ee))
abbrev Yft (x0:Zh) (r:Za×Bool):Y:=(46,[.agg (Zh.enc x0)],.tup [.agg (Za.ow r.1),bl r.2],[.undef])
theorem Yjh {x0:Zh} {r:Za×Bool}:∀{m:Nat} {vb0:Za} {v0:Int},Zoy x0 m vb0 v0=some r->CS (Yft x0 r) Tryz.f46 [1,1,1,0,1,0] [(1,.ptr (1,1) 0 0),(2,.ptr (1,2) 0 0),(4,.ptr (1,11) 0 0),(5,il v0)] ([bx 1 (Zh.enc x0)]++Za.bk Za.z0 3++[bx 2 (Za.rl Za.z0 3)]++Za.bk vb0 12++[bx 11 (Za.rl vb0 12)]):=by
 intro m
 induction m with
 | zero=>intro vb0 v0 h;cases h
 | succ m ih=>exactλ{vb0} {v0} h=>itK h (λg1 h=>bnK h λz0 We h=>bnK h λa0 Z0 h=>bnK h λr0 Zo h=>bnK h λz1 hz1 h=>bnK h λz2 hz2 h=>Zk (ffi 1 12++[((1,13),(3,4096)),((1,14),(4,9216)),((1,15),(5,3072))]++ffi 16 4) 15 (lr Zc.enc x0.masters (gg g1 (ta Zb.enc [Zb.z0] z0 (kk 1 (oa 6 Zb.enc_len Zb.z0 (ox Zb.enc We (oe Zb.enc z0 (xb Zc.enc Z0 (rr (Yl2 Zo) (ta Zf.enc [r0] z1 (kk 1 (ta Zd [0] z2 (kk 1 (oa 2 Zf.enc_len r0 (ox Zf.enc hz1 (oe Zf.enc z1 (oa 1 Zak 0 (ox Zd hz2 (oe Zd z2 (Za.sc Za.z0 (Za.sc {vb0 with m:=z0,buckets:=z1,splits:=z2} ee))))))))))))))))))))) (ih h)) λg1 h=>rtK h (lr Zc.enc x0.masters (gg g1 (kk 8 (Za.so vb0 ee))))
theorem Yx0 {x0:Zh} {r:Za×Bool} (h:Zx4 x0=some r):Zv Tryz.prog Mo (Yft x0 r):=
 Zt Tryz.func46 (bnK h λr1 Zw h=>itK h (λg1 h=>rtK h (rr (Zcv Zw) (gg g1 ee))) λg1 h=>bnK h λr2 Z6 h=>bnK h λr3 Yu h=>Zk [((1,1),(1,0)),((1,2),(1,1024)),((1,11),(3,4096)),((1,12),(3,1024)),((1,16),(3,2048)),((1,17),(3,2049)),((1,18),(3,2051))] 13 (rr (Zcv Zw) (gg g1 (rr (Yhm Z6) (rr (Yos Yu) (ln Zc.enc r2.masters (tp (.num (r3.mem.map Zd).length 0 0 []) (tp (.num (r3.dev.regs.map Zd).length 0 0 []) (tp (.num (r3.dev.fifo.map Zd).length 0 0 []) (Zj.so r3 ee))))))))) (Yjh h))
abbrev Yx1 (x0:Zi) (r:Zi):Y:=(197,[.agg (Zi.enc x0)],.agg [bl r.write,il r.addr,il r.size,il r.burst,bl r.lock,.own 3 (r.data_.map Zd)],[.undef])
theorem Z59 {x0:Zi} {r:Zi} (h:Zi2 x0=some r):Zv Tryz.prog Mo (Yx1 x0 r):=
 Zt Tryz.func197 (bnK h λz0 We h=>rtK h (ta Zd x0.data_ z0 (kk 1 (ol 1 Zak Zqk x0.data_ (ob (apl Zd We) (ob (apm Zd We) (oe Zd z0 (oe Zd z0 ee))))))))
abbrev Yc2 (x0:Zb) (r:Zb):Y:=(143,[.agg (Zb.enc x0)],.agg [.own 104 (r.queue.map Zi.enc),il r.beat,il r.done,il r.tries,bl r.parted,bl r.broken],[.undef])
theorem Yhf {x0:Zb} {r:Zb}:∀{m:Nat} {v0:List Zi} {v1:Int},Zlq x0 m v0 v1=some r->CS (Yc2 x0 r) Tryz.f143 [1,1,0,1,0] [(1,.ptr (1,1) 0 0),(2,.ptr (1,2) 0 0),(3,.sl (1,4) 0 (v0.map Zi.enc).length),(4,il v1)] [bx 1 (Zb.enc x0),rx 3 104 ([].map Zi.enc),bx 2 [.sl (1,3) 0 ([].map Zi.enc).length,il 0,il 0,il 0,bl false,bl false],rx 4 104 (v0.map Zi.enc)]:=by
 intro m
 induction m with
 | zero=>intro v0 v1 h;cases h
 | succ m ih=>exactλ{v0} {v1} h=>itK h (λg1 h=>bnK h λa0 Z0 h=>bnK h λr0 Zo h=>bnK h λz0 We h=>Zk (ffi 1 3++[((1,4),(3,8192))]) 11 (lr Zi.enc x0.queue (gg g1 (xb Zi.enc Z0 (rr (Z59 Zo) (kk 1 (ta Zi.enc [r0] z0 (kk 1 (oe Zd r0.data_ (oa 6 Zi.enc_len r0 (ox Zi.enc We (ln Zi.enc z0 (oe Zi.enc z0 (ln Zi.enc [] ee))))))))))))) (ih h)) λg1 h=>rtK h (lr Zi.enc x0.queue (gg g1 (kk 1 (oe Zi.enc v0 ee))))
theorem Zec {x0:Zb} {r:Zb} (h:Zd6 x0=some r):Zv Tryz.prog Mo (Yc2 x0 r):=
 Zt Tryz.func143 (Zk [((1,1),(1,0)),((1,2),(1,1024)),((1,4),(2,0))] 8 (tp (.num ([].map Zi.enc).length 0 0 []) (ob (show 0=([].map Zi.enc).length from rfl) ee)) (Yhf h))
abbrev Yw4 (x0:Zn) (r:Zn):Y:=(198,[.agg (Zn.enc x0)],.agg (Zn.ow r),[.undef])
theorem Yhh {x0:Zn} {r:Zn} (h:Zro x0=some r):Zv Tryz.prog Mo (Yw4 x0 r):=
 Zt Tryz.func198 (bnK h λz0 We h=>bnK h λz1 hz1 h=>rtK h (ta Zd x0.regs z0 (ta Zd x0.fifo z1 (kk 2 (ol 1 Zak Zqk x0.regs (ob (apl Zd We) (ob (apm Zd We) (oe Zd z0 (ol 1 Zak Zqk x0.fifo (ob (apl Zd hz1) (ob (apm Zd hz1) (oe Zd z1 (oe Zd z0 (oe Zd z1 ee))))))))))))))
abbrev Yyf (x0:Zj) (r:Zj):Y:=(144,[.agg (Zj.enc x0)],.agg (Zj.ow r),[.undef])
theorem Yhs {x0:Zj} {r:Zj} (h:Ztr x0=some r):Zv Tryz.prog Mo (Yyf x0 r):=
 Zt Tryz.func144 (bnK h λz0 We h=>bnK h λr0 Zo h=>rtK h (ta Zd x0.mem z0 (ol 1 Zak Zqk x0.mem (ob (apl Zd We) (ob (apm Zd We) (oe Zd z0 (rr (Yhh Zo) (kk 3 (oe Zd z0 (Zn.so r0 ee))))))))))
abbrev Ycx (x0:Za) (r:Za):Y:=(87,[.agg (Za.enc x0)],.agg (Za.ow r),[.undef])
theorem Ygs {x0:Za} {r:Za}:∀{m:Nat} {vb0:Za} {v0:Int},Zgk x0 m vb0 v0=some r->CS (Ycx x0 r) Tryz.f87 [1,1,1,1,0,1,0] [(1,.ptr (1,1) 0 0),(2,.ptr (1,2) 0 0),(3,.ptr (1,11) 0 0),(4,il v0)] ([bx 1 (Za.enc x0)]++Za.bk Za.z0 3++[bx 2 (Za.rl Za.z0 3),rx 12 150 (vb0.conf.masters.map Zc.enc),rx 13 156 (vb0.m.map Zb.enc),bx 11 [.sl (1,12) 0 (vb0.conf.masters.map Zc.enc).length,il vb0.conf.quantum,il vb0.conf.maxWait,il vb0.conf.maxRetry,il vb0.conf.maxSplit,il vb0.conf.lockMost,il vb0.now,.sl (1,13) 0 (vb0.m.map Zb.enc).length,il vb0.arb.at_,il vb0.arb.credit,.tr (vb0.buckets.map Zf.enc),.tr (vb0.splits.map Zd),il vb0.holder,il vb0.held,il vb0.last,bl vb0.addr.live,il vb0.addr.who,il vb0.addr.beat,bl vb0.addr.first,il vb0.addr.by_,il vb0.addr.left,il vb0.addr.resp,bl vb0.addr.second,bl vb0.data_.live,il vb0.data_.who,il vb0.data_.beat,bl vb0.data_.first,il vb0.data_.by_,il vb0.data_.left,il vb0.data_.resp,bl vb0.data_.second,.tr (vb0.model.mem.map Zd),.tr (vb0.model.dev.regs.map Zd),il vb0.model.dev.timer,.tr (vb0.model.dev.fifo.map Zd),il vb0.picks,.tr (vb0.log.map Zr.enc)]]):=by
 intro m
 induction m with
 | zero=>intro vb0 v0 h;cases h
 | succ m ih=>exactλ{vb0} {v0} h=>itK h (λg1 h=>bnK h λa0 Z0 h=>bnK h λr0 Zo h=>bnK h λz0 We h=>Zk (ffi 1 12++[((1,13),(4,4096))]) 13 (lr Zb.enc x0.m (gg g1 (xb Zb.enc Z0 (rr (Zec Zo) (kk 1 (ta Zb.enc [r0] z0 (kk 1 (oe Zi.enc r0.queue (oa 6 Zb.enc_len r0 (ox Zb.enc We (oe Zb.enc z0 (Za.sc Za.z0 (ln Zc.enc vb0.conf.masters (ln Zb.enc z0 ee)))))))))))))) (ih h)) λg1 h=>bnK h λz1 hz1 h=>bnK h λz2 hz2 h=>bnK h λr1 Zw h=>bnK h λz3 hz3 h=>rtK h (lr Zb.enc x0.m (gg g1 (ta Zf.enc x0.buckets z1 (ta Zd x0.splits z2 (ol 2 Zf.enc_len Zf.enc_lit x0.buckets (ob (apl Zf.enc hz1) (ob (apm Zf.enc hz1) (oe Zf.enc z1 (ol 1 Zak Zqk x0.splits (ob (apl Zd hz2) (ob (apm Zd hz2) (oe Zd z2 (rr (Yhs Zw) (ta Zr.enc x0.log z3 (kk 8 (ol 7 Zr.enc_len Zr.enc_lit x0.log (ob (apl Zr.enc hz3) (ob (apm Zr.enc hz3) (oe Zr.enc z3 (oe Zc.enc vb0.conf.masters (oe Zb.enc vb0.m (oe Zf.enc z1 (oe Zd z2 (Zj.so r1 (oe Zr.enc z3 ee)))))))))))))))))))))))))
theorem Z27 {x0:Za} {r:Za} (h:Zo6 x0=some r):Zv Tryz.prog Mo (Ycx x0 r):=
 Zt Tryz.func87 (bnK h λr2 Z6 h=>Zk [((1,1),(1,0)),((1,2),(1,1024)),((1,11),(2,1024)),((1,12),(3,2048)),((1,13),(4,0))] 12 (rr (Yhm Z6) (ln Zc.enc r2.masters (tp (.num ([].map Zb.enc).length 0 0 []) (ob (show 0=([].map Zb.enc).length from rfl) ee)))) (Ygs h))
abbrev Ygx (x0:Zh) (x1:Int) (r:Int):Y:=(191,[.agg (Zh.enc x0),il x1],il r,[.undef,.undef])
theorem Z4f {x0:Zh} {x1:Int} {r:Int} {v0:Bool} (h:Znw x0 x1 v0=some r):CS (Ygx x0 x1 r) Tryz.f191 [1,0,1] [(1,il x1),(2,.ptr (1,1) 0 0),(16,bl v0)] [bx 1 (Zh.enc x0)]:=
 itK h (λg1 h=>rtK h (gg g1 ee)) λg1 h=>bnK h λa0 Z0 h=>rtK h (gg g1 (xb Zc.enc Z0 ee))
theorem Z6y {x0:Zh} {x1:Int} {r:Int} (h:Zjd x0 x1=some r):Zv Tryz.prog Mo (Ygx x0 x1 r):=
 Zt Tryz.func191 (bnK h λr0 Zo h=>itK h (λg1 h=>Zk [((1,1),(1,0))] 5 (rr (Zcv Zo) (gg g1 (kk 7 ee))) (Z4f h)) λg1 h=>bnK h λr1 Zw h=>Zk [((1,1),(1,0))] 5 (rr (Zcv Zo) (gg g1 (kk 3 (lr Zc.enc x0.masters (kk 2 (rr (Z3 Zw) (kk 2 ee))))))) (Z4f h))
abbrev Y0f (x0:Z5) (x1:Zh) (r:Bool):Y:=(135,[.agg (Z5.enc x0),.agg (Zh.enc x1)],bl r,[.undef,.undef])
theorem Zwe {x0:Z5} {x1:Zh} {r:Bool} (h:Zrb x0 x1=some r):Zv Tryz.prog Mo (Y0f x0 x1 r):=
 Zt Tryz.func135 (bnK h λr0 Zo h=>itK h (λg1 h=>bnK h λr1 Zw h=>have p1 {q p} (k:Scr q p):=(rr (Zcv Zo) (gg g1 (kk 4 (lr Zc.enc x1.masters (kk 2 (rr (Z3 Zw) (kk 1 k)))))));itK h (λg2 h=>bnK h λr2 Z6 h=>bnK h λr3 Yu h=>rtK h (p1 (gg g2 (kk 5 (rr (Z6y Z6) (kk 1 (rr (Z3 Yu) (kk 1 ee)))))))) λg2 h=>rtK h (p1 (gg g2 (kk 7 ee)))) λg1 h=>rtK h (rr (Zcv Zo) (gg g1 (kk 15 ee))))
abbrev Ycc (x0:List Int) (r:Bool):Y:=(192,[.tr (x0.map Zd)],bl r,[.undef])
theorem Ygp {x0:List Int} {r:Bool}:∀{m:Nat} {v0:Int},Zk6 x0 m v0=some r->CS (Ycc x0 r) Tryz.f192 [1,0,1,0] [(0,.tr (x0.map Zd)),(3,il v0)] []:=by
 intro m
 induction m with
 | zero=>intro v0 h;cases h
 | succ m ih=>exactλ{v0} h=>itK h (λg1 h=>bnK h λa0 Z0 h=>bnK h λr0 Zo h=>itK h (λg2 h=>rtK h (lr Zd x0 (gg g1 (xb Zd Z0 (rr (Z3 Zo) (gg g2 ee)))))) λg2 h=>Zk [] 14 (lr Zd x0 (gg g1 (xb Zd Z0 (rr (Z3 Zo) (gg g2 ee))))) (ih h)) λg1 h=>rtK h (lr Zd x0 (gg g1 (lr Zd x0 ee)))
theorem Zux {x0:List Int} {r:Bool} (h:Zph x0=some r):Zv Tryz.prog Mo (Ycc x0 r):=
 Zt Tryz.func192 (Zk [] 6 ee (Ygp h))
abbrev Yct (x0:List Int) (r:Bool):Y:=(242,[.tr (x0.map Zd)],bl r,[.undef])
theorem Yga {x0:List Int} {r:Bool}:∀{m:Nat} {v0:Int},Zk3 x0 m v0=some r->CS (Yct x0 r) Tryz.f242 [1,0,1,0] [(0,.tr (x0.map Zd)),(3,il v0)] []:=by
 intro m
 induction m with
 | zero=>intro v0 h;cases h
 | succ m ih=>exactλ{v0} h=>itK h (λg1 h=>bnK h λa0 Z0 h=>bnK h λr0 Zo h=>bnK h λr1 Zw h=>have p1 {q p} (k:Scr q p):=(lr Zd x0 (gg g1 (xb Zd Z0 (rr (Zcu Zo) (rr (Z3 Zw) k)))));itK h (λg2 h=>rtK h (p1 (gg g2 ee))) λg2 h=>Zk [] 14 (p1 (gg g2 ee)) (ih h)) λg1 h=>rtK h (lr Zd x0 (gg g1 ee))
theorem Ybs {x0:List Int} {r:Bool} (h:Zpq x0=some r):Zv Tryz.prog Mo (Yct x0 r):=
 Zt Tryz.func242 (Zk [] 6 ee (Yga h))
abbrev Yz4 (x0:Zn) (r:Bool):Y:=(193,[.agg (Zn.enc x0)],bl r,[.undef])
theorem Yk8 {x0:Zn} {r:Bool} (h:Zv4 x0=some r):Zv Tryz.prog Mo (Yz4 x0 r):=
 Zt Tryz.func193 (itK h (λg1 h=>bnK h λr0 Zo h=>have p1 {q p} (k:Scr q p):=(lr Zd x0.regs (gg g1 (kk 2 (rr (Ybs Zo) (kk 1 k)))));itK h (λg2 h=>bnK h λr1 Zw h=>bnK h λr2 Z6 h=>have p2 {q p} (k:Scr q p):=(p1 (gg g2 (kk 2 (rr (Zcu Zw) (kk 2 (rr (Z3 Z6) (kk 1 k)))))));itK h (λg3 h=>itK h (λg4 h=>bnK h λr3 Yu h=>rtK h (p2 (gg g3 (kk 2 (lr Zd x0.fifo (kk 2 (gg g4 (kk 2 (rr (Ybs Yu) (kk 1 ee)))))))))) λg4 h=>rtK h (p2 (gg g3 (kk 2 (lr Zd x0.fifo (kk 2 (gg g4 (kk 3 ee)))))))) λg3 h=>rtK h (p2 (gg g3 (kk 8 ee)))) λg2 h=>rtK h (p1 (gg g2 (kk 14 ee)))) λg1 h=>rtK h (lr Zd x0.regs (gg g1 (kk 18 ee))))
abbrev Ysf (x0:Zj) (r:Bool):Y:=(136,[.agg (Zj.enc x0)],bl r,[.undef])
theorem Ybt {x0:Zj} {r:Bool} (h:Zpf x0=some r):Zv Tryz.prog Mo (Ysf x0 r):=
 Zt Tryz.func136 (itK h (λg1 h=>bnK h λr0 Zo h=>itK h (λg2 h=>bnK h λr1 Zw h=>rtK h (lr Zd x0.mem (gg g1 (kk 2 (rr (Zux Zo) (kk 1 (gg g2 (kk 2 (rr (Yk8 Zw) (kk 1 ee)))))))))) λg2 h=>rtK h (lr Zd x0.mem (gg g1 (kk 2 (rr (Zux Zo) (kk 1 (gg g2 (kk 3 ee)))))))) λg1 h=>rtK h (lr Zd x0.mem (gg g1 (kk 7 ee))))
abbrev Ynp (x0:Zb) (r:Int):Y:=(243,[.agg (Zb.enc x0)],il r,[.undef])
theorem Zeu {x0:Zb} {r:Int} (h:Zc3 x0=some r):Zv Tryz.prog Mo (Ynp x0 r):=
 Zt Tryz.func243 (itK h (λg1 h=>rtK h (lr Zi.enc x0.queue (gg g1 ee))) λg1 h=>bnK h λa0 Z0 h=>bnK h λr0 Zo h=>rtK h (lr Zi.enc x0.queue (gg g1 (xb Zi.enc Z0 (rr (Zeb Zo) ee)))))
abbrev Zyy (x0:Zb) (r:Bool):Y:=(194,[.agg (Zb.enc x0)],bl r,[.undef])
theorem Zzd {x0:Zb} {r:Bool} {v0:Bool} (h:Zal x0 v0=some r):CS (Zyy x0 r) Tryz.f194 [1,1,0,1] [(1,.ptr (1,1) 0 0),(26,bl v0)] [bx 1 (Zb.enc x0)]:=
 itK h (λg1 h=>rtK h (gg g1 ee)) λg1 h=>have p1 {q p} (k:Scr q p):=(gg g1 (lr Zi.enc x0.queue k));itK h (λg2 h=>itK h (λg3 h=>itK h (λg4 h=>have p2 {q p} (k:Scr q p):=(p1 (gg g2 (gg g3 (kk 3 (gg g4 (kk 3 k))))));itK h (λg5 h=>itK h (λg6 h=>rtK h (p2 (gg g5 (kk 3 (gg g6 (kk 3 ee)))))) λg6 h=>rtK h (p2 (gg g5 (kk 3 (gg g6 (kk 3 ee)))))) λg5 h=>rtK h (p2 (gg g5 (kk 7 ee)))) λg4 h=>rtK h (p1 (gg g2 (gg g3 (kk 3 (gg g4 (kk 11 ee))))))) λg3 h=>rtK h (p1 (gg g2 (gg g3 (kk 15 ee))))) λg2 h=>bnK h λr0 Zo h=>bnK h λr1 Zw h=>itK h (λg3 h=>bnK h λr2 Z6 h=>bnK h λr3 Yu h=>rtK h (p1 (gg g2 (rr (Zeu Zo) (rr (Z3 Zw) (gg g3 (kk 8 (rr (Zeu Z6) (kk 2 (rr (Z3 Yu) (kk 1 ee))))))))))) λg3 h=>rtK h (p1 (gg g2 (rr (Zeu Zo) (rr (Z3 Zw) (gg g3 (kk 11 ee))))))
theorem Yd5 {x0:Zb} {r:Bool}:∀{m:Nat} {v1:Int},Zi4 x0 m v1=some r->CS (Zyy x0 r) Tryz.f194 [1,0,1,0] [(1,.ptr (1,1) 0 0),(3,il v1)] [bx 1 (Zb.enc x0)]:=by
 intro m
 induction m with
 | zero=>intro v1 h;cases h
 | succ m ih=>exactλ{v1} h=>itK h (λg1 h=>bnK h λa0 Z0 h=>bnK h λr4 Kx h=>have p1 {q p} (k:Scr q p):=(lr Zi.enc x0.queue (gg g1 (xb Zi.enc Z0 (rr (Z13 Kx) k))));itK h (λg2 h=>rtK h (p1 (gg g2 ee))) λg2 h=>Zk [((1,1),(1,1))] 14 (p1 (gg g2 ee)) (ih h)) λg1 h=>itK h (λg2 h=>Zk [((1,1),(1,1))] 12 (lr Zi.enc x0.queue (gg g1 (lr Zi.enc x0.queue (gg g2 (kk 3 ee))))) (Zzd h)) λg2 h=>Zk [((1,1),(1,1))] 12 (lr Zi.enc x0.queue (gg g1 (lr Zi.enc x0.queue (gg g2 (kk 3 ee))))) (Zzd h)
theorem J9 {x0:Zb} {r:Bool} (h:Zbo x0=some r):Zv Tryz.prog Mo (Zyy x0 r):=
 Zt Tryz.func194 (Zk [((1,1),(1,0))] 6 ee (Yd5 h))
abbrev Y0e (x0:Zb) (x1:Zh) (r:Bool):Y:=(137,[.agg (Zb.enc x0),.agg (Zh.enc x1)],bl r,[.undef,.undef])
theorem Y01 {x0:Zb} {x1:Zh} {r:Bool} (h:Z70 x0 x1=some r):Zv Tryz.prog Mo (Y0e x0 x1 r):=
 Zt Tryz.func137 (bnK h λr0 Zo h=>itK h (λg1 h=>bnK h λr1 Zw h=>have p1 {q p} (k:Scr q p):=(rr (Zcv Zo) (gg g1 (kk 1 (rr (J9 Zw) (kk 1 k)))));itK h (λg2 h=>rtK h (p1 (gg g2 (kk 5 ee)))) λg2 h=>rtK h (p1 (gg g2 (kk 5 ee)))) λg1 h=>rtK h (rr (Zcv Zo) (gg g1 (kk 8 ee))))
abbrev Yng (x0:Zf) (x1:Zc) (r:Bool):Y:=(138,[.agg (Zf.enc x0),.agg (Zc.enc x1)],bl r,[.undef,.undef])
theorem Zna {x0:Zf} {x1:Zc} {r:Bool} (h:Zem x0 x1=some r):Zv Tryz.prog Mo (Yng x0 x1 r):=
 Zt Tryz.func138 (itK h (λg1 h=>rtK h (gg g1 ee)) λg1 h=>bnK h λr0 Zo h=>itK h (λg2 h=>bnK h λr1 Zw h=>rtK h (gg g1 (rr (Z3 Zo) (gg g2 (kk 5 (rr (Z3 Zw) (kk 1 ee))))))) λg2 h=>rtK h (gg g1 (rr (Z3 Zo) (gg g2 (kk 6 ee)))))
abbrev Z3c (x0:Za) (x1:Int) (r:Int):Y:=(139,[.agg (Za.enc x0),il x1],il r,[.undef,.undef])
theorem Z2j {x0:Za} {x1:Int} {r:Int} {v0:Int} (h:Zlh x0 x1 v0=some r):CS (Z3c x0 x1 r) Tryz.f139 [1,1,1] [(1,il x1),(2,.ptr (1,1) 0 0),(5,il v0)] [bx 1 (Za.enc x0)]:=
 itK h (λg1 h=>itK h (λg2 h=>rtK h (gg g1 (kk 5 (gg g2 ee)))) λg2 h=>rtK h (gg g1 (kk 5 (gg g2 ee)))) λg1 h=>rtK h (gg g1 (kk 6 ee))
theorem Z1p {x0:Za} {x1:Int} {r:Int} {v1:Bool} (h:Zlp x0 x1 v1=some r):CS (Z3c x0 x1 r) Tryz.f139 [1,1,0,1] [(1,il x1),(2,.ptr (1,1) 0 0),(5,il 0),(15,bl v1)] [bx 1 (Za.enc x0)]:=
 itK h (λg1 h=>Zk [((1,1),(1,1))] 2 (gg g1 ee) (Z2j h)) λg1 h=>Zk [((1,1),(1,1))] 2 (gg g1 ee) (Z2j h)
theorem Ytu {x0:Za} {x1:Int} {r:Int} (h:Zvx x0 x1=some r):Zv Tryz.prog Mo (Z3c x0 x1 r):=
 Zt Tryz.func139 (itK h (λg1 h=>Zk [((1,1),(1,0))] 7 (gg g1 (kk 5 ee)) (Z1p h)) λg1 h=>Zk [((1,1),(1,0))] 7 (gg g1 (kk 5 ee)) (Z1p h))
abbrev Ypu (x0:Int) (r:ByteArray):Y:=(195,[il x0],ss r,[.undef])
theorem Yny {x0:Int} {r:ByteArray} (h:Zto x0=some r):Zv Tryz.prog Mo (Ypu x0 r):=
 Zt Tryz.func195 (bnK h λr0 Zo h=>itK h (λg1 h=>rtK h (rr (Z3 Zo) (gg g1 ee))) λg1 h=>bnK h λa0 Z0 h=>rtK h (rr (Z3 Zo) (gg g1 (xd encS Z0 ee))))
abbrev Z28 (x0:Za) (x1:Zg) (x2:Bool) (r:Bool):Y:=(140,[.agg (Za.enc x0),.agg (Zg.enc x1),bl x2],bl r,[.undef,.undef,.undef])
theorem Wm {x0:Za} {x1:Zg} {x2:Bool} {r:Bool} {vb0:Zb} {v0:Bool} (h:Yg x0 x1 x2 vb0 v0=some r):CS (Z28 x0 x1 x2 r) Tryz.f140 [1,1,1,1,1,0,1] [(3,.ptr (1,1) 0 0),(4,.ptr (1,2) 0 0),(7,.ptr (1,3) 0 0),(101,bl v0)] [bx 1 (Za.enc x0),bx 2 (Zg.enc x1),bx 3 (Zb.enc vb0)]:=
 itK h (λg1 h=>rtK h (gg g1 ee)) λg1 h=>itK h (λg2 h=>bnK h λr0 Zo h=>have p1 {q p} (k:Scr q p):=(gg g1 (gg g2 (kk 6 (rr (Z3 Zo) (kk 1 k)))));itK h (λg3 h=>bnK h λr1 Zw h=>have p2 {q p} (k:Scr q p):=(p1 (gg g3 (kk 2 (rr (Yny Zw) (kk 2 k)))));itK h (λg4 h=>itK h (λg5 h=>rtK h (p2 (gg g4 (kk 3 (gg g5 (kk 7 ee)))))) λg5 h=>itK h (λg6 h=>rtK h (p2 (gg g4 (kk 3 (gg g5 (kk 3 (gg g6 (kk 7 ee)))))))) λg6 h=>rtK h (p2 (gg g4 (kk 3 (gg g5 (kk 3 (gg g6 (kk 7 ee)))))))) λg4 h=>rtK h (p2 (gg g4 (kk 5 ee)))) λg3 h=>rtK h (p1 (gg g3 (kk 10 ee)))) λg2 h=>rtK h (gg g1 (gg g2 (kk 18 ee)))
theorem Ztd {x0:Za} {x1:Zg} {x2:Bool} {r:Bool} {v1:Bool} (h:Q3 x0 x1 x2 v1=some r):CS (Z28 x0 x1 x2 r) Tryz.f140 [1,1,0,1] [(2,bl x2),(3,.ptr (1,1) 0 0),(4,.ptr (1,2) 0 0),(36,bl v1)] [bx 1 (Za.enc x0),bx 2 (Zg.enc x1)]:=
 itK h (λg1 h=>rtK h (gg g1 ee)) λg1 h=>bnK h λa0 Z0 h=>have p1 {q p} (k:Scr q p):=(gg g1 (xb Zb.enc Z0 k));itK h (λg2 h=>itK h (λg3 h=>itK h (λg4 h=>itK h (λg5 h=>rtK h (p1 (gg g2 (gg g3 (kk 3 (gg g4 (kk 3 (gg g5 (kk 3 ee))))))))) λg5 h=>rtK h (p1 (gg g2 (gg g3 (kk 3 (gg g4 (kk 3 (gg g5 (kk 3 ee))))))))) λg4 h=>rtK h (p1 (gg g2 (gg g3 (kk 3 (gg g4 (kk 7 ee))))))) λg3 h=>rtK h (p1 (gg g2 (gg g3 (kk 11 ee))))) λg2 h=>itK h (λg3 h=>have p2 {q p} (k:Scr q p):=(p1 (gg g2 (gg g3 (kk 6 k))));itK h (λg4 h=>Zk [((1,1),(1,1)),((1,2),(1,2)),((1,3),(2,6144))] 12 (p2 (gg g4 (kk 10 ee))) (Wm h)) λg4 h=>itK h (λg5 h=>have p3 {q p} (k:Scr q p):=(p2 (gg g4 (kk 3 (gg g5 (kk 2 k)))));itK h (λg6 h=>Zk [((1,1),(1,1)),((1,2),(1,2)),((1,3),(2,6144))] 12 (p3 (gg g6 (kk 14 ee))) (Wm h)) λg6 h=>itK h (λg7 h=>Zk [((1,1),(1,1)),((1,2),(1,2)),((1,3),(2,6144))] 12 (p3 (gg g6 (kk 9 (gg g7 (kk 4 ee))))) (Wm h)) λg7 h=>itK h (λg8 h=>Zk [((1,1),(1,1)),((1,2),(1,2)),((1,3),(2,6144))] 12 (p3 (gg g6 (kk 9 (gg g7 (kk 2 (gg g8 (kk 5 ee))))))) (Wm h)) λg8 h=>Zk [((1,1),(1,1)),((1,2),(1,2)),((1,3),(2,6144))] 12 (p3 (gg g6 (kk 9 (gg g7 (kk 2 (gg g8 (kk 5 ee))))))) (Wm h)) λg5 h=>itK h (λg6 h=>Zk [((1,1),(1,1)),((1,2),(1,2)),((1,3),(2,6144))] 12 (p2 (gg g4 (kk 3 (gg g5 (kk 9 (gg g6 (kk 5 ee))))))) (Wm h)) λg6 h=>Zk [((1,1),(1,1)),((1,2),(1,2)),((1,3),(2,6144))] 12 (p2 (gg g4 (kk 3 (gg g5 (kk 9 (gg g6 (kk 5 ee))))))) (Wm h)) λg3 h=>have p4 {q p} (k:Scr q p):=(p1 (gg g2 (gg g3 (kk 10 k))));itK h (λg4 h=>itK h (λg5 h=>Zk [((1,1),(1,1)),((1,2),(1,2)),((1,3),(2,6144))] 12 (p4 (gg g4 (kk 2 (gg g5 (kk 14 ee))))) (Wm h)) λg5 h=>itK h (λg6 h=>Zk [((1,1),(1,1)),((1,2),(1,2)),((1,3),(2,6144))] 12 (p4 (gg g4 (kk 2 (gg g5 (kk 9 (gg g6 (kk 4 ee))))))) (Wm h)) λg6 h=>itK h (λg7 h=>Zk [((1,1),(1,1)),((1,2),(1,2)),((1,3),(2,6144))] 12 (p4 (gg g4 (kk 2 (gg g5 (kk 9 (gg g6 (kk 2 (gg g7 (kk 5 ee))))))))) (Wm h)) λg7 h=>Zk [((1,1),(1,1)),((1,2),(1,2)),((1,3),(2,6144))] 12 (p4 (gg g4 (kk 2 (gg g5 (kk 9 (gg g6 (kk 2 (gg g7 (kk 5 ee))))))))) (Wm h)) λg4 h=>itK h (λg5 h=>Zk [((1,1),(1,1)),((1,2),(1,2)),((1,3),(2,6144))] 12 (p4 (gg g4 (kk 9 (gg g5 (kk 5 ee))))) (Wm h)) λg5 h=>Zk [((1,1),(1,1)),((1,2),(1,2)),((1,3),(2,6144))] 12 (p4 (gg g4 (kk 9 (gg g5 (kk 5 ee))))) (Wm h)
theorem Ycu {x0:Za} {x1:Zg} {x2:Bool} {r:Bool} (h:Zcp x0 x1 x2=some r):Zv Tryz.prog Mo (Z28 x0 x1 x2 r):=
 Zt Tryz.func140 (itK h (λg1 h=>rtK h (gg g1 ee)) λg1 h=>bnK h λr2 Z6 h=>have p1 {q p} (k:Scr q p):=(gg g1 (lr Zb.enc x0.m (rr (Z3 Z6) k)));itK h (λg2 h=>Zk [((1,1),(1,0)),((1,2),(1,1024))] 10 (p1 (gg g2 (kk 12 ee))) (Ztd h)) λg2 h=>bnK h λr3 Yu h=>itK h (λg3 h=>Zk [((1,1),(1,0)),((1,2),(1,1024))] 10 (p1 (gg g2 (kk 2 (rr (Z3 Yu) (kk 2 (gg g3 (kk 7 ee))))))) (Ztd h)) λg3 h=>bnK h λa1 Y3 h=>Zk [((1,1),(1,0)),((1,2),(1,1024))] 10 (p1 (gg g2 (kk 2 (rr (Z3 Yu) (kk 2 (gg g3 (kk 4 (xb Zd Y3 (kk 3 ee))))))))) (Ztd h))
abbrev Z2t (x0:Za) (r:Bool):Y:=(141,[.agg (Za.enc x0)],bl r,[.undef])
theorem Z1s {x0:Za} {r:Bool} {v0:Bool} (h:Za8 x0 v0=some r):CS (Z2t x0 r) Tryz.f141 [1,1,1,0,1] [(1,.ptr (1,1) 0 0),(67,bl v0)] [bx 1 (Za.enc x0)]:=
 itK h (λg1 h=>rtK h (gg g1 ee)) λg1 h=>bnK h λa0 Z0 h=>have p1 {q p} (k:Scr q p):=(gg g1 (xb Zb.enc Z0 (lr Zi.enc a0.queue k)));itK h (λg2 h=>bnK h λa1 Y3 h=>have p2 {q p} (k:Scr q p):=(p1 (gg g2 (kk 2 (xb Zi.enc Y3 (kk 3 k)))));itK h (λg3 h=>itK h (λg4 h=>bnK h λa2 Ks h=>rtK h (p2 (gg g3 (kk 3 (gg g4 (kk 4 (xb Zd Ks (kk 3 ee)))))))) λg4 h=>rtK h (p2 (gg g3 (kk 3 (gg g4 (kk 7 ee)))))) λg3 h=>rtK h (p2 (gg g3 (kk 11 ee)))) λg2 h=>rtK h (p1 (gg g2 (kk 17 ee)))
theorem Yfi {x0:Za} {r:Bool}:∀{m:Nat} {v1:Int},Zsg x0 m v1=some r->CS (Z2t x0 r) Tryz.f141 [1,0,1,0] [(1,.ptr (1,1) 0 0),(3,il v1)] [bx 1 (Za.enc x0)]:=by
 intro m
 induction m with
 | zero=>intro v1 h;cases h
 | succ m ih=>exactλ{v1} h=>have p1 {q p} (k:Scr q p):=(lr Zb.enc x0.m k);itK h (λg1 h=>bnK h λa3 ha3 h=>have p2 {q p} (k:Scr q p):=(p1 (gg g1 (xb Zb.enc ha3 k)));itK h (λg2 h=>bnK h λa4 ha4 h=>have p3 {q p} (k:Scr q p):=(p2 (gg g2 (kk 3 (xb Zb.enc ha3 (kk 3 (xb Zi.enc ha4 (kk 3 k)))))));itK h (λg3 h=>have p4 {q p} (k:Scr q p):=(p3 (gg g3 (kk 3 (xb Zb.enc ha3 (kk 4 k)))));itK h (λg4 h=>itK h (λg5 h=>rtK h (p4 (gg g4 (kk 4 (gg g5 ee))))) λg5 h=>Zk [((1,1),(1,1))] 14 (p4 (gg g4 (kk 4 (gg g5 ee)))) (ih h)) λg4 h=>Zk [((1,1),(1,1))] 14 (p4 (gg g4 (kk 5 ee))) (ih h)) λg3 h=>Zk [((1,1),(1,1))] 14 (p3 (gg g3 (kk 13 ee))) (ih h)) λg2 h=>Zk [((1,1),(1,1))] 14 (p2 (gg g2 (kk 23 ee))) (ih h)) λg1 h=>itK h (λg2 h=>rtK h (p1 (gg g1 (gg g2 ee)))) λg2 h=>bnK h λr0 Zo h=>itK h (λg3 h=>Zk [((1,1),(1,1))] 17 (p1 (gg g1 (gg g2 (lr Zb.enc x0.m (rr (Z3 Zo) (gg g3 (kk 7 ee))))))) (Z1s h)) λg3 h=>bnK h λr1 Zw h=>Zk [((1,1),(1,1))] 17 (p1 (gg g1 (gg g2 (lr Zb.enc x0.m (rr (Z3 Zo) (gg g3 (kk 5 (rr (Z3 Zw) (kk 2 ee))))))))) (Z1s h)
theorem Yb3 {x0:Za} {r:Bool} (h:Zpa x0=some r):Zv Tryz.prog Mo (Z2t x0 r):=
 Zt Tryz.func141 (Zk [((1,1),(1,0))] 6 ee (Yfi h))
abbrev Yhv (x0:Za) (r:Bool):Y:=(142,[.agg (Za.enc x0)],bl r,[.undef])
theorem Yjb {x0:Za} {r:Bool}:∀{m:Nat} {v0:Int},Zok x0 m v0=some r->CS (Yhv x0 r) Tryz.f142 [1,0,1,0] [(1,.ptr (1,1) 0 0),(3,il v0)] [bx 1 (Za.enc x0)]:=by
 intro m
 induction m with
 | zero=>intro v0 h;cases h
 | succ m ih=>exactλ{v0} h=>have p1 {q p} (k:Scr q p):=(lr Zr.enc x0.log k);itK h (λg1 h=>bnK h λa0 Z0 h=>bnK h λr0 Zo h=>have p2 {q p} (k:Scr q p):=(p1 (gg g1 (xb Zr.enc Z0 (rr (Z3 Zo) k))));itK h (λg2 h=>rtK h (p2 (gg g2 (kk 40 ee)))) λg2 h=>have p3 {q p} (k:Scr q p):=(p2 (gg g2 (kk 2 k)));itK h (λg3 h=>bnK h λa1 Y3 h=>have p4 {q p} (k:Scr q p):=(p3 (gg g3 (kk 6 (xb Zr.enc Y3 (kk 6 k)))));itK h (λg4 h=>rtK h (p4 (gg g4 (kk 35 ee)))) λg4 h=>bnK h λr1 Zw h=>have p5 {q p} (k:Scr q p):=(p4 (gg g4 (kk 4 (lr Zb.enc x0.m (kk 2 (rr (Z3 Zw) (kk 2 k)))))));itK h (λg5 h=>rtK h (p5 (gg g5 (kk 26 ee)))) λg5 h=>bnK h λr2 Z6 h=>have p6 {q p} (k:Scr q p):=(p5 (gg g5 (kk 4 (rr (Zo9 Z6) (kk 2 k)))));itK h (λg6 h=>rtK h (p6 (gg g6 (kk 19 ee)))) λg6 h=>bnK h λr3 Yu h=>have p7 {q p} (k:Scr q p):=(p6 (gg g6 (kk 2 (rr (Z3 Yu) (kk 2 k)))));itK h (λg7 h=>rtK h (p7 (gg g7 (kk 14 ee)))) λg7 h=>bnK h λr4 Kx h=>bnK h λr5 hr5 h=>have p8 {q p} (k:Scr q p):=(p7 (gg g7 (kk 4 (rr (Zcu Kx) (kk 2 (rr (Z3 hr5) (kk 2 k)))))));itK h (λg8 h=>rtK h (p8 (gg g8 (kk 5 ee)))) λg8 h=>bnK h λr6 hr6 h=>itK h (λg9 h=>rtK h (p8 (gg g8 (kk 2 (rr (Z3 hr6) (kk 2 (gg g9 ee))))))) λg9 h=>Zk [((1,1),(1,1))] 16 (p8 (gg g8 (kk 2 (rr (Z3 hr6) (kk 2 (gg g9 ee)))))) (ih h)) λg3 h=>bnK h λr1 Zw h=>have p9 {q p} (k:Scr q p):=(p3 (gg g3 (kk 17 (lr Zb.enc x0.m (kk 2 (rr (Z3 Zw) (kk 2 k)))))));itK h (λg4 h=>rtK h (p9 (gg g4 (kk 26 ee)))) λg4 h=>bnK h λr2 Z6 h=>have p10 {q p} (k:Scr q p):=(p9 (gg g4 (kk 4 (rr (Zo9 Z6) (kk 2 k)))));itK h (λg5 h=>rtK h (p10 (gg g5 (kk 19 ee)))) λg5 h=>bnK h λr3 Yu h=>have p11 {q p} (k:Scr q p):=(p10 (gg g5 (kk 2 (rr (Z3 Yu) (kk 2 k)))));itK h (λg6 h=>rtK h (p11 (gg g6 (kk 14 ee)))) λg6 h=>bnK h λr4 Kx h=>bnK h λr5 hr5 h=>have p12 {q p} (k:Scr q p):=(p11 (gg g6 (kk 4 (rr (Zcu Kx) (kk 2 (rr (Z3 hr5) (kk 2 k)))))));itK h (λg7 h=>rtK h (p12 (gg g7 (kk 5 ee)))) λg7 h=>bnK h λr6 hr6 h=>itK h (λg8 h=>rtK h (p12 (gg g7 (kk 2 (rr (Z3 hr6) (kk 2 (gg g8 ee))))))) λg8 h=>Zk [((1,1),(1,1))] 16 (p12 (gg g7 (kk 2 (rr (Z3 hr6) (kk 2 (gg g8 ee)))))) (ih h)) λg1 h=>rtK h (p1 (gg g1 ee))
theorem Yys {x0:Za} {r:Bool} (h:Zs0 x0=some r):Zv Tryz.prog Mo (Yhv x0 r):=
 Zt Tryz.func142 (Zk [((1,1),(1,0))] 6 ee (Yjb h))
abbrev Z71 (x0:Za) (r:Bool):Y:=(86,[.agg (Za.enc x0)],bl r,[.undef])
theorem Ymf {x0:Za} {r:Bool}:∀{m:Nat} {v0:Int},Zp7 x0 m v0=some r->CS (Z71 x0 r) Tryz.f86 [1,1,1,0,1,0] [(1,.ptr (1,1) 0 0),(3,il (x0.conf.masters.length:Int)),(4,il v0)] [bx 1 (Za.enc x0)]:=by
 intro m
 induction m with
 | zero=>intro v0 h;cases h
 | succ m ih=>exactλ{v0} h=>itK h (λg1 h=>bnK h λa0 Z0 h=>bnK h λr0 Zo h=>have p1 {q p} (k:Scr q p):=(gg g1 (xb Zb.enc Z0 (rr (Y01 Zo) k)));itK h (λg2 h=>rtK h (p1 (gg g2 (kk 43 ee)))) λg2 h=>bnK h λa1 Y3 h=>bnK h λa2 Ks h=>bnK h λr1 Zw h=>have p2 {q p} (k:Scr q p):=(p1 (gg g2 (kk 3 (xb Zf.enc Y3 (kk 6 (xb Zc.enc Ks (kk 2 (rr (Zna Zw) (kk 2 k)))))))));itK h (λg3 h=>rtK h (p2 (gg g3 (kk 29 ee)))) λg3 h=>bnK h λa3 ha3 h=>bnK h λr2 Z6 h=>have p3 {q p} (k:Scr q p):=(p2 (gg g3 (kk 3 (xb Zd ha3 (kk 5 (rr (Z3 Z6) (kk 2 k)))))));itK h (λg4 h=>rtK h (p3 (gg g4 (kk 18 ee)))) λg4 h=>bnK h λr3 Yu h=>have p4 {q p} (k:Scr q p):=(p3 (gg g4 (kk 3 (xb Zb.enc Z0 (kk 6 (xb Zb.enc Z0 (kk 6 (rr (Ytu Yu) (kk 2 k)))))))));itK h (λg5 h=>rtK h (p4 (gg g5 ee))) λg5 h=>Zk [((1,1),(1,1))] 14 (p4 (gg g5 ee)) (ih h)) λg1 h=>bnK h λr4 Kx h=>have p5 {q p} (k:Scr q p):=(gg g1 (rr (Ycu Kx) k));itK h (λg2 h=>bnK h λr5 hr5 h=>have p6 {q p} (k:Scr q p):=(p5 (gg g2 (kk 3 (rr (Ycu hr5) (kk 1 k)))));itK h (λg3 h=>bnK h λr6 hr6 h=>itK h (λg4 h=>bnK h λr7 hr7 h=>rtK h (p6 (gg g3 (kk 1 (rr (Yb3 hr6) (kk 1 (gg g4 (kk 1 (rr (Yys hr7) (kk 1 ee)))))))))) λg4 h=>rtK h (p6 (gg g3 (kk 1 (rr (Yb3 hr6) (kk 1 (gg g4 (kk 2 ee)))))))) λg3 h=>rtK h (p6 (gg g3 (kk 5 ee)))) λg2 h=>rtK h (p5 (gg g2 (kk 10 ee)))
theorem Jl {x0:Za} {r:Bool} {v1:Bool} (h:Wz x0 v1=some r):CS (Z71 x0 r) Tryz.f86 [1,1,0,1] [(1,.ptr (1,1) 0 0),(3,il (x0.conf.masters.length:Int)),(73,bl v1)] [bx 1 (Za.enc x0)]:=
 itK h (λg1 h=>rtK h (gg g1 ee)) λg1 h=>Zk [((1,1),(1,1))] 6 (gg g1 ee) (Ymf h)
theorem Ykq {x0:Za} {r:Bool} (h:Zng x0=some r):Zv Tryz.prog Mo (Z71 x0 r):=
 Zt Tryz.func86 (bnK h λr8 hr8 h=>have p1 {q p} (k:Scr q p):=(lr Zc.enc x0.conf.masters (rr (Zcv hr8) k));itK h (λg1 h=>Zk [((1,1),(1,0))] 7 (p1 (gg g1 (kk 51 ee))) (Jl h)) λg1 h=>bnK h λr9 hr9 h=>have p2 {q p} (k:Scr q p):=(p1 (gg g1 (kk 2 (rr (Z3 hr9) (kk 2 k)))));itK h (λg2 h=>Zk [((1,1),(1,0))] 7 (p2 (gg g2 (kk 46 ee))) (Jl h)) λg2 h=>have p3 {q p} (k:Scr q p):=(p2 (gg g2 (kk 2 (lr Zb.enc x0.m (kk 3 k)))));itK h (λg3 h=>Zk [((1,1),(1,0))] 7 (p3 (gg g3 (kk 40 ee))) (Jl h)) λg3 h=>have p4 {q p} (k:Scr q p):=(p3 (gg g3 (kk 2 (lr Zf.enc x0.buckets (kk 3 k)))));itK h (λg4 h=>Zk [((1,1),(1,0))] 7 (p4 (gg g4 (kk 34 ee))) (Jl h)) λg4 h=>have p5 {q p} (k:Scr q p):=(p4 (gg g4 (kk 2 (lr Zd x0.splits (kk 3 k)))));itK h (λg5 h=>Zk [((1,1),(1,0))] 7 (p5 (gg g5 (kk 28 ee))) (Jl h)) λg5 h=>bnK h λr10 hr10 h=>have p6 {q p} (k:Scr q p):=(p5 (gg g5 (kk 4 (rr (Zwe hr10) (kk 2 k)))));itK h (λg6 h=>Zk [((1,1),(1,0))] 7 (p6 (gg g6 (kk 21 ee))) (Jl h)) λg6 h=>bnK h λr11 hr11 h=>have p7 {q p} (k:Scr q p):=(p6 (gg g6 (kk 4 (rr (Z3 hr11) (kk 2 k)))));itK h (λg7 h=>Zk [((1,1),(1,0))] 7 (p7 (gg g7 (kk 14 ee))) (Jl h)) λg7 h=>bnK h λr12 hr12 h=>have p8 {q p} (k:Scr q p):=(p7 (gg g7 (kk 2 (rr (Ybt hr12) (kk 2 k)))));itK h (λg8 h=>Zk [((1,1),(1,0))] 7 (p8 (gg g8 (kk 9 ee))) (Jl h)) λg8 h=>itK h (λg9 h=>Zk [((1,1),(1,0))] 7 (p8 (gg g8 (kk 3 (gg g9 (kk 5 ee))))) (Jl h)) λg9 h=>Zk [((1,1),(1,0))] 7 (p8 (gg g8 (kk 3 (gg g9 (kk 5 ee))))) (Jl h))
abbrev Yck (x0:Zb) (x1:Int) (r:Int):Y:=(199,[.agg (Zb.enc x0),il x1],il r,[.undef,.undef])
theorem Z2c {x0:Zb} {x1:Int} {r:Int} {v0:Bool} (h:Zlx x0 x1 v0=some r):CS (Yck x0 x1 r) Tryz.f199 [1,0,1] [(1,il x1),(2,.ptr (1,1) 0 0),(16,bl v0)] [bx 1 (Zb.enc x0)]:=
 itK h (λg1 h=>rtK h (gg g1 ee)) λg1 h=>bnK h λa0 Z0 h=>bnK h λr0 Zo h=>bnK h λa1 Y3 h=>rtK h (gg g1 (xb Zi.enc Z0 (rr (Z33 Zo) (xd Zd Y3 ee))))
theorem Zpr {x0:Zb} {x1:Int} {r:Int} (h:Zg1 x0 x1=some r):Zv Tryz.prog Mo (Yck x0 x1 r):=
 Zt Tryz.func199 (bnK h λr1 Zw h=>itK h (λg1 h=>Zk [((1,1),(1,0))] 5 (rr (J9 Zw) (gg g1 (kk 6 ee))) (Z2c h)) λg1 h=>bnK h λr2 Z6 h=>bnK h λr3 Yu h=>Zk [((1,1),(1,0))] 5 (rr (J9 Zw) (gg g1 (kk 2 (rr (Zeu Z6) (kk 2 (rr (Z3 Yu) (kk 2 ee))))))) (Z2c h))
abbrev Ycs (x0:Za) (r:Zm):Y:=(145,[.agg (Za.enc x0)],.agg (Zm.enc r),[.undef])
theorem Zrh {x0:Za} {r:Zm} {vb0:Zm} (h:Zfu x0 vb0=some r):CS (Ycs x0 r) Tryz.f145 [1,1,1] [(1,.ptr (1,1) 0 0),(2,.ptr (1,2) 0 0),(3,.ptr (1,3) 0 0)] [bx 1 (Za.enc x0),bx 2 (Zm.enc Zm.z0),bx 3 (Zm.enc vb0)]:=
 itK h (λg1 h=>bnK h λa0 Z0 h=>bnK h λr0 Zo h=>rtK h (gg g1 (xb Zb.enc Z0 (rr (Zpr Zo) ee)))) λg1 h=>rtK h (gg g1 ee)
theorem Yr9 {x0:Za} {r:Zm} (h:Zvp x0=some r):Zv Tryz.prog Mo (Ycs x0 r):=
 Zt Tryz.func145 (itK h (λg1 h=>bnK h λa1 Y3 h=>bnK h λr1 Zw h=>itK h (λg2 h=>Zk [((1,1),(1,0)),((1,2),(1,1024)),((1,3),(2,3072))] 18 (gg g1 (xb Zb.enc Y3 (rr (Zpr Zw) (gg g2 ee)))) (Zrh h)) λg2 h=>Zk [((1,1),(1,0)),((1,2),(1,1024)),((1,3),(2,3072))] 18 (gg g1 (xb Zb.enc Y3 (rr (Zpr Zw) (gg g2 ee)))) (Zrh h)) λg1 h=>Zk [((1,1),(1,0)),((1,2),(1,1024)),((1,3),(2,3072))] 9 (gg g1 ee) (Zrh h))
abbrev Yc0 (x0:Ze) (x1:Int) (r:List Zl):Y:=(146,[.agg (Ze.enc x0),il x1],.own 106 (r.map Zl.enc),[.undef,.undef])
theorem Yf8 {x0:Ze} {x1:Int} {r:List Zl}:∀{m:Nat} {v0:List Zl} {v1:Int},Zlw x0 x1 m v0 v1=some r->CS (Yc0 x0 x1 r) Tryz.f146 [1,1,0,1,0] [(1,il x1),(2,.ptr (1,1) 0 0),(5,.sl (1,2) 0 (v0.map Zl.enc).length),(6,il v1)] [bx 1 (Ze.enc x0),rx 2 106 (v0.map Zl.enc)]:=by
 intro m
 induction m with
 | zero=>intro v0 v1 h;cases h
 | succ m ih=>exactλ{v0} {v1} h=>itK h (λg1 h=>bnK h λa0 Z0 h=>itK h (λg2 h=>bnK h λr0 Zo h=>bnK h λz0 We h=>Zk [((1,1),(1,1)),((1,2),(6,3072))] 18 (lr Zl.enc x0.posts (gg g1 (xb Zl.enc Z0 (gg g2 (xb Zl.enc Z0 (rr (Z59 Zo) (kk 1 (ta Zl.enc [{a0 with req:=r0}] z0 (kk 1 (oe Zd r0.data_ (oa 8 Zl.enc_len {a0 with req:=r0} (ox Zl.enc We (ln Zl.enc z0 (oe Zl.enc z0 ee)))))))))))))) (ih h)) λg2 h=>Zk [((1,1),(1,1)),((1,2),(1,2))] 14 (lr Zl.enc x0.posts (gg g1 (xb Zl.enc Z0 (gg g2 (ln Zl.enc v0 ee))))) (ih h)) λg1 h=>rtK h (lr Zl.enc x0.posts (gg g1 (kk 1 (oe Zl.enc v0 ee))))
theorem Ysa {x0:Ze} {x1:Int} {r:List Zl} (h:Zu8 x0 x1=some r):Zv Tryz.prog Mo (Yc0 x0 x1 r):=
 Zt Tryz.func146 (Zk [((1,1),(1,0)),((1,2),(2,0))] 8 (tp (.num ([].map Zl.enc).length 0 0 []) (ob (show 0=([].map Zl.enc).length from rfl) ee)) (Yf8 h))
abbrev Yb7 (x0:Zb) (x1:Zi) (r:Zb×Bool):Y:=(147,[.agg (Zb.enc x0),.agg (Zi.enc x1)],.tup [.agg [.own 104 (r.1.queue.map Zi.enc),il r.1.beat,il r.1.done,il r.1.tries,bl r.1.parted,bl r.1.broken],bl r.2],[.undef,.undef])
theorem Ztl {x0:Zb} {x1:Zi} {r:Zb×Bool} {vb0:Zb} {v0:Bool} (h:Zgf x0 x1 vb0 v0=some r):CS (Yb7 x0 x1 r) Tryz.f147 [1,1,0,1] [(3,.ptr (1,1) 0 0),(4,.ptr (1,2) 0 0),(6,.ptr (1,4) 0 0),(22,bl v0)] [bx 1 (Zi.enc x1),rx 3 104 ([].map Zi.enc),bx 2 [.sl (1,3) 0 ([].map Zi.enc).length,il 0,il 0,il 0,bl false,bl false],rx 5 104 (vb0.queue.map Zi.enc),bx 4 [.sl (1,5) 0 (vb0.queue.map Zi.enc).length,il vb0.beat,il vb0.done,il vb0.tries,bl vb0.parted,bl vb0.broken]]:=
 itK h (λg1 h=>rtK h (gg g1 (kk 1 (oe Zi.enc vb0.queue ee)))) λg1 h=>bnK h λr0 Zo h=>bnK h λz0 We h=>rtK h (gg g1 (rr (Z59 Zo) (kk 1 (ta Zi.enc [r0] z0 (kk 2 (oe Zd r0.data_ (oa 6 Zi.enc_len r0 (ox Zi.enc We (oe Zi.enc z0 (oe Zi.enc z0 ee))))))))))
theorem Yt8 {x0:Zb} {x1:Zi} {r:Zb×Bool} (h:Zuw x0 x1=some r):Zv Tryz.prog Mo (Yb7 x0 x1 r):=
 Zt Tryz.func147 (bnK h λr1 Zw h=>bnK h λr2 Z6 h=>have p1 {q p} (k:Scr q p):=(rr (Zec Zw) (rr (J9 Z6) k));itK h (λg1 h=>Zk [((1,1),(1,1024)),((1,2),(1,2048)),((1,4),(2,2048)),((1,5),(2,1024))] 7 (p1 (gg g1 (kk 8 (ln Zi.enc r1.queue ee)))) (Ztl h)) λg1 h=>bnK h λr3 Yu h=>itK h (λg2 h=>Zk [((1,1),(1,1024)),((1,2),(1,2048)),((1,4),(2,2048)),((1,5),(2,1024))] 7 (p1 (gg g1 (kk 1 (rr (Z13 Yu) (kk 2 (gg g2 (kk 4 (ln Zi.enc r1.queue ee)))))))) (Ztl h)) λg2 h=>Zk [((1,1),(1,1024)),((1,2),(1,2048)),((1,4),(2,2048)),((1,5),(2,1024))] 7 (p1 (gg g1 (kk 1 (rr (Z13 Yu) (kk 2 (gg g2 (kk 2 (lr Zi.enc x0.queue (kk 2 (ln Zi.enc r1.queue ee)))))))))) (Ztl h))
abbrev Z4e (x0:Zf) (x1:Zc) (r:Zf):Y:=(148,[.agg (Zf.enc x0),.agg (Zc.enc x1)],.agg (Zf.enc r),[.undef,.undef])
theorem Zwd {x0:Zf} {x1:Zc} {r:Zf} {v0:Bool} (h:Zgc x0 x1 v0=some r):CS (Z4e x0 x1 r) Tryz.f148 [1,0,1] [(2,.ptr (1,1) 0 0),(3,.ptr (1,2) 0 0),(4,.ptr (1,3) 0 0),(13,bl v0)] [bx 1 (Zf.enc x0),bx 2 (Zc.enc x1),bx 3 (Zf.enc Zf.z0)]:=
 itK h (λg1 h=>rtK h (gg g1 ee)) λg1 h=>itK h (λg2 h=>rtK h (gg g1 (gg g2 ee))) λg2 h=>rtK h (gg g1 (gg g2 ee))
theorem Yjw {x0:Zf} {x1:Zc} {r:Zf} (h:Zoo x0 x1=some r):Zv Tryz.prog Mo (Z4e x0 x1 r):=
 Zt Tryz.func148 (itK h (λg1 h=>Zk [((1,1),(1,0)),((1,2),(1,1024)),((1,3),(1,2048))] 5 (gg g1 (kk 4 ee)) (Zwd h)) λg1 h=>bnK h λr0 Zo h=>Zk [((1,1),(1,0)),((1,2),(1,1024)),((1,3),(1,2048))] 5 (gg g1 (kk 2 (rr (Zna Zo) (kk 2 ee)))) (Zwd h))
abbrev Yc1 (x0:Zb) (r:Zb×Bool):Y:=(200,[.agg (Zb.enc x0)],.tup [.agg [.own 104 (r.1.queue.map Zi.enc),il r.1.beat,il r.1.done,il r.1.tries,bl r.1.parted,bl r.1.broken],bl r.2],[.undef])
theorem Z05 {x0:Zb} {r:Zb×Bool} {vb0:Zb} {v0:Bool} (h:Zko x0 vb0 v0=some r):CS (Yc1 x0 r) Tryz.f200 [1,1,0,1] [(2,.ptr (1,1) 0 0),(4,.ptr (1,3) 0 0),(16,bl v0)] [rx 2 104 ([].map Zi.enc),bx 1 [.sl (1,2) 0 ([].map Zi.enc).length,il 0,il 0,il 0,bl false,bl false],rx 4 104 (vb0.queue.map Zi.enc),bx 3 [.sl (1,4) 0 (vb0.queue.map Zi.enc).length,il vb0.beat,il vb0.done,il vb0.tries,bl vb0.parted,bl vb0.broken]]:=
 itK h (λg1 h=>rtK h (gg g1 (kk 1 (oe Zi.enc vb0.queue ee)))) λg1 h=>rtK h (gg g1 (kk 1 (oe Zi.enc vb0.queue ee)))
theorem Yt5 {x0:Zb} {r:Zb×Bool} (h:Zvi x0=some r):Zv Tryz.prog Mo (Yc1 x0 r):=
 Zt Tryz.func200 (bnK h λr0 Zo h=>bnK h λr1 Zw h=>itK h (λg1 h=>Zk [((1,1),(1,1024)),((1,3),(2,2048)),((1,4),(2,1024))] 7 (rr (Zec Zo) (rr (J9 Zw) (gg g1 (kk 5 (ln Zi.enc r0.queue ee))))) (Z05 h)) λg1 h=>Zk [((1,1),(1,1024)),((1,3),(2,2048)),((1,4),(2,1024))] 7 (rr (Zec Zo) (rr (J9 Zw) (gg g1 (kk 5 (ln Zi.enc r0.queue ee))))) (Z05 h))
abbrev Z3y (x0:Zf) (x1:Zc) (r:Zf):Y:=(201,[.agg (Zf.enc x0),.agg (Zc.enc x1)],.agg (Zf.enc r),[.undef,.undef])
theorem Zwm {x0:Zf} {x1:Zc} {r:Zf} {v0:Bool} (h:Zfr x0 x1 v0=some r):CS (Z3y x0 x1 r) Tryz.f201 [1,0,1] [(2,.ptr (1,1) 0 0),(3,.ptr (1,2) 0 0),(4,.ptr (1,3) 0 0),(11,bl v0)] [bx 1 (Zf.enc x0),bx 2 (Zc.enc x1),bx 3 (Zf.enc Zf.z0)]:=
 itK h (λg1 h=>rtK h (gg g1 ee)) λg1 h=>rtK h (gg g1 ee)
theorem Yja {x0:Zf} {x1:Zc} {r:Zf} (h:Zos x0 x1=some r):Zv Tryz.prog Mo (Z3y x0 x1 r):=
 Zt Tryz.func201 (itK h (λg1 h=>bnK h λr0 Zo h=>Zk [((1,1),(1,0)),((1,2),(1,1024)),((1,3),(1,2048))] 5 (gg g1 (kk 2 (rr (Zna Zo) (kk 1 ee)))) (Zwm h)) λg1 h=>Zk [((1,1),(1,0)),((1,2),(1,1024)),((1,3),(1,2048))] 5 (gg g1 (kk 3 ee)) (Zwm h))
abbrev Ycg (x0:Z5) (x1:Zh) (x2:Int) (r:Z5):Y:=(202,[.agg (Z5.enc x0),.agg (Zh.enc x1),il x2],.agg (Z5.enc r),[.undef,.undef,.undef])
theorem Z10 {x0:Z5} {x1:Zh} {x2:Int} {r:Z5} {v0:Bool} (h:Zks x0 x1 x2 v0=some r):CS (Ycg x0 x1 x2 r) Tryz.f202 [1,0,1] [(2,il x2),(3,.ptr (1,1) 0 0),(4,.ptr (1,2) 0 0),(6,.ptr (1,3) 0 0),(15,bl v0)] [bx 1 (Z5.enc x0),bx 2 (Zh.enc x1),bx 3 (Z5.enc Z5.z0)]:=
 itK h (λg1 h=>bnK h λr0 Zo h=>rtK h (gg g1 (rr (Z6y Zo) ee))) λg1 h=>rtK h (gg g1 ee)
theorem Ysw {x0:Z5} {x1:Zh} {x2:Int} {r:Z5} (h:Zv1 x0 x1 x2=some r):Zv Tryz.prog Mo (Ycg x0 x1 x2 r):=
 Zt Tryz.func202 (bnK h λr1 Zw h=>itK h (λg1 h=>Zk [((1,1),(1,0)),((1,2),(1,1024)),((1,3),(1,2048))] 5 (rr (Zwe Zw) (gg g1 (kk 4 ee))) (Z10 h)) λg1 h=>Zk [((1,1),(1,0)),((1,2),(1,1024)),((1,3),(1,2048))] 5 (rr (Zwe Zw) (gg g1 (kk 4 ee))) (Z10 h))
abbrev Yse (x0:Za) (x1:Zg) (r:Za):Y:=(149,[.agg (Za.ow x0),.agg (Zg.enc x1)],.agg (Za.ow r),[.undef,.undef])
theorem Z2w {x0:Za} {x1:Zg} {r:Za} (h:Zka x0 x1=some r):Zv Tryz.prog Mo (Yse x0 x1 r):=
 Zt Tryz.func149 (bnK h λa0 Z0 h=>bnK h λr0 Zo h=>bnK h λy0 W6 h=>have p1 {q p} (k:Scr q p):=(xd Zb.enc Z0 (rr (Yt5 Zo) (xq Zb.enc Z0 y0 (kk 1 (oe Zi.enc r0.1.queue (ob (Z0r Zb.enc W6) k))))));itK h (λg1 h=>bnK h λa1 Y3 h=>bnK h λa2 Ks h=>bnK h λr1 Zw h=>bnK h λy1 hy1 h=>rtK h (p1 (gg g1 (xd Zf.enc Y3 (xd Zc.enc Ks (rr (Yja Zw) (xp Zf.enc Y3 hy1 (kk 8 (oe Zc.enc x0.conf.masters (ob (Q9 Zb.enc W6) (ob (Q9 Zf.enc hy1) (oe Zd x0.splits (Zj.so x0.model (oe Zr.enc x0.log ee)))))))))))))) λg1 h=>itK h (λg2 h=>bnK h λr2 Z6 h=>rtK h (p1 (gg g1 (gg g2 (kk 1 (oe Zc.enc x0.conf.masters (rr (Ysw Z6) (kk 8 (oe Zc.enc x0.conf.masters (ob (Q9 Zb.enc W6) (oe Zf.enc x0.buckets (oe Zd x0.splits (Zj.so x0.model (oe Zr.enc x0.log ee)))))))))))))) λg2 h=>rtK h (p1 (gg g1 (gg g2 (kk 8 (oe Zc.enc x0.conf.masters (ob (Q9 Zb.enc W6) (oe Zf.enc x0.buckets (oe Zd x0.splits (Zj.so x0.model (oe Zr.enc x0.log ee)))))))))))
abbrev Yo4 (x0:List Int) (x1:Int) (r:Int):Y:=(244,[.tr (x0.map Zd),il x1],il r,[.undef,.undef])
theorem Z7w {x0:List Int} {x1:Int} {r:Int} {v0:Bool} (h:Zzp x0 x1 v0=some r):CS (Yo4 x0 x1 r) Tryz.f244 [1,0,1] [(0,.tr (x0.map Zd)),(1,il x1),(11,bl v0)] []:=
 itK h (λg1 h=>rtK h (gg g1 ee)) λg1 h=>bnK h λn0 hn0 h=>bnK h λa0 Z0 h=>rtK h (gg g1 (lr Zd x0 (tp (.obl) (ob (nz0 hn0) (xb Zd Z0 ee)))))
theorem Zy5 {x0:List Int} {x1:Int} {r:Int} (h:Zz2 x0 x1=some r):Zv Tryz.prog Mo (Yo4 x0 x1 r):=
 Zt Tryz.func244 (itK h (λg1 h=>Zk [] 5 (lr Zd x0 (gg g1 (kk 2 ee))) (Z7w h)) λg1 h=>Zk [] 5 (lr Zd x0 (gg g1 (kk 2 ee))) (Z7w h))
abbrev Ysj (x0:Zh) (x1:Ze) (x2:Int) (r:Int):Y:=(203,[.agg (Zh.enc x0),.agg (Ze.enc x1),il x2],il r,[.undef,.undef,.undef])
theorem Ytv {x0:Zh} {x1:Ze} {x2:Int} {r:Int} (h:Zv0 x0 x1 x2=some r):Zv Tryz.prog Mo (Ysj x0 x1 x2 r):=
 Zt Tryz.func203 (bnK h λr0 Zo h=>rtK h (rr (Zy5 Zo) ee))
abbrev Yqm (x0:Zi) (x1:Int) (r:Int):Y:=(205,[.agg (Zi.enc x0),il x1],il r,[.undef,.undef])
theorem Z9r {x0:Zi} {x1:Int} {r:Int} (h:Zm6 x0 x1=some r):Zv Tryz.prog Mo (Yqm x0 x1 r):=
 Zt Tryz.func205 (itK h (λg1 h=>rtK h (gg g1 ee)) λg1 h=>bnK h λa0 Z0 h=>rtK h (gg g1 (xb Zd Z0 ee)))
abbrev Yce (x0:Int) (r:Int):Y:=(211,[il x0],il r,[.undef])
theorem Z1c {x0:Int} {r:Int} {v0:Bool} (h:Ztx x0 v0=some r):CS (Yce x0 r) Tryz.f211 [1,0,0,1] [(0,il x0),(3,bl v0)] []:=
 itK h (λg1 h=>rtK h (gg g1 ee)) λg1 h=>itK h (λg2 h=>rtK h (gg g1 (gg g2 ee))) λg2 h=>itK h (λg3 h=>rtK h (gg g1 (gg g2 (gg g3 ee)))) λg3 h=>rtK h (gg g1 (gg g2 (gg g3 ee)))
theorem Z25 {x0:Int} {r:Int} (h:Zvb x0=some r):Zv Tryz.prog Mo (Yce x0 r):=
 Zt Tryz.func211 (itK h (λg1 h=>Zk [] 6 (gg g1 (kk 2 ee)) (Z1c h)) λg1 h=>Zk [] 6 (gg g1 (kk 2 ee)) (Z1c h))
abbrev Ywj (x0:List Int) (x1:Int) (x2:Int) (r:Bool):Y:=(263,[.tr (x0.map Zd),il x1,il x2],bl r,[.undef,.undef,.undef])
theorem Z53 {x0:List Int} {x1:Int} {x2:Int} {r:Bool} (h:Zta x0 x1 x2=some r):Zv Tryz.prog Mo (Ywj x0 x1 x2 r):=
 Zt Tryz.func263 (bnK h λr0 Zo h=>itK h (λg1 h=>bnK h λr1 Zw h=>have p1 {q p} (k:Scr q p):=(rr (Zux Zo) (gg g1 (kk 2 (rr (Zo9 Zw) (kk 1 k)))));itK h (λg2 h=>bnK h λr2 Z6 h=>rtK h (p1 (gg g2 (kk 2 (lr Zd x0 (kk 2 (rr (Jk Z6) (kk 3 ee)))))))) λg2 h=>rtK h (p1 (gg g2 (kk 7 ee)))) λg1 h=>rtK h (rr (Zux Zo) (gg g1 (kk 11 ee))))
abbrev Z6g (x0:List Int) (x1:Int) (x2:Int) (x3:Int) (r:List Int×Bool):Y:=(245,[.tr (x0.map Zd),il x1,il x2,il x3],.tup [.own 3 (r.1.map Zd),bl r.2],[.undef,.undef,.undef,.undef])
theorem Yiz {x0:List Int} {x1:Int} {x2:Int} {x3:Int} {r:List Int×Bool}:∀{m:Nat} {v0:Int} {v1:List Int} {v2:Int},Zoq x0 x1 x2 x3 m v0 v1 v2=some r->CS (Z6g x0 x1 x2 x3 r) Tryz.f245 [1,1,1,0,1,0] [(1,il x1),(2,il x2),(3,il v0),(10,.sl (1,1) 0 (v1.map Zd).length),(11,il v2)] [rx 1 3 (v1.map Zd)]:=by
 intro m
 induction m with
 | zero=>intro v0 v1 v2 h;cases h
 | succ m ih=>exactλ{v0} {v1} {v2} h=>bnK h λr0 Zo h=>itK h (λg1 h=>bnK h λa0 Z0 h=>bnK h λy0 W6 h=>Zk [((1,1),(1,1))] 13 (rr (Jk Zo) (gg g1 (kk 1 (xp Zd Z0 W6 (kk 1 (tp (.num (y0.map Zd).length 0 0 []) (ob (Q9 Zd W6) ee))))))) (ih h)) λg1 h=>rtK h (rr (Jk Zo) (gg g1 (kk 1 (oe Zd v1 ee))))
theorem Z3x {x0:List Int} {x1:Int} {x2:Int} {x3:Int} {r:List Int×Bool} {v1:List Int} {v3:Bool} (h:Znq x0 x1 x2 x3 v1 v3=some r):CS (Z6g x0 x1 x2 x3 r) Tryz.f245 [1,1,0,1] [(1,il x1),(2,il x2),(3,il x3),(10,.sl (1,1) 0 (v1.map Zd).length),(27,bl v3)] [rx 1 3 (v1.map Zd)]:=
 itK h (λg1 h=>rtK h (gg g1 (kk 1 (oe Zd v1 ee)))) λg1 h=>Zk [((1,1),(1,1))] 6 (gg g1 (ln Zd v1 ee)) (Yiz h)
theorem Yv9 {x0:List Int} {x1:Int} {x2:Int} {x3:Int} {r:List Int×Bool} (h:Zx0 x0 x1 x2 x3=some r):Zv Tryz.prog Mo (Z6g x0 x1 x2 x3 r):=
 Zt Tryz.func245 (bnK h λz0 We h=>bnK h λr1 Zw h=>have p1 {q p} (k:Scr q p):=(ta Zd x0 z0 (ol 1 Zak Zqk x0 (ob (apl Zd We) (ob (apm Zd We) (oe Zd z0 (rr (Z53 Zw) k))))));itK h (λg1 h=>Zk [((1,1),(2,2048))] 7 (p1 (gg g1 (kk 6 (ln Zd z0 ee)))) (Z3x h)) λg1 h=>bnK h λr2 Z6 h=>bnK h λr3 Yu h=>Zk [((1,1),(2,2048))] 7 (p1 (gg g1 (kk 2 (rr (Zcu Z6) (kk 2 (rr (Z3 Yu) (kk 2 (ln Zd z0 ee)))))))) (Z3x h))
abbrev Zq0 (x0:Zn) (x1:Bool) (x2:Int) (x3:Int) (r:Zn×Int×Bool):Y:=(247,[.agg (Zn.enc x0),bl x1,il x2,il x3],.tup [.agg (Zn.ow r.1),il r.2.1,bl r.2.2],[.undef,.undef,.undef,.undef])
theorem Zxa {x0:Zn} {x1:Bool} {x2:Int} {x3:Int} {r:Zn×Int×Bool} {vb0:Zn} {v0:Bool} (h:Zj5 x0 x1 x2 x3 vb0 v0=some r):CS (Zq0 x0 x1 x2 x3 r) Tryz.f247 [1,1,1,0,0,1,1,1,1,1,1,1,1,1,1,1] [(8,.ptr (1,1) 0 0),(11,.ptr (1,4) 0 0),(101,bl v0)] (Zn.bk Zn.z0 2++[bx 1 (Zn.rl Zn.z0 2)]++Zn.bk vb0 5++[bx 4 (Zn.rl vb0 5)]):=
 itK h (λg1 h=>bnK h λa0 Z0 h=>bnK h λs0 hs0 h=>rtK h (gg g1 (xd Zd Z0 (tp (.num (1:Int).toNat ((vb0.fifo.length:Int):Int).toNat (((vb0.fifo.length:Int):Int).toNat - (1:Int).toNat) []) (kk 2 (tp (.mk 0 (s0.map Zd)) (oe Zd vb0.fifo (ob (sln hs0).1 (ob (Yi5 Zd vb0.fifo) (ob (sll Zd hs0) (ob (alr 1 Zak vb0.fifo) (ob (Eq.refl (((vb0.fifo.length:Int):Int).toNat - (1:Int).toNat)) (oe Zd vb0.regs (ob (sla Zd hs0) (ob (slr Zd hs0) ee))))))))))))))) λg1 h=>rtK h (gg g1 (kk 2 (Zn.so vb0 ee)))
theorem Zxb {x0:Zn} {x1:Bool} {x2:Int} {x3:Int} {r:Zn×Int×Bool} {vb0:Zn} {v1:Bool} (h:Zjz x0 x1 x2 x3 vb0 v1=some r):CS (Zq0 x0 x1 x2 x3 r) Tryz.f247 [1,1,1,0,0,1,1,1,1,1,1,1,1,1] [(1,bl x1),(2,il x2),(3,il x3),(8,.ptr (1,1) 0 0),(11,.ptr (1,4) 0 0),(81,bl v1)] (Zn.bk Zn.z0 2++[bx 1 (Zn.rl Zn.z0 2)]++Zn.bk vb0 5++[bx 4 (Zn.rl vb0 5)]):=
 itK h (λg1 h=>bnK h λz0 We h=>rtK h (gg g1 (ta Zd [x3] z0 (kk 3 (oa 1 Zak x3 (ox Zd We (oe Zd z0 (oe Zd vb0.regs (oe Zd z0 ee))))))))) λg1 h=>itK h (λg2 h=>itK h (λg3 h=>Zk (ffi 1 6) 3 (gg g1 (gg g2 (kk 2 (gg g3 (kk 2 (lr Zd vb0.fifo (kk 2 (Zn.sc Zn.z0 (Zn.sc vb0 ee))))))))) (Zxa h)) λg3 h=>Zk (ffi 1 6) 3 (gg g1 (gg g2 (kk 2 (gg g3 (kk 4 (Zn.sc Zn.z0 (Zn.sc vb0 ee))))))) (Zxa h)) λg2 h=>Zk (ffi 1 6) 3 (gg g1 (gg g2 (kk 7 (Zn.sc Zn.z0 (Zn.sc vb0 ee))))) (Zxa h)
theorem Z7f {x0:Zn} {x1:Bool} {x2:Int} {x3:Int} {r:Zn×Int×Bool} {vb0:Zn} {v2:Bool} (h:Zp2 x0 x1 x2 x3 vb0 v2=some r):CS (Zq0 x0 x1 x2 x3 r) Tryz.f247 [1,1,1,0,0,1,1,1,1,1] [(1,bl x1),(2,il x2),(3,il x3),(8,.ptr (1,1) 0 0),(11,.ptr (1,4) 0 0),(59,bl v2)] (Zn.bk Zn.z0 2++[bx 1 (Zn.rl Zn.z0 2)]++Zn.bk vb0 5++[bx 4 (Zn.rl vb0 5)]):=
 itK h (λg1 h=>rtK h (gg g1 (kk 2 (Zn.so vb0 ee)))) λg1 h=>itK h (λg2 h=>bnK h λr0 Zo h=>bnK h λn0 hn0 h=>rtK h (gg g1 (gg g2 (rr (Zcu Zo) (tp (.obl) (kk 2 (ob (nz0 hn0) (Zn.so vb0 ee)))))))) λg2 h=>itK h (λg3 h=>itK h (λg4 h=>Zk (ffi 1 6) 6 (gg g1 (gg g2 (gg g3 (kk 1 (gg g4 (kk 2 (lr Zd vb0.fifo (kk 2 (Zn.sc Zn.z0 (Zn.sc vb0 ee)))))))))) (Zxb h)) λg4 h=>Zk (ffi 1 6) 6 (gg g1 (gg g2 (gg g3 (kk 1 (gg g4 (kk 4 (Zn.sc Zn.z0 (Zn.sc vb0 ee)))))))) (Zxb h)) λg3 h=>Zk (ffi 1 6) 6 (gg g1 (gg g2 (gg g3 (kk 6 (Zn.sc Zn.z0 (Zn.sc vb0 ee)))))) (Zxb h)
theorem Z7b {x0:Zn} {x1:Bool} {x2:Int} {x3:Int} {r:Zn×Int×Bool} {vb0:Zn} {v3:Bool} (h:Zp4 x0 x1 x2 x3 vb0 v3=some r):CS (Zq0 x0 x1 x2 x3 r) Tryz.f247 [1,1,1,0,0,1] [(1,bl x1),(2,il x2),(3,il x3),(8,.ptr (1,1) 0 0),(11,.ptr (1,4) 0 0),(35,bl v3)] (Zn.bk Zn.z0 2++[bx 1 (Zn.rl Zn.z0 2)]++Zn.bk vb0 5++[bx 4 (Zn.rl vb0 5)]):=
 itK h (λg1 h=>bnK h λa1 Y3 h=>bnK h λy0 W6 h=>rtK h (gg g1 (kk 1 (xp Zd Y3 W6 (kk 2 (ob (Q9 Zd W6) (oe Zd vb0.fifo ee))))))) λg1 h=>bnK h λr1 Zw h=>itK h (λg2 h=>bnK h λa2 Ks h=>rtK h (gg g1 (rr (Z3 Zw) (gg g2 (kk 1 (xd Zd Ks (kk 2 (Zn.so vb0 ee)))))))) λg2 h=>itK h (λg3 h=>Zk (ffi 1 6) 6 (gg g1 (rr (Z3 Zw) (gg g2 (gg g3 (kk 1 (Zn.sc Zn.z0 (Zn.sc vb0 ee))))))) (Z7f h)) λg3 h=>Zk (ffi 1 6) 6 (gg g1 (rr (Z3 Zw) (gg g2 (gg g3 (kk 1 (Zn.sc Zn.z0 (Zn.sc vb0 ee))))))) (Z7f h)
theorem Zp0 {x0:Zn} {x1:Bool} {x2:Int} {x3:Int} {r:Zn×Int×Bool} {vb0:Zn} {v4:Bool} (h:Zag x0 x1 x2 x3 vb0 v4=some r):CS (Zq0 x0 x1 x2 x3 r) Tryz.f247 [1,1,0,1] [(1,bl x1),(2,il x2),(3,il x3),(8,.ptr (1,1) 0 0),(11,.ptr (1,4) 0 0),(33,bl v4)] (Zn.bk Zn.z0 2++[bx 1 (Zn.rl Zn.z0 2)]++Zn.bk vb0 5++[bx 4 (Zn.rl vb0 5)]):=
 itK h (λg1 h=>rtK h (gg g1 (kk 2 (Zn.so vb0 ee)))) λg1 h=>bnK h λr2 Z6 h=>itK h (λg2 h=>Zk (ffi 1 6) 6 (gg g1 (rr (Z3 Z6) (gg g2 (kk 1 (Zn.sc Zn.z0 (Zn.sc vb0 ee)))))) (Z7b h)) λg2 h=>Zk (ffi 1 6) 6 (gg g1 (rr (Z3 Z6) (gg g2 (kk 1 (Zn.sc Zn.z0 (Zn.sc vb0 ee)))))) (Z7b h)
theorem Ykh {x0:Zn} {x1:Bool} {x2:Int} {x3:Int} {r:Zn×Int×Bool} (h:Z16 x0 x1 x2 x3=some r):Zv Tryz.prog Mo (Zq0 x0 x1 x2 x3 r):=
 Zt Tryz.func247 (bnK h λr3 Yu h=>bnK h λr4 Kx h=>have p1 {q p} (k:Scr q p):=(rr (Yhh Yu) (rr (Yk8 Kx) k));itK h (λg1 h=>Zk ([((1,1),(1,1024)),((1,4),(2,2048))]++Zn.ff 5 2 1024) 7 (p1 (gg g1 (kk 7 (Zn.sc r3 ee)))) (Zp0 h)) λg1 h=>itK h (λg2 h=>Zk ([((1,1),(1,1024)),((1,4),(2,2048))]++Zn.ff 5 2 1024) 7 (p1 (gg g1 (kk 4 (gg g2 (kk 3 (Zn.sc r3 ee)))))) (Zp0 h)) λg2 h=>itK h (λg3 h=>bnK h λr5 hr5 h=>bnK h λr6 hr6 h=>Zk ([((1,1),(1,1024)),((1,4),(2,2048))]++Zn.ff 5 2 1024) 7 (p1 (gg g1 (kk 4 (gg g2 (kk 1 (gg g3 (kk 1 (rr (Zcu hr5) (kk 2 (rr (Z3 hr6) (kk 4 (Zn.sc r3 ee)))))))))))) (Zp0 h)) λg3 h=>Zk ([((1,1),(1,1024)),((1,4),(2,2048))]++Zn.ff 5 2 1024) 7 (p1 (gg g1 (kk 4 (gg g2 (kk 1 (gg g3 (kk 7 (Zn.sc r3 ee)))))))) (Zp0 h))
abbrev Yhe (x0:List Int) (x1:Int) (x2:Int) (r:Int×Bool):Y:=(246,[.tr (x0.map Zd),il x1,il x2],.tup [il r.1,bl r.2],[.undef,.undef,.undef])
theorem Yiu {x0:List Int} {x1:Int} {x2:Int} {r:Int×Bool}:∀{m:Nat} {v0:Int} {v1:Int},Znr x0 x1 x2 m v0 v1=some r->CS (Yhe x0 x1 x2 r) Tryz.f246 [1,1,1,0,1,0] [(0,.tr (x0.map Zd)),(1,il x1),(8,il v0),(9,il v1)] []:=by
 intro m
 induction m with
 | zero=>intro v0 v1 h;cases h
 | succ m ih=>exactλ{v0} {v1} h=>itK h (λg1 h=>bnK h λa0 Z0 h=>Zk [] 11 (gg g1 (xb Zd Z0 ee)) (ih h)) λg1 h=>rtK h (gg g1 ee)
theorem Yxd {x0:List Int} {x1:Int} {x2:Int} {r:Int×Bool} (h:Zxm x0 x1 x2=some r):Zv Tryz.prog Mo (Yhe x0 x1 x2 r):=
 Zt Tryz.func246 (bnK h λr0 Zo h=>itK h (λg1 h=>rtK h (rr (Z53 Zo) (gg g1 ee))) λg1 h=>bnK h λr1 Zw h=>Zk [] 13 (rr (Z53 Zo) (gg g1 (rr (Jk Zw) ee))) (Yiu h))
abbrev Zvr (x0:Zj) (x1:Bool) (x2:Int) (x3:Int) (x4:Int) (r:Zj×Int×Int):Y:=(204,[.agg (Zj.enc x0),bl x1,il x2,il x3,il x4],.tup [.agg (Zj.ow r.1),il r.2.1,il r.2.2],[.undef,.undef,.undef,.undef,.undef])
theorem Z08 {x0:Zj} {x1:Bool} {x2:Int} {x3:Int} {x4:Int} {r:Zj×Int×Int} {vb0:Zj} {vb1:Zn} {v0:Int} {v1:Bool} (h:Zlu x0 x1 x2 x3 x4 vb0 vb1 v0 v1=some r):CS (Zvr x0 x1 x2 x3 x4 r) Tryz.f204 [1,1,1,0,1,0,1,1,1,0,1,1] [(10,.ptr (1,1) 0 0),(13,.ptr (1,5) 0 0),(16,.ptr (1,9) 0 0),(17,il v0),(87,bl v1)] (Zj.bk Zj.z0 2++[bx 1 (Zj.rl Zj.z0 2)]++Zj.bk vb0 6++[bx 5 (Zj.rl vb0 6)]++Zn.bk vb1 10++[bx 9 (Zn.rl vb1 10)]):=
 itK h (λg1 h=>rtK h (gg g1 (kk 3 (oe Zd vb0.mem (Zn.so vb1 ee))))) λg1 h=>rtK h (gg g1 (kk 3 (Zj.so vb0 ee)))
theorem Z1g {x0:Zj} {x1:Bool} {x2:Int} {x3:Int} {x4:Int} {r:Zj×Int×Int} {vb2:Zj} {v2:Int} {v3:Bool} (h:Zla x0 x1 x2 x3 x4 vb2 v2 v3=some r):CS (Zvr x0 x1 x2 x3 x4 r) Tryz.f204 [1,1,1,0,1,0,1] [(1,bl x1),(2,il x2),(3,il x3),(4,il x4),(5,.ptr (1,1) 0 0),(10,.ptr (1,2) 0 0),(13,.ptr (1,6) 0 0),(43,il v2),(44,bl v3)] ([bx 1 (Zj.enc x0)]++Zj.bk Zj.z0 3++[bx 2 (Zj.rl Zj.z0 3)]++Zj.bk vb2 7++[bx 6 (Zj.rl vb2 7)]):=
 itK h (λg1 h=>itK h (λg2 h=>bnK h λr0 Zo h=>rtK h (gg g1 (gg g2 (rr (Yv9 Zo) (kk 3 (oe Zd r0.1 (Zn.so vb2.dev ee))))))) λg2 h=>bnK h λr1 Zw h=>rtK h (gg g1 (gg g2 (rr (Yxd Zw) (kk 3 (Zj.so vb2 ee)))))) λg1 h=>itK h (λg2 h=>bnK h λr2 Z6 h=>itK h (λg3 h=>Zk ([((1,1),(1,2)),((1,2),(1,3)),((1,3),(1,4)),((1,4),(1,5)),((1,5),(1,6)),((1,6),(1,7)),((1,7),(1,8)),((1,8),(1,9)),((1,9),(3,11264))]++Zn.ff 10 3 6144) 8 (gg g1 (gg g2 (rr (Ykh Z6) (gg g3 (kk 1 (Zj.sc Zj.z0 (Zj.sc vb2 (Zn.sc r2.1 ee)))))))) (Z08 h)) λg3 h=>Zk ([((1,1),(1,2)),((1,2),(1,3)),((1,3),(1,4)),((1,4),(1,5)),((1,5),(1,6)),((1,6),(1,7)),((1,7),(1,8)),((1,8),(1,9)),((1,9),(3,11264))]++Zn.ff 10 3 6144) 8 (gg g1 (gg g2 (rr (Ykh Z6) (gg g3 (kk 1 (Zj.sc Zj.z0 (Zj.sc vb2 (Zn.sc r2.1 ee)))))))) (Z08 h)) λg2 h=>rtK h (gg g1 (gg g2 (kk 3 (Zj.so vb2 ee))))
theorem Zln {x0:Zj} {x1:Bool} {x2:Int} {x3:Int} {x4:Int} {r:Zj×Int×Int} {vb2:Zj} {v4:Bool} (h:K2 x0 x1 x2 x3 x4 vb2 v4=some r):CS (Zvr x0 x1 x2 x3 x4 r) Tryz.f204 [1,1,0,1] [(1,bl x1),(2,il x2),(3,il x3),(4,il x4),(5,.ptr (1,1) 0 0),(10,.ptr (1,2) 0 0),(13,.ptr (1,6) 0 0),(40,bl v4)] ([bx 1 (Zj.enc x0)]++Zj.bk Zj.z0 3++[bx 2 (Zj.rl Zj.z0 3)]++Zj.bk vb2 7++[bx 6 (Zj.rl vb2 7)]):=
 itK h (λg1 h=>rtK h (gg g1 (kk 3 (Zj.so vb2 ee)))) λg1 h=>bnK h λr3 Yu h=>itK h (λg2 h=>Zk (ffi 1 9) 11 (gg g1 (rr (Z25 Yu) (gg g2 (Zj.sc Zj.z0 (Zj.sc vb2 ee))))) (Z1g h)) λg2 h=>Zk (ffi 1 9) 11 (gg g1 (rr (Z25 Yu) (gg g2 (Zj.sc Zj.z0 (Zj.sc vb2 ee))))) (Z1g h)
theorem Yb4 {x0:Zj} {x1:Bool} {x2:Int} {x3:Int} {x4:Int} {r:Zj×Int×Int} (h:Zpe x0 x1 x2 x3 x4=some r):Zv Tryz.prog Mo (Zvr x0 x1 x2 x3 x4 r):=
 Zt Tryz.func204 (bnK h λr4 Kx h=>bnK h λr5 hr5 h=>have p1 {q p} (k:Scr q p):=(rr (Yhs Kx) (rr (Ybt hr5) k));itK h (λg1 h=>Zk ([((1,1),(1,0)),((1,2),(1,1024)),((1,6),(2,2048))]++Zj.ff 7 2 1024) 7 (p1 (gg g1 (kk 8 (Zj.sc r4 ee)))) (Zln h)) λg1 h=>bnK h λr6 hr6 h=>have p2 {q p} (k:Scr q p):=(p1 (gg g1 (kk 2 (rr (Zo9 hr6) (kk 2 k)))));itK h (λg2 h=>Zk ([((1,1),(1,0)),((1,2),(1,1024)),((1,6),(2,2048))]++Zj.ff 7 2 1024) 7 (p2 (gg g2 (kk 3 (Zj.sc r4 ee)))) (Zln h)) λg2 h=>itK h (λg3 h=>bnK h λr7 hr7 h=>bnK h λr8 hr8 h=>Zk ([((1,1),(1,0)),((1,2),(1,1024)),((1,6),(2,2048))]++Zj.ff 7 2 1024) 7 (p2 (gg g2 (kk 1 (gg g3 (kk 2 (rr (Zcu hr7) (kk 2 (rr (Z3 hr8) (kk 4 (Zj.sc r4 ee)))))))))) (Zln h)) λg3 h=>Zk ([((1,1),(1,0)),((1,2),(1,1024)),((1,6),(2,2048))]++Zj.ff 7 2 1024) 7 (p2 (gg g2 (kk 1 (gg g3 (kk 8 (Zj.sc r4 ee)))))) (Zln h))
abbrev Yg7 (x0:Zb) (r:Zb×Bool):Y:=(206,[.agg (Zb.enc x0)],.tup [.agg [.own 104 (r.1.queue.map Zi.enc),il r.1.beat,il r.1.done,il r.1.tries,bl r.1.parted,bl r.1.broken],bl r.2],[.undef])
theorem Z4o {x0:Zb} {r:Zb×Bool} {vb0:Zb} {v0:Bool} (h:Zoh x0 vb0 v0=some r):CS (Yg7 x0 r) Tryz.f206 [1,1,0,1] [(1,.ptr (1,1) 0 0),(2,.ptr (1,2) 0 0),(4,.ptr (1,4) 0 0),(16,bl v0)] [bx 1 (Zb.enc x0),rx 3 104 ([].map Zi.enc),bx 2 [.sl (1,3) 0 ([].map Zi.enc).length,il 0,il 0,il 0,bl false,bl false],rx 5 104 (vb0.queue.map Zi.enc),bx 4 [.sl (1,5) 0 (vb0.queue.map Zi.enc).length,il vb0.beat,il vb0.done,il vb0.tries,bl vb0.parted,bl vb0.broken]]:=
 itK h (λg1 h=>rtK h (gg g1 (kk 1 (oe Zi.enc vb0.queue ee)))) λg1 h=>bnK h λr0 Zo h=>itK h (λg2 h=>bnK h λs0 hs0 h=>rtK h (gg g1 (rr (Zeu Zo) (gg g2 (tp (.num (1:Int).toNat ((vb0.queue.length:Int):Int).toNat (((vb0.queue.length:Int):Int).toNat - (1:Int).toNat) []) (kk 1 (tp (.mk 0 (s0.map Zi.enc)) (oe Zi.enc vb0.queue (ob (sln hs0).1 (ob (Yi5 Zi.enc vb0.queue) (ob (sll Zi.enc hs0) (ob (alr 6 Zi.enc_len vb0.queue) (ob (Eq.refl (((vb0.queue.length:Int):Int).toNat - (1:Int).toNat)) (ob (sla Zi.enc hs0) (ob (slr Zi.enc hs0) ee))))))))))))))) λg2 h=>rtK h (gg g1 (rr (Zeu Zo) (gg g2 (kk 1 (oe Zi.enc vb0.queue ee)))))
theorem Yyj {x0:Zb} {r:Zb×Bool} (h:Zyd x0=some r):Zv Tryz.prog Mo (Yg7 x0 r):=
 Zt Tryz.func206 (bnK h λr1 Zw h=>bnK h λr2 Z6 h=>itK h (λg1 h=>Zk [((1,1),(1,0)),((1,2),(1,1024)),((1,4),(2,2048)),((1,5),(2,1024))] 7 (rr (Zec Zw) (rr (J9 Z6) (gg g1 (kk 5 (ln Zi.enc r1.queue ee))))) (Z4o h)) λg1 h=>Zk [((1,1),(1,0)),((1,2),(1,1024)),((1,4),(2,2048)),((1,5),(2,1024))] 7 (rr (Zec Zw) (rr (J9 Z6) (gg g1 (kk 5 (ln Zi.enc r1.queue ee))))) (Z4o h))
abbrev Z62 (x0:Za) (x1:Ze) (r:Za):Y:=(150,[.agg (Za.ow x0),.agg (Ze.enc x1)],.agg (Za.ow r),[.undef,.undef])
theorem Zxj {x0:Za} {x1:Ze} {r:Za} {vb0:Za} {vb1:Zb} {vb2:Zr} (h:Zdr x0 x1 vb0 vb1 vb2=some r):CS (Z62 x0 x1 r) Tryz.f150 [1,1,1,1,1,1,1,1] [(2,.ptr (1,1) 0 0),(4,.ptr (1,10) 0 0),(5,.ptr (1,19) 0 0),(6,.ptr (1,20) 0 0),(8,.ptr (1,21) 0 0)] (Za.bk vb0 2++[bx 1 (Za.rl vb0 2)]++Za.bk Za.z0 11++[bx 10 (Za.rl Za.z0 11),bx 19 (Zg.enc x0.data_),bx 20 (Zb.enc vb1),bx 21 (Zr.enc vb2)]):=
 bnK h λz0 We h=>bnK h λr0 Zo h=>bnK h λa0 Z0 h=>bnK h λy0 W6 h=>have p1 {q p} (k:Scr q p):=(ta Zr.enc [vb2] z0 (kk 1 (oa 7 Zr.enc_len vb2 (ox Zr.enc We (oe Zr.enc z0 (rr (Yyj Zo) (xq Zb.enc Z0 y0 (kk 1 (oe Zi.enc r0.1.queue (ob (Z0r Zb.enc W6) k))))))))));itK h (λg1 h=>itK h (λg2 h=>rtK h (p1 (gg g1 (kk 3 (gg g2 (kk 8 (oe Zc.enc vb0.conf.masters (ob (Q9 Zb.enc W6) (oe Zf.enc vb0.buckets (oe Zd vb0.splits (Zj.so vb0.model (oe Zr.enc z0 ee)))))))))))) λg2 h=>rtK h (p1 (gg g1 (kk 3 (gg g2 (kk 8 (oe Zc.enc vb0.conf.masters (ob (Q9 Zb.enc W6) (oe Zf.enc vb0.buckets (oe Zd vb0.splits (Zj.so vb0.model (oe Zr.enc z0 ee)))))))))))) λg1 h=>rtK h (p1 (gg g1 (kk 12 (oe Zc.enc vb0.conf.masters (ob (Q9 Zb.enc W6) (oe Zf.enc vb0.buckets (oe Zd vb0.splits (Zj.so vb0.model (oe Zr.enc z0 ee)))))))))
theorem Ylu {x0:Za} {x1:Ze} {r:Za} (h:Zp8 x0 x1=some r):Zv Tryz.prog Mo (Z62 x0 x1 r):=
 Zt Tryz.func150 (bnK h λa1 Y3 h=>itK h (λg1 h=>bnK h λy1 hy1 h=>bnK h λr1 Zw h=>rtK h (xd Zb.enc Y3 (gg g1 (xp Zb.enc Y3 hy1 (kk 8 (oe Zc.enc x0.conf.masters (ob (Q9 Zb.enc hy1) (oe Zf.enc x0.buckets (oe Zd x0.splits (Zj.so x0.model (oe Zr.enc x0.log (rr (Z2w Zw) (kk 8 (Za.so r1 ee)))))))))))))) λg1 h=>itK h (λg2 h=>bnK h λy2 hy2 h=>bnK h λr2 Z6 h=>bnK h λa2 Ks h=>bnK h λy3 hy3 h=>bnK h λr3 Yu h=>rtK h (xd Zb.enc Y3 (gg g1 (gg g2 (xp Zb.enc Y3 hy2 (kk 1 (oe Zc.enc x0.conf.masters (rr (Ytv Z6) (xp Zd Ks hy3 (kk 8 (oe Zc.enc x0.conf.masters (ob (Q9 Zb.enc hy2) (oe Zf.enc x0.buckets (ob (Q9 Zd hy3) (Zj.so x0.model (oe Zr.enc x0.log (rr (Z2w Yu) (kk 8 (Za.so r3 ee))))))))))))))))))) λg2 h=>bnK h λa3 ha3 h=>bnK h λr4 Kx h=>have p1 {q p} (k:Scr q p):=(xd Zb.enc Y3 (gg g1 (gg g2 (xb Zi.enc ha3 (rr (Zpr Kx) k)))));itK h (λg3 h=>bnK h λr5 hr5 h=>bnK h λr6 hr6 h=>Zk [((1,1),(1,0)),((1,2),(0,0)),((1,3),(0,7)),((1,4),(0,10)),((1,5),(0,11)),((1,6),(11,12288)),((1,7),(11,12289)),((1,8),(11,12291)),((1,9),(0,36)),((1,10),(1,2048)),((1,19),(2,2048)),((1,20),(4,6144)),((1,21),(9,15360))] 29 (p1 (gg g3 (rr (Z9r hr5) (kk 3 (Zj.so x0.model (rr (Yb4 hr6) (Za.sc {x0 with data_:=Zg.z0,model:=r6.1} ee))))))) (Zxj h)) λg3 h=>Zk ([((1,1),(1,0))]++Za.ff 2 0 0++[((1,10),(1,2048)),((1,19),(2,2048)),((1,20),(4,6144)),((1,21),(9,15360))]) 29 (p1 (gg g3 (Za.sc {x0 with data_:=Zg.z0} ee))) (Zxj h))
abbrev Yx3 (x0:Ze) (x1:Int) (r:Int):Y:=(212,[.agg (Ze.enc x0),il x1],il r,[.undef,.undef])
theorem Yw3 {x0:Ze} {x1:Int} {r:Int} (h:Zxr x0 x1=some r):Zv Tryz.prog Mo (Yx3 x0 x1 r):=
 Zt Tryz.func212 (bnK h λr0 Zo h=>itK h (λg1 h=>rtK h (rr (Zy5 Zo) (gg g1 (kk 3 ee)))) λg1 h=>itK h (λg2 h=>rtK h (rr (Zy5 Zo) (gg g1 (kk 2 (gg g2 ee))))) λg2 h=>rtK h (rr (Zy5 Zo) (gg g1 (kk 2 (gg g2 ee)))))
abbrev Yx7 (x0:Zh) (x1:Ze) (x2:Int) (r:Int):Y:=(213,[.agg (Zh.enc x0),.agg (Ze.enc x1),il x2],il r,[.undef,.undef,.undef])
theorem Yx8 {x0:Zh} {x1:Ze} {x2:Int} {r:Int} (h:Zx6 x0 x1 x2=some r):Zv Tryz.prog Mo (Yx7 x0 x1 x2 r):=
 Zt Tryz.func213 (bnK h λr0 Zo h=>rtK h (rr (Zy5 Zo) ee))
abbrev Zbp (x0:Za) (x1:Ze) (r:Za):Y:=(152,[.agg (Za.ow x0),.agg (Ze.enc x1)],.agg (Za.ow r),[.undef,.undef])
end Go.Proofs.YtagdmghmblplbaaGreat.Ev
