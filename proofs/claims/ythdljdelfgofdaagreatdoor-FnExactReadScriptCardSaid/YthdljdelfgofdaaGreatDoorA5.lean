/- A part of the proof of FnExactReadScript: see the text YthdljdelfgofdaaGreatDoorLawFnExactReadScript for what is proved and its conditions. Conditions here: those in each line. -/
import Derived.Test.YthdljdelfgofdaaGreatDoorA4
set_option linter.unusedSimpArgs false
set_option linter.unusedVariables false
set_option linter.unusedSectionVars false
namespace Go.Proofs.YthdljdelfgofdaaGreatDoor.Ev
open Go Go.Proofs
variable [Anchor] [ExtOk]
abbrev Zqr (x0:ByteArray) (x1:Int) (r:List ByteArray):Y:=(23,[ss x0,iu x1],.own 9 (r.map Zh),[.undef,.undef])
theorem Zw0 {x0:ByteArray} {x1:Int} {r:List ByteArray}:∀{m:Nat} {v0:List ByteArray} {v1:Int} {v2:Int},Zba x0 x1 m v0 v1 v2=some r->CS (Zqr x0 x1 r) Tryz.f23 [1,1,1,0,1,0] [(0,ss x0),(1,iu x1),(5,.sl (1,1) 0 (v0.map Zh).length),(6,il v1),(7,il v2)] [rx 1 9 (v0.map Zh)]:=by
 intro m
 induction m with
 | zero=>intro v0 v1 v2 h;cases h
 | succ m ih=>exactλ{v0} {v1} {v2} h=>itK h (λg1 h=>bnK h λa0 Y2 h=>itK h (λg2 h=>bnK h λs0 hs0 h=>bnK h λz0 hz0 h=>Zv [((1,1),(4,6144))] 16 (gg g1 (tp (.val (.lit (.int .u8 a0))) (ob (six Y2) (gg g2 (tp (.val (.lit (.string s0))) (ta Zh [s0] z0 (kk 1 (ob (ssx hs0) (oa 1 Wv s0 (ox Zh hz0 (ln Zh z0 (oe Zh z0 ee)))))))))))) (ih h)) λg2 h=>Zv [((1,1),(1,1))] 14 (gg g1 (tp (.val (.lit (.int .u8 a0))) (ob (six Y2) (gg g2 (ln Zh v0 ee))))) (ih h)) λg1 h=>bnK h λs1 Jh h=>bnK h λz1 hz1 h=>rtK h (gg g1 (tp (.val (.lit (.string s1))) (ta Zh [s1] z1 (kk 2 (ob (ssxh Jh) (oa 1 Wv s1 (ox Zh hz1 (oe Zh z1 (oe Zh z1 ee)))))))))
theorem Z07 {x0:ByteArray} {x1:Int} {r:List ByteArray} (h:Ql x0 x1=some r):Z5 Tryz.prog Mo (Zqr x0 x1 r):=
 Yj Tryz.func23 (Zv [((1,1),(2,0))] 10 (tp (.num ([].map Zh).length 0 0 []) (ob (show 0=([].map Zh).length from rfl) ee)) (Zw0 h))
abbrev Z44 (x0:ByteArray) (x1:Int) (r:List ByteArray):Y:=(23,[ss x0,iu x1],.tr (r.map Zh),[.undef,.undef])
theorem Zov {x0:ByteArray} {x1:Int} {r:List ByteArray} (h:Ql x0 x1=some r):Z5 Tryz.prog Mo (Z44 x0 x1 r):=Z7a (by kernel_rfl) (Z07 h)
abbrev Zei (x0:ByteArray) (r:Int):Y:=(61,[ss x0],il r,[.undef])
theorem Zg7 {x0:ByteArray} {r:Int} {k_L1:ByteArray->Int->Int->Int->Option Int} (i_L1:∀{v0:ByteArray} {v1:Int} {v2:Int} {v3:Int},k_L1 v0 v1 v2 v3=some r->CS (Zei x0 r) Tryz.f61 [1,1,1,1,0,1,0] [(0,ss v0),(3,il v1),(4,il v2),(5,il v3)] []) {v0:ByteArray} {v1:Int} {v2:Int} {v3:Int} {v4:Bool} (h:Qj x0 k_L1 v0 v1 v2 v3 v4=some r):CS (Zei x0 r) Tryz.f61 [1,1,1,1,0,1,0,0,1,0,0,0,1] [(0,ss v0),(3,il v1),(4,il v2),(5,il v3),(36,bl v4)] []:=
 itK h (λg1 h=>rtK h (gg g1 ee)) λg1 h=>bnK h λa0 Y2 h=>Zv [] 5 (gg g1 (tp (.val (.lit (.int .u8 a0))) (ob (six Y2) ee))) (i_L1 h)
theorem Zwt {x0:ByteArray} {r:Int}:∀{m:Nat} {v0:ByteArray} {v1:Int} {v2:Int} {v3:Int},Qk x0 m v0 v1 v2 v3=some r->CS (Zei x0 r) Tryz.f61 [1,1,1,1,0,1,0] [(0,ss v0),(3,il v1),(4,il v2),(5,il v3)] []:=by
 intro m
 induction m with
 | zero=>intro v0 v1 v2 v3 h;cases h
 | succ m ih=>exactλ{v0} {v1} {v2} {v3} h=>itK h (λg1 h=>bnK h λa1 K3 h=>have p1 {q p} (k:Scr q p):=(gg g1 (tp (.val (.lit (.int .u8 a1))) (ob (six K3) k)));itK h (λg2 h=>Zv [] 11 (p1 (gg g2 (kk 8 ee))) (Zg7 ih h)) λg2 h=>have p2 {q p} (k:Scr q p):=(p1 (gg g2 (kk 2 (tp (.val (.lit (.int .u8 a1))) (kk 2 (ob (six K3) k))))));itK h (λg3 h=>Zv [] 11 (p2 (gg g3 (kk 3 ee))) (Zg7 ih h)) λg3 h=>Zv [] 11 (p2 (gg g3 (kk 3 ee))) (Zg7 ih h)) λg1 h=>rtK h (gg g1 ee)
theorem Zm4 {x0:ByteArray} {r:Int} {v0:ByteArray} {v1:Int} (h:Kv x0 v0 v1=some r):CS (Zei x0 r) Tryz.f61 [1,1,1] [(0,ss v0),(3,il v1)] []:=
 Zv [] 6 ee (Zwt h)
theorem Zm6 {x0:ByteArray} {r:Int} {v5:Bool} (h:W4 x0 v5=some r):CS (Zei x0 r) Tryz.f61 [1,1,0,1] [(0,ss x0),(3,il 1),(13,bl v5)] []:=
 itK h (λg1 h=>bnK h λs0 hs0 h=>Zv [] 4 (gg g1 (tp (.val (.lit (.string s0))) (ob (ssxh hs0) ee))) (Zm4 h)) λg1 h=>Zv [] 2 (gg g1 ee) (Zm4 h)
theorem Zn9 {x0:ByteArray} {r:Int} (h:Zas x0=some r):Z5 Tryz.prog Mo (Zei x0 r):=
 Yj Tryz.func61 (itK h (λg1 h=>bnK h λa2 ha2 h=>Zv [] 7 (gg g1 (kk 1 (tp (.val (.lit (.int .u8 a2))) (kk 2 (ob (six ha2) ee))))) (Zm6 h)) λg1 h=>Zv [] 7 (gg g1 (kk 3 ee)) (Zm6 h))
abbrev Zqm (x0:List ByteArray) (r:List Int):Y:=(24,[.tr (x0.map Zh)],.own 3 (r.map Ze),[.undef])
theorem Zsx {x0:List ByteArray} {r:List Int}:∀{m:Nat} {v0:List Int} {v1:Int},Km x0 m v0 v1=some r->CS (Zqm x0 r) Tryz.f24 [1,1,0,1,0] [(0,.tr (x0.map Zh)),(3,.sl (1,1) 0 (v0.map Ze).length),(4,il v1)] [rx 1 3 (v0.map Ze)]:=by
 intro m
 induction m with
 | zero=>intro v0 v1 h;cases h
 | succ m ih=>exactλ{v0} {v1} h=>itK h (λg1 h=>bnK h λa0 Y2 h=>bnK h λr0 Ya h=>bnK h λz0 hz0 h=>Zv [((1,1),(3,7168))] 11 (lr Zh x0 (gg g1 (xb Zh Y2 (rr (Zn9 Ya) (ta Ze [r0] z0 (kk 1 (oa 1 Zh3 r0 (ox Ze hz0 (ln Ze z0 (oe Ze z0 ee)))))))))) (ih h)) λg1 h=>rtK h (lr Zh x0 (gg g1 (kk 1 (oe Ze v0 ee))))
theorem Zkk {x0:List ByteArray} {r:List Int} (h:J5 x0=some r):Z5 Tryz.prog Mo (Zqm x0 r):=
 Yj Tryz.func24 (Zv [((1,1),(2,0))] 8 (tp (.num ([].map Ze).length 0 0 []) (ob (show 0=([].map Ze).length from rfl) ee)) (Zsx h))
abbrev Zsa (x0:List ByteArray) (x1:ByteArray) (r:Int):Y:=(62,[.tr (x0.map Zh),ss x1],il r,[.undef,.undef])
theorem Zu1 {x0:List ByteArray} {x1:ByteArray} {r:Int}:∀{m:Nat} {v0:Int},Ja x0 x1 m v0=some r->CS (Zsa x0 x1 r) Tryz.f62 [1,0,1,0] [(0,.tr (x0.map Zh)),(1,ss x1),(5,il v0)] []:=by
 intro m
 induction m with
 | zero=>intro v0 h;cases h
 | succ m ih=>exactλ{v0} h=>itK h (λg1 h=>bnK h λa0 Y2 h=>itK h (λg2 h=>rtK h (lr Zh x0 (gg g1 (xb Zh Y2 (gg g2 ee))))) λg2 h=>Zv [] 14 (lr Zh x0 (gg g1 (xb Zh Y2 (gg g2 ee)))) (ih h)) λg1 h=>rtK h (lr Zh x0 (gg g1 ee))
theorem Zsk {x0:List ByteArray} {x1:ByteArray} {r:Int} (h:Jz x0 x1=some r):Z5 Tryz.prog Mo (Zsa x0 x1 r):=
 Yj Tryz.func62 (Zv [] 6 ee (Zu1 h))
abbrev Z7b (x0:Int) (x1:Int) (x2:Int) (r:Bool):Y:=(78,[il x0,il x1,il x2],bl r,[.undef,.undef,.undef])
theorem Zd8 {x0:Int} {x1:Int} {x2:Int} {r:Bool} (h:Zcq x0 x1 x2=some r):Z5 Tryz.prog Mo (Z7b x0 x1 x2 r):=
 Yj Tryz.func78 (itK h (λg1 h=>rtK h (gg g1 (kk 3 ee))) λg1 h=>rtK h (gg g1 (kk 3 ee)))
abbrev Z0q (x0:Int) (r:Int):Y:=(112,[il x0],il r,[.undef])
theorem J7 {x0:Int} {r:Int} (h:Q8 x0=some r):Z5 Tryz.prog Mo (Z0q x0 r):=
 Yj Tryz.func112 (bnK h λr0 Ya h=>itK h (λg1 h=>rtK h (rr (Zd8 Ya) (gg g1 ee))) λg1 h=>bnK h λa0 Y2 h=>rtK h (rr (Zd8 Ya) (gg g1 (xd Ze Y2 ee))))
abbrev Z1d (x0:Int) (r:Int):Y:=(110,[il x0],il r,[.undef])
theorem K8 {x0:Int} {r:Int} (h:Q6 x0=some r):Z5 Tryz.prog Mo (Z1d x0 r):=
 Yj Tryz.func110 (bnK h λr0 Ya h=>itK h (λg1 h=>rtK h (rr (Zd8 Ya) (gg g1 ee))) λg1 h=>bnK h λn0 K2 h=>rtK h (rr (Zd8 Ya) (gg g1 (tp (.obl) (ob (nn0 K2) ee)))))
abbrev Z1c (x0:Int) (x1:Int) (r:Bool):Y:=(138,[il x0,il x1],bl r,[.undef,.undef])
theorem Z1x {x0:Int} {x1:Int} {r:Bool} (h:Zf3 x0 x1=some r):Z5 Tryz.prog Mo (Z1c x0 x1 r):=
 Yj Tryz.func138 (bnK h λr0 Ya h=>itK h (λg1 h=>itK h (λg2 h=>bnK h λr1 X6 h=>bnK h λn0 K2 h=>rtK h (rr (K8 Ya) (gg g1 (kk 2 (gg g2 (kk 2 (rr (K8 X6) (kk 1 (tp (.obl) (kk 2 (ob (nz0 K2) ee))))))))))) λg2 h=>rtK h (rr (K8 Ya) (gg g1 (kk 2 (gg g2 (kk 5 ee)))))) λg1 h=>rtK h (rr (K8 Ya) (gg g1 (kk 8 ee))))
abbrev Zib (x0:Int) (x1:Int) (x2:Int) (r:Int):Y:=(221,[il x0,il x1,il x2],il r,[.undef,.undef,.undef])
theorem Zih {x0:Int} {x1:Int} {x2:Int} {r:Int} {v0:Int} {v1:Bool} (h:Za4 x0 x1 x2 v0 v1=some r):CS (Zib x0 x1 x2 r) Tryz.f221 [1,1,1,0,1] [(0,il x0),(7,il v0),(34,bl v1)] []:=
 itK h (λg1 h=>rtK h (gg g1 ee)) λg1 h=>rtK h (gg g1 ee)
theorem Zeb {x0:Int} {x1:Int} {x2:Int} {r:Int} {v0:Int} {v2:Bool} (h:Je x0 x1 x2 v0 v2=some r):CS (Zib x0 x1 x2 r) Tryz.f221 [1,1,0,1] [(0,il x0),(2,il x2),(7,il v0),(23,bl v2)] []:=
 itK h (λg1 h=>rtK h (gg g1 ee)) λg1 h=>itK h (λg2 h=>bnK h λn0 K2 h=>Zv [] 5 (gg g1 (gg g2 (kk 5 (tp (.obl) (kk 2 (ob (nz0 K2) ee)))))) (Zih h)) λg2 h=>Zv [] 5 (gg g1 (gg g2 (kk 7 ee))) (Zih h)
theorem Zos {x0:Int} {x1:Int} {x2:Int} {r:Int} (h:Zci x0 x1 x2=some r):Z5 Tryz.prog Mo (Zib x0 x1 x2 r):=
 Yj Tryz.func221 (bnK h λr0 Ya h=>bnK h λr1 X6 h=>have p1 {q p} (k:Scr q p):=(rr (K8 Ya) (rr (Z1x X6) k));itK h (λg1 h=>Zv [] 7 (p1 (gg g1 (kk 7 ee))) (Zeb h)) λg1 h=>bnK h λr2 Xq h=>itK h (λg2 h=>Zv [] 7 (p1 (gg g1 (kk 1 (rr (Zd8 Xq) (kk 2 (gg g2 (kk 3 ee))))))) (Zeb h)) λg2 h=>bnK h λr3 hr3 h=>Zv [] 7 (p1 (gg g1 (kk 1 (rr (Zd8 Xq) (kk 2 (gg g2 (kk 1 (rr (J7 hr3) (kk 2 ee))))))))) (Zeb h))
abbrev Zc0 (x0:Int) (x1:Int) (x2:Int) (r:List Int):Y:=(173,[il x0,il x1,il x2],.own 3 (r.map Ze),[.undef,.undef,.undef])
theorem Zgx {x0:Int} {x1:Int} {x2:Int} {r:List Int} {k_L1:Int->(List Int)->Option (List Int)} (i_L1:∀{v0:Int} {v1:List Int},k_L1 v0 v1=some r->CS (Zc0 x0 x1 x2 r) Tryz.f173 [1,1,0,0] [(0,il v0),(1,il x1),(2,il x2),(7,.sl (1,1) 0 (v1.map Ze).length)] [rx 1 3 (v1.map Ze)]) {v0:Int} {v1:List Int} {v2:Bool} (h:Ke x0 x1 x2 k_L1 v0 v1 v2=some r):CS (Zc0 x0 x1 x2 r) Tryz.f173 [1,1,0,0,0,0,1] [(0,il v0),(1,il x1),(2,il x2),(7,.sl (1,1) 0 (v1.map Ze).length),(20,bl v2)] [rx 1 3 (v1.map Ze)]:=
 itK h (λg1 h=>bnK h λz0 hz0 h=>bnK h λr0 Ya h=>Zv [((1,1),(2,3072))] 7 (gg g1 (ta Ze [v0] z0 (kk 1 (oa 1 Zh3 v0 (ox Ze hz0 (oe Ze z0 (rr (Zos Ya) (ln Ze z0 ee)))))))) (i_L1 h)) λg1 h=>bnK h λr1 X6 h=>itK h (λg2 h=>rtK h (gg g1 (lr Ze v1 (rr (J7 X6) (gg g2 (kk 1 (ob (show 0=([].map Ze).length from rfl) ee))))))) λg2 h=>rtK h (gg g1 (lr Ze v1 (rr (J7 X6) (gg g2 (kk 1 (oe Ze v1 ee))))))
theorem Znt {x0:Int} {x1:Int} {x2:Int} {r:List Int}:∀{m:Nat} {v0:Int} {v1:List Int},Js x0 x1 x2 m v0 v1=some r->CS (Zc0 x0 x1 x2 r) Tryz.f173 [1,1,0,0] [(0,il v0),(1,il x1),(2,il x2),(7,.sl (1,1) 0 (v1.map Ze).length)] [rx 1 3 (v1.map Ze)]:=by
 intro m
 induction m with
 | zero=>intro v0 v1 h;cases h
 | succ m ih=>exactλ{v0} {v1} h=>bnK h λr2 Xq h=>itK h (λg1 h=>bnK h λr3 hr3 h=>Zv [((1,1),(1,1))] 4 (lr Ze v1 (rr (J7 Xq) (gg g1 (kk 3 (rr (Zos hr3) (kk 2 (ln Ze v1 ee))))))) (Zgx ih h)) λg1 h=>Zv [((1,1),(1,1))] 4 (lr Ze v1 (rr (J7 Xq) (gg g1 (kk 5 (ln Ze v1 ee))))) (Zgx ih h)
theorem Zuf {x0:Int} {x1:Int} {x2:Int} {r:List Int} (h:Zc5 x0 x1 x2=some r):Z5 Tryz.prog Mo (Zc0 x0 x1 x2 r):=
 Yj Tryz.func173 (Zv [((1,1),(2,0))] 6 (tp (.num ([].map Ze).length 0 0 []) (ob (show 0=([].map Ze).length from rfl) ee)) (Znt h))
abbrev Zqq (x0:Int) (x1:Int) (x2:Int) (r:Bool):Y:=(111,[il x0,il x1,il x2],bl r,[.undef,.undef,.undef])
theorem Zto {x0:Int} {x1:Int} {x2:Int} {r:Bool}:∀{m:Nat} {v0:List Int} {v1:Int},Zbv x0 x1 x2 m v0 v1=some r->CS (Zqq x0 x1 x2 r) Tryz.f111 [1,1,0,1,0] [(7,.sl (1,1) 0 (v0.map Ze).length),(8,il v1)] [rx 1 3 (v0.map Ze)]:=by
 intro m
 induction m with
 | zero=>intro v0 v1 h;cases h
 | succ m ih=>exactλ{v0} {v1} h=>itK h (λg1 h=>bnK h λa0 Y2 h=>bnK h λa1 K3 h=>itK h (λg2 h=>rtK h (lr Ze v0 (gg g1 (xd Ze Y2 (kk 1 (xd Ze K3 (kk 1 (gg g2 ee)))))))) λg2 h=>Zv [((1,1),(1,1))] 14 (lr Ze v0 (gg g1 (xd Ze Y2 (kk 1 (xd Ze K3 (kk 1 (gg g2 (ln Ze v0 ee)))))))) (ih h)) λg1 h=>rtK h (lr Ze v0 (gg g1 (lr Ze v0 ee)))
theorem Zqw {x0:Int} {x1:Int} {x2:Int} {r:Bool} (h:Zgi x0 x1 x2=some r):Z5 Tryz.prog Mo (Zqq x0 x1 x2 r):=
 Yj Tryz.func111 (bnK h λr0 Ya h=>Zv [((1,1),(2,3072))] 8 (rr (Zuf Ya) (ln Ze r0 ee)) (Zto h))
abbrev Z0p (x0:Int) (r:Int):Y:=(113,[il x0],il r,[.undef])
theorem Z1p {x0:Int} {r:Int} (h:Zdo x0=some r):Z5 Tryz.prog Mo (Z0p x0 r):=
 Yj Tryz.func113 (bnK h λr0 Ya h=>itK h (λg1 h=>rtK h (rr (K8 Ya) (gg g1 ee))) λg1 h=>bnK h λr1 X6 h=>bnK h λn0 K2 h=>rtK h (rr (K8 Ya) (gg g1 (rr (K8 X6) (tp (.obl) (ob (nn0 K2) ee))))))
abbrev Zvt (x0:Zj) (r:Bool):Y:=(108,[.agg (Zj.enc x0)],bl r,[.undef])
theorem Zwv {x0:Zj} {r:Bool}:∀{m:Nat} {v0:Int},Zd0 x0 m v0=some r->CS (Zvt x0 r) Tryz.f108 [1,1,0,1,0] [(1,.ptr (1,1) 0 0),(3,il v0)] [bx 1 (Zj.enc x0)]:=by
 intro m
 induction m with
 | zero=>intro v0 h;cases h
 | succ m ih=>exactλ{v0} h=>have p1 {q p} (k:Scr q p):=(lr Ze x0.data_ k);itK h (λg1 h=>bnK h λa0 Y2 h=>bnK h λr0 Ya h=>bnK h λr1 X6 h=>have p2 {q p} (k:Scr q p):=(p1 (gg g1 (xb Ze Y2 (rr (Z1p Ya) (rr (Zd8 X6) k)))));itK h (λg2 h=>rtK h (p2 (gg g2 ee))) λg2 h=>Zv [((1,1),(1,1))] 14 (p2 (gg g2 ee)) (ih h)) λg1 h=>have p3 {q p} (k:Scr q p):=(p1 (gg g1 (lr Ze x0.data_ k)));itK h (λg2 h=>itK h (λg3 h=>rtK h (p3 (gg g2 (kk 3 (gg g3 (kk 9 ee)))))) λg3 h=>bnK h λr2 Xq h=>have p4 {q p} (k:Scr q p):=(p3 (gg g2 (kk 3 (gg g3 (kk 2 (lr Ze x0.data_ (kk 3 (rr (J7 Xq) (kk 2 k)))))))));itK h (λg4 h=>rtK h (p4 (gg g4 (kk 4 ee)))) λg4 h=>rtK h (p4 (gg g4 (kk 4 ee)))) λg2 h=>bnK h λr2 Xq h=>have p5 {q p} (k:Scr q p):=(p3 (gg g2 (kk 6 (lr Ze x0.data_ (kk 3 (rr (J7 Xq) (kk 2 k)))))));itK h (λg3 h=>rtK h (p5 (gg g3 (kk 4 ee)))) λg3 h=>rtK h (p5 (gg g3 (kk 4 ee)))
theorem Zn0 {x0:Zj} {r:Bool} (h:Zi7 x0=some r):Z5 Tryz.prog Mo (Zvt x0 r):=
 Yj Tryz.func108 (bnK h λr3 hr3 h=>itK h (λg1 h=>rtK h (rr (Zqw hr3) (gg g1 ee))) λg1 h=>Zv [((1,1),(1,0))] 11 (rr (Zqw hr3) (gg g1 ee)) (Zwv h))
abbrev Zpz (x0:Int) (r:ByteArray):Y:=(13,[il x0],ss r,[.undef])
theorem Zq5 {x0:Int} {r:ByteArray} {k_L1:Int->ByteArray->Option ByteArray} (i_L1:∀{v0:Int} {v1:ByteArray},k_L1 v0 v1=some r->CS (Zpz x0 r) Tryz.f13 [1,1,1,1,0,0] [(0,il v0),(3,ss v1),(4,bl (decide (x0 < 0)))] []) {v0:Int} {v1:ByteArray} {v2:Int} (h:Zdr x0 k_L1 v0 v1 v2=some r):CS (Zpz x0 r) Tryz.f13 [1,1,1,1,0,0,0,1,0,1,1] [(0,il v0),(3,ss v1),(4,bl (decide (x0 < 0))),(5,il v2)] []:=
 bnK h λn0 K2 h=>Zv [] 4 (kk 1 (tp (.val (.lit (.string (strB [(w8 (Zq 48 v2))])))) (tp (.obl) (kk 1 (ob (show 1=([(w8 (Zq 48 v2))].map encU).length from rfl) (ob (stx [(w8 (Zq 48 v2))]) (ob (Wu K2) ee))))))) (i_L1 h)
theorem Z03 {x0:Int} {r:ByteArray}:∀{m:Nat} {v0:Int} {v1:ByteArray},Zbd x0 m v0 v1=some r->CS (Zpz x0 r) Tryz.f13 [1,1,1,1,0,0] [(0,il v0),(3,ss v1),(4,bl (decide (x0 < 0)))] []:=by
 intro m
 induction m with
 | zero=>intro v0 v1 h;cases h
 | succ m ih=>exactλ{v0} {v1} h=>itK h (λg1 h=>itK h (λg2 h=>Zv [] 14 (gg g1 (kk 1 (gg g2 ee))) (Zq5 ih h)) λg2 h=>Zv [] 14 (gg g1 (kk 1 (gg g2 ee))) (Zq5 ih h)) λg1 h=>itK h (λg2 h=>bnK h λn1 hn1 h=>rtK h (gg g1 (gg g2 (tp (.obl) (ob (Wu hn1) ee))))) λg2 h=>rtK h (gg g1 (gg g2 ee))
theorem Zk3 {x0:Int} {r:ByteArray} (h:Zef x0=some r):Z5 Tryz.prog Mo (Zpz x0 r):=
 Yj Tryz.func13 (itK h (λg1 h=>rtK h (gg g1 ee)) λg1 h=>Zv [] 13 (gg g1 ee) (Z03 h))
abbrev Zgg (x0:Zj) (r:ByteArray):Y:=(58,[.agg (Zj.enc x0)],ss r,[.undef])
theorem Zsv {x0:Zj} {r:ByteArray}:∀{m:Nat} {v0:ByteArray} {v1:Int},Ko x0 m v0 v1=some r->CS (Zgg x0 r) Tryz.f58 [1,1,1,1,1,1,0,1,0] [(1,.ptr (1,1) 0 0),(3,ss v0),(4,il v1)] [bx 1 (Zj.enc x0)]:=by
 intro m
 induction m with
 | zero=>intro v0 v1 h;cases h
 | succ m ih=>exactλ{v0} {v1} h=>itK h (λg1 h=>bnK h λn0 K2 h=>bnK h λa0 Y2 h=>bnK h λr0 Ya h=>bnK h λn1 hn1 h=>Zv [((1,1),(1,1))] 11 (lr Ze x0.data_ (gg g1 (tp (.obl) (ob (Wu K2) (xb Ze Y2 (rr (Zk3 Ya) (tp (.obl) (ob (Wu hn1) ee)))))))) (ih h)) λg1 h=>rtK h (lr Ze x0.data_ (gg g1 ee))
theorem Zjd {x0:Zj} {r:ByteArray} {v0:ByteArray} (h:Zbw x0 v0=some r):CS (Zgg x0 r) Tryz.f58 [1,1,1,1,1,1] [(1,.ptr (1,1) 0 0),(3,ss v0)] [bx 1 (Zj.enc x0)]:=
 Zv [((1,1),(1,1))] 4 ee (Zsv h)
theorem Zjg {x0:Zj} {r:ByteArray} {v0:ByteArray} (h:Jp x0 v0=some r):CS (Zgg x0 r) Tryz.f58 [1,1,1,1] [(1,.ptr (1,1) 0 0),(3,ss v0)] [bx 1 (Zj.enc x0)]:=
 bnK h λn2 hn2 h=>bnK h λa1 K3 h=>bnK h λn3 hn3 h=>bnK h λn4 hn4 h=>bnK h λa2 ha2 h=>bnK h λn5 hn5 h=>bnK h λn6 hn6 h=>bnK h λr1 X6 h=>bnK h λn7 hn7 h=>have p1 {q p} (k:Scr q p):=(tp (.obl) (ob (Wu hn2) (xd Zh K3 (tp (.obl) (tp (.obl) (ob (Wu hn3) (ob (Wu hn4) (xd Zh ha2 (tp (.obl) (tp (.obl) (ob (Wu hn5) (ob (Wu hn6) (rr (Zk3 X6) (tp (.obl) (ob (Wu hn7) k)))))))))))))));itK h (λg1 h=>bnK h λn8 hn8 h=>Zv [((1,1),(1,1))] 7 (p1 (gg g1 (tp (.obl) (ob (Wu hn8) ee)))) (Zjd h)) λg1 h=>Zv [((1,1),(1,1))] 7 (p1 (gg g1 ee)) (Zjd h)
theorem Zq3 {x0:Zj} {r:ByteArray} (h:Zbh x0=some r):Z5 Tryz.prog Mo (Zgg x0 r):=
 Yj Tryz.func58 (bnK h λr2 Xq h=>itK h (λg1 h=>rtK h (rr (Zn0 Xq) (gg g1 ee))) λg1 h=>itK h (λg2 h=>Zv [((1,1),(1,0))] 14 (rr (Zn0 Xq) (gg g1 (gg g2 ee))) (Zjg h)) λg2 h=>Zv [((1,1),(1,0))] 14 (rr (Zn0 Xq) (gg g1 (gg g2 ee))) (Zjg h))
abbrev Zgk (x0:ByteArray) (r:Zj×Bool):Y:=(25,[ss x0],.tup [.agg [bl r.1.write,il r.1.addr,il r.1.size,il r.1.burst,bl r.1.lock,.own 3 (r.1.data_.map Ze)],bl r.2],[.undef])
theorem Zsg {x0:ByteArray} {r:Zj×Bool}:∀{m:Nat} {vb0:Zj} {v0:List ByteArray} {v1:Int},Xx x0 m vb0 v0 v1=some r->CS (Zgk x0 r) Tryz.f25 [1,1,1,1,1,1,1,0,1,0] [(0,ss x0),(2,.ptr (1,1) 0 0),(4,.tr (v0.map Zh)),(5,.ptr (1,3) 0 0),(6,il v1)] [rx 2 3 ([].map Ze),bx 1 [bl false,il 0,il 0,il 0,bl false,.sl (1,2) 0 ([].map Ze).length],rx 4 3 (vb0.data_.map Ze),bx 3 [bl vb0.write,il vb0.addr,il vb0.size,il vb0.burst,bl vb0.lock,.sl (1,4) 0 (vb0.data_.map Ze).length]]:=by
 intro m
 induction m with
 | zero=>intro vb0 v0 v1 h;cases h
 | succ m ih=>exactλ{vb0} {v0} {v1} h=>itK h (λg1 h=>bnK h λa0 Y2 h=>bnK h λr0 Ya h=>bnK h λz0 hz0 h=>Zv (ffi 1 3++[((1,4),(3,8192))]) 11 (lr Zh v0 (gg g1 (xb Zh Y2 (rr (Zn9 Ya) (ta Ze [r0] z0 (kk 1 (oa 1 Zh3 r0 (ox Ze hz0 (oe Ze z0 (ln Ze [] (ln Ze z0 ee))))))))))) (ih h)) λg1 h=>bnK h λr1 X6 h=>have p1 {q p} (k:Scr q p):=(lr Zh v0 (gg g1 (kk 1 (oe Ze vb0.data_ (rr (Zq3 X6) k)))));itK h (λg2 h=>rtK h (p1 (gg g2 ee))) λg2 h=>rtK h (p1 (gg g2 (kk 1 (oe Ze vb0.data_ ee))))
theorem Zjn {x0:ByteArray} {r:Zj×Bool} {vb0:Zj} {v0:List ByteArray} (h:Kr x0 vb0 v0=some r):CS (Zgk x0 r) Tryz.f25 [1,1,1,1,1,1,1] [(0,ss x0),(2,.ptr (1,1) 0 0),(4,.tr (v0.map Zh)),(5,.ptr (1,3) 0 0)] [rx 2 3 ([].map Ze),bx 1 [bl false,il 0,il 0,il 0,bl false,.sl (1,2) 0 ([].map Ze).length],rx 4 3 (vb0.data_.map Ze),bx 3 [bl vb0.write,il vb0.addr,il vb0.size,il vb0.burst,bl vb0.lock,.sl (1,4) 0 (vb0.data_.map Ze).length]]:=
 Zv (ffi 1 4) 4 (ln Ze [] (ln Ze vb0.data_ ee)) (Zsg h)
theorem Zjk {x0:ByteArray} {r:Zj×Bool} {vb0:Zj} {v0:List ByteArray} {v2:Bool} (h:Wy x0 vb0 v0 v2=some r):CS (Zgk x0 r) Tryz.f25 [1,1,1,1,1,1,0,1] [(0,ss x0),(2,.ptr (1,1) 0 0),(4,.tr (v0.map Zh)),(5,.ptr (1,3) 0 0),(43,bl v2)] [rx 2 3 ([].map Ze),bx 1 [bl false,il 0,il 0,il 0,bl false,.sl (1,2) 0 ([].map Ze).length],rx 4 3 (vb0.data_.map Ze),bx 3 [bl vb0.write,il vb0.addr,il vb0.size,il vb0.burst,bl vb0.lock,.sl (1,4) 0 (vb0.data_.map Ze).length]]:=
 itK h (λg1 h=>bnK h λs0 hs0 h=>Zv (ffi 1 4) 4 (gg g1 (tp (.num (1:Int).toNat ((v0.length:Int):Int).toNat 0 (s0.map Zh)) (ob (sln hs0).1 (ob (Zmm Zh v0) (ob (sll Zh hs0) (ob (alr 1 Wv v0) (ob (slr Zh hs0) (ln Ze [] (ln Ze vb0.data_ ee))))))))) (Zjn h)) λg1 h=>Zv (ffi 1 4) 2 (gg g1 (ln Ze [] (ln Ze vb0.data_ ee))) (Zjn h)
theorem Z01 {x0:ByteArray} {r:Zj×Bool} (h:Zbf x0=some r):Z5 Tryz.prog Mo (Zgk x0 r):=
 Yj Tryz.func25 (bnK h λr2 Xq h=>have p1 {q p} (k:Scr q p):=(rr (Zov Xq) (lr Zh r2 k));itK h (λg1 h=>rtK h (p1 (gg g1 ee))) λg1 h=>bnK h λa1 K3 h=>bnK h λa2 ha2 h=>bnK h λr3 hr3 h=>bnK h λa3 ha3 h=>bnK h λr4 hr4 h=>bnK h λa4 ha4 h=>bnK h λr5 hr5 h=>bnK h λs1 Jh h=>have p2 {q p} (k:Scr q p):=(p1 (gg g1 (xb Zh K3 (xb Zh ha2 (kk 1 (ob (show 3=([(Zd [98,121,116,101]),(Zd [104,97,108,102]),(Zd [119,111,114,100])].map Zh).length from rfl) (rr (Zsk hr3) (xb Zh ha3 (kk 1 (ob (show 4=([(Zd [111,110,101]),(Zd [102,111,117,114]),(Zd [119,114,97,112]),(Zd [101,105,103,104,116])].map Zh).length from rfl) (rr (Zsk hr4) (xb Zh ha4 (rr (Zn9 hr5) (tp (.num (4:Int).toNat ((r2.length:Int):Int).toNat 0 (s1.map Zh)) (ob (sln Jh).1 (ob (Zmm Zh r2) (ob (sll Zh Jh) (ob (alr 1 Wv r2) (ob (slr Zh Jh) (lr Zh s1 k))))))))))))))))))));itK h (λg2 h=>bnK h λa5 ha5 h=>Zv [((1,1),(1,0)),((1,3),(4,15360))] 18 (p2 (gg g2 (kk 1 (xb Zh ha5 (kk 3 ee))))) (Zjk h)) λg2 h=>Zv [((1,1),(1,0)),((1,3),(4,15360))] 18 (p2 (gg g2 (kk 4 ee))) (Zjk h))
abbrev Zq2 (x0:ByteArray) (x1:List Int) (r:ByteArray):Y:=(63,[ss x0,.tr (x1.map Ze)],ss r,[.undef,.undef])
theorem Zst {x0:ByteArray} {x1:List Int} {r:ByteArray}:∀{m:Nat} {v0:ByteArray} {v1:Int},Jx x0 x1 m v0 v1=some r->CS (Zq2 x0 x1 r) Tryz.f63 [1,1,1,0,1,0] [(1,.tr (x1.map Ze)),(5,ss v0),(6,il v1)] []:=by
 intro m
 induction m with
 | zero=>intro v0 v1 h;cases h
 | succ m ih=>exactλ{v0} {v1} h=>itK h (λg1 h=>bnK h λn0 K2 h=>bnK h λa0 Y2 h=>bnK h λr0 Ya h=>bnK h λn1 hn1 h=>Zv [] 11 (lr Ze x1 (gg g1 (tp (.obl) (ob (Wu K2) (xb Ze Y2 (rr (Zk3 Ya) (tp (.obl) (ob (Wu hn1) ee)))))))) (ih h)) λg1 h=>bnK h λn2 hn2 h=>rtK h (lr Ze x1 (gg g1 (tp (.obl) (ob (Wu hn2) ee))))
theorem Zqn {x0:ByteArray} {x1:List Int} {r:ByteArray} (h:Zdl x0 x1=some r):Z5 Tryz.prog Mo (Zq2 x0 x1 r):=
 Yj Tryz.func63 (itK h (λg1 h=>rtK h (lr Ze x1 (gg g1 ee))) λg1 h=>Zv [] 13 (lr Ze x1 (gg g1 ee)) (Zst h))
abbrev Zli (x0:Za) (r:ByteArray):Y:=(26,[.agg (Za.enc x0)],ss r,[.undef])
theorem Zo4 {x0:Za} {r:ByteArray}:∀{m:Nat} {v0:ByteArray} {v1:Int},Kb x0 m v0 v1=some r->CS (Zli x0 r) Tryz.f26 [1,1,0,1,0] [(1,.ptr (1,1) 0 0),(3,ss v0),(4,il v1)] [bx 1 (Za.enc x0)]:=by
 intro m
 induction m with
 | zero=>intro v0 v1 h;cases h
 | succ m ih=>exactλ{v0} {v1} h=>itK h (λg1 h=>bnK h λa0 Y2 h=>bnK h λr0 Ya h=>have p1 {q p} (k:Scr q p):=(lr Zf.enc x0.posts (gg g1 (xb Zf.enc Y2 (rr (Zq3 Ya) k))));itK h (λg2 h=>rtK h (p1 (gg g2 ee))) λg2 h=>bnK h λn0 K2 h=>bnK h λr1 X6 h=>bnK h λn1 hn1 h=>bnK h λn2 hn2 h=>bnK h λr2 Xq h=>bnK h λn3 hn3 h=>bnK h λn4 hn4 h=>bnK h λn5 hn5 h=>bnK h λn6 hn6 h=>Zv [((1,1),(1,1))] 18 (p1 (gg g2 (tp (.obl) (ob (Wu K2) (xb Zf.enc Y2 (rr (Zk3 X6) (tp (.obl) (tp (.obl) (ob (Wu hn1) (ob (Wu hn2) (xb Zf.enc Y2 (rr (Zk3 Xq) (tp (.obl) (tp (.obl) (tp (.obl) (tp (.obl) (ob (Wu hn3) (ob (Wu hn4) (ob (Wu hn5) (ob (Wu hn6) ee)))))))))))))))))))) (ih h)) λg1 h=>rtK h (lr Zf.enc x0.posts (gg g1 ee))
theorem Zuy {x0:Za} {r:ByteArray} (h:Zc1 x0=some r):Z5 Tryz.prog Mo (Zli x0 r):=
 Yj Tryz.func26 (bnK h λr3 hr3 h=>bnK h λr4 hr4 h=>bnK h λn7 hn7 h=>Zv [((1,1),(1,0))] 8 (rr (Zqn hr3) (rr (Zqn hr4) (tp (.obl) (ob (Wu hn7) ee)))) (Zo4 h))
abbrev Zal (x0:ByteArray) (r:Za×Bool):Y:=(7,[ss x0],.tup [.agg (Za.ow r.1),bl r.2],[.undef])
theorem Znu {x0:ByteArray} {r:Za×Bool}:∀{m:Nat} {vb0:Za} {v0:List ByteArray} {v1:Int},Wf x0 m vb0 v0 v1=some r->CS (Zal x0 r) Tryz.f7 [1,1,1,0,1,0] [(0,ss x0),(2,.ptr (1,1) 0 0),(4,.ptr (1,5) 0 0),(5,.tr (v0.map Zh)),(6,il v1)] (Za.bk Za.z0 2++[bx 1 (Za.rl Za.z0 2)]++Za.bk vb0 6++[bx 5 (Za.rl vb0 6)]):=by
 intro m
 induction m with
 | zero=>intro vb0 v0 v1 h;cases h
 | succ m ih=>exactλ{vb0} {v0} {v1} h=>itK h (λg1 h=>bnK h λa0 Y2 h=>bnK h λr0 Ya h=>bnK h λa1 K3 h=>have p1 {q p} (k:Scr q p):=(lr Zh v0 (gg g1 (xb Zh Y2 (rr (Zov Ya) (xb Zh K3 k)))));itK h (λg2 h=>bnK h λs0 hs0 h=>bnK h λr1 X6 h=>Zv (ffi 1 6++[((1,7),(5,2048)),((1,8),(1,8))]) 18 (p1 (gg g2 (tp (.num (1:Int).toNat ((r0.length:Int):Int).toNat 0 (s0.map Zh)) (ob (sln hs0).1 (ob (Zmm Zh r0) (ob (sll Zh hs0) (ob (alr 1 Wv r0) (ob (slr Zh hs0) (rr (Zkk X6) (Za.sc Za.z0 (Za.sc {vb0 with waits:=r1} ee))))))))))) (ih h)) λg2 h=>itK h (λg3 h=>bnK h λs1 Jh h=>bnK h λr2 Xq h=>Zv (ffi 1 7++[((1,8),(6,2048))]) 21 (p1 (gg g2 (xb Zh K3 (gg g3 (tp (.num (1:Int).toNat ((r0.length:Int):Int).toNat 0 (s1.map Zh)) (ob (sln Jh).1 (ob (Zmm Zh r0) (ob (sll Zh Jh) (ob (alr 1 Wv r0) (ob (slr Zh Jh) (rr (Zkk Xq) (Za.sc Za.z0 (Za.sc {vb0 with says:=r2} ee))))))))))))) (ih h)) λg3 h=>itK h (λg4 h=>bnK h λs2 hs2 h=>bnK h λr3 hr3 h=>bnK h λa2 ha2 h=>bnK h λa3 ha3 h=>bnK h λs3 hs3 h=>bnK h λr4 hr4 h=>bnK h λa4 ha4 h=>bnK h λa5 ha5 h=>bnK h λz0 hz0 h=>Zv (ffi 1 5++[((1,6),(9,11264)),((1,7),(1,7)),((1,8),(1,8))]) 28 (p1 (gg g2 (xb Zh K3 (gg g3 (lr Zh r0 (gg g4 (tp (.num (1:Int).toNat (3:Int).toNat 0 (s2.map Zh)) (ob (sln hs2).1 (ob (sln hs2).2 (ob (sll Zh hs2) (ob (alr 1 Wv r0) (ob (slr Zh hs2) (rr (Zkk hr3) (xb Zh Y2 (xb Zh Y2 (xb Zh K3 (xb Zh ha2 (xb Zh ha3 (tp (.val (.lit (.string s3))) (ob (ssxh hs3) (rr (Z01 hr4) (xd Ze ha4 (xd Ze ha5 (kk 1 (ta Zf.enc [(Zf.mk a4 a5 r4.1)] z0 (kk 1 (oe Ze r4.1.data_ (oa 8 Zf.enc_len (Zf.mk a4 a5 r4.1) (ox Zf.enc hz0 (oe Zf.enc z0 (Za.sc Za.z0 (Za.sc {vb0 with posts:=z0} ee)))))))))))))))))))))))))))))))) (ih h)) λg4 h=>Zv (ffi 1 8) 24 (p1 (gg g2 (xb Zh K3 (gg g3 (lr Zh r0 (gg g4 (Za.sc Za.z0 (Za.sc vb0 ee)))))))) (ih h)) λg1 h=>bnK h λr5 hr5 h=>have p2 {q p} (k:Scr q p):=(lr Zh v0 (gg g1 (kk 3 (Za.so vb0 (rr (Zuy hr5) k)))));itK h (λg2 h=>rtK h (p2 (gg g2 ee))) λg2 h=>rtK h (p2 (gg g2 (kk 3 (Za.so vb0 ee))))
theorem Zui {x0:ByteArray} {r:Za×Bool} (h:Q0 x0=some r):Z5 Tryz.prog Mo (Zal x0 r):=
 Yj Tryz.func7 (bnK h λr6 hr6 h=>Zv [((1,1),(1,0)),((1,5),(2,1024))] 10 (rr (Zov hr6) ee) (Znu h))
abbrev Zqo (x0:List ByteArray) (r:List Int×Bool):Y:=(29,[.tr (x0.map Zh)],.tup [.own 3 (r.1.map Ze),bl r.2],[.undef])
theorem Ztd {x0:List ByteArray} {r:List Int×Bool}:∀{m:Nat} {v0:List Int} {v1:Int},Kl x0 m v0 v1=some r->CS (Zqo x0 r) Tryz.f29 [1,1,0,1,0] [(4,.sl (1,1) 0 (v0.map Ze).length),(10,.tr (x0.map Zh)),(11,il (x0.length:Int)),(12,il v1)] [rx 1 3 (v0.map Ze)]:=by
 intro m
 induction m with
 | zero=>intro v0 v1 h;cases h
 | succ m ih=>exactλ{v0} {v1} h=>itK h (λg1 h=>bnK h λa0 Y2 h=>bnK h λr0 Ya h=>itK h (λg2 h=>rtK h (gg g1 (xb Zh Y2 (rr (Zl4 Ya) (gg g2 ee))))) λg2 h=>bnK h λz0 hz0 h=>Zv [((1,1),(6,3072))] 20 (gg g1 (xb Zh Y2 (rr (Zl4 Ya) (gg g2 (ta Ze [r0.1] z0 (kk 1 (oa 1 Zh3 r0.1 (ox Ze hz0 (ln Ze z0 (oe Ze z0 ee)))))))))) (ih h)) λg1 h=>rtK h (gg g1 (kk 1 (oe Ze v0 ee)))
theorem Zkn {x0:List ByteArray} {r:List Int×Bool} (h:J6 x0=some r):Z5 Tryz.prog Mo (Zqo x0 r):=
 Yj Tryz.func29 (Zv [((1,1),(2,0))] 8 (lr Zh x0 (tp (.num ([].map Ze).length 0 0 []) (ob (show 0=([].map Ze).length from rfl) ee))) (Ztd h))
abbrev Zwq  (r:List ByteArray):Y:=(68,[],.own 9 (r.map Zh),[])
theorem Zm7  {r:List ByteArray} (h:Jl  = some r):Z5 Tryz.prog Mo (Zwq  r):=
 Yj Tryz.func68 (rtK h (kk 1 (ob (show 3=([(Zd [98,121,116,101]),(Zd [104,97,108,102]),(Zd [119,111,114,100])].map Zh).length from rfl) ee)))
abbrev Zag (x0:List ByteArray) (x1:ByteArray) (r:Int):Y:=(67,[.tr (x0.map Zh),ss x1],il r,[.undef,.undef])
theorem Zd4 {x0:List ByteArray} {x1:ByteArray} {r:Int}:∀{m:Nat} {v0:Int},Yz x0 x1 m v0=some r->CS (Zag x0 x1 r) Tryz.f67 [1,0,1,0] [(0,.tr (x0.map Zh)),(1,ss x1),(7,il (x0.length:Int)),(8,il v0)] []:=by
 intro m
 induction m with
 | zero=>intro v0 h;cases h
 | succ m ih=>exactλ{v0} h=>itK h (λg1 h=>bnK h λa0 Y2 h=>itK h (λg2 h=>rtK h (gg g1 (xb Zh Y2 (gg g2 ee)))) λg2 h=>Zv [] 16 (gg g1 (xb Zh Y2 (gg g2 ee))) (ih h)) λg1 h=>rtK h (gg g1 ee)
theorem Zah {x0:List ByteArray} {x1:ByteArray} {r:Int} (h:Ym x0 x1=some r):Z5 Tryz.prog Mo (Zag x0 x1 r):=
 Yj Tryz.func67 (Zv [] 6 (lr Zh x0 ee) (Zd4 h))
abbrev Zud  (r:List ByteArray):Y:=(69,[],.own 9 (r.map Zh),[])
theorem Zky  {r:List ByteArray} (h:Jb  = some r):Z5 Tryz.prog Mo (Zud  r):=
 Yj Tryz.func69 (rtK h (kk 1 (ob (show 4=([(Zd [111,110,101]),(Zd [102,111,117,114]),(Zd [119,114,97,112]),(Zd [101,105,103,104,116])].map Zh).length from rfl) ee)))
abbrev Z4c (x0:Int) (x1:Int) (x2:Int) (r:Bool):Y:=(180,[il x0,il x1,il x2],bl r,[.undef,.undef,.undef])
theorem Jv {x0:Int} {x1:Int} {x2:Int} {r:Bool} (h:Zaz x0 x1 x2=some r):Z5 Tryz.prog Mo (Z4c x0 x1 x2 r):=
 Yj Tryz.func180 (itK h (λg1 h=>rtK h (gg g1 (kk 3 ee))) λg1 h=>rtK h (gg g1 (kk 3 ee)))
abbrev Z0y (x0:Int) (r:Int):Y:=(119,[il x0],il r,[.undef])
theorem Zkh {x0:Int} {r:Int} (h:Zbk x0=some r):Z5 Tryz.prog Mo (Z0y x0 r):=
 Yj Tryz.func119 (bnK h λr0 Ya h=>itK h (λg1 h=>rtK h (rr (Jv Ya) (gg g1 ee))) λg1 h=>bnK h λa0 Y2 h=>rtK h (rr (Jv Ya) (gg g1 (xd Ze Y2 ee))))
abbrev Z02 (x0:Int) (r:Int):Y:=(230,[il x0],il r,[.undef])
theorem Zbj {x0:Int} {r:Int} (h:K5 x0=some r):Z5 Tryz.prog Mo (Z02 x0 r):=
 Yj Tryz.func230 (bnK h λr0 Ya h=>itK h (λg1 h=>rtK h (rr (Jv Ya) (gg g1 ee))) λg1 h=>bnK h λn0 K2 h=>rtK h (rr (Jv Ya) (gg g1 (tp (.obl) (ob (nn0 K2) ee)))))
abbrev Z1w (x0:Int) (x1:Int) (r:Bool):Y:=(265,[il x0,il x1],bl r,[.undef,.undef])
theorem Zkg {x0:Int} {x1:Int} {r:Bool} (h:Zf9 x0 x1=some r):Z5 Tryz.prog Mo (Z1w x0 x1 r):=
 Yj Tryz.func265 (bnK h λr0 Ya h=>itK h (λg1 h=>itK h (λg2 h=>bnK h λr1 X6 h=>bnK h λn0 K2 h=>rtK h (rr (Jv Ya) (gg g1 (kk 2 (gg g2 (kk 2 (rr (Zbj X6) (kk 1 (tp (.obl) (kk 2 (ob (nz0 K2) ee))))))))))) λg2 h=>rtK h (rr (Jv Ya) (gg g1 (kk 2 (gg g2 (kk 5 ee)))))) λg1 h=>rtK h (rr (Jv Ya) (gg g1 (kk 8 ee))))
abbrev Zor (x0:Int) (x1:Int) (x2:Int) (r:Int):Y:=(229,[il x0,il x1,il x2],il r,[.undef,.undef,.undef])
theorem Zd3 {x0:Int} {x1:Int} {x2:Int} {r:Int} {v0:Bool} (h:Jf x0 x1 x2 v0=some r):CS (Zor x0 x1 x2 r) Tryz.f229 [1,0,1] [(0,il x0),(1,il x1),(2,il x2),(21,bl v0)] []:=
 itK h (λg1 h=>rtK h (gg g1 ee)) λg1 h=>bnK h λr0 Ya h=>bnK h λr1 X6 h=>have p1 {q p} (k:Scr q p):=(gg g1 (rr (Zbj Ya) (rr (Zbj X6) k)));itK h (λg2 h=>bnK h λn0 K2 h=>itK h (λg3 h=>rtK h (p1 (gg g2 (kk 2 (tp (.obl) (kk 2 (ob (nz0 K2) (gg g3 ee)))))))) λg3 h=>rtK h (p1 (gg g2 (kk 2 (tp (.obl) (kk 2 (ob (nz0 K2) (gg g3 ee)))))))) λg2 h=>rtK h (p1 (gg g2 (kk 5 ee)))
theorem Zod {x0:Int} {x1:Int} {x2:Int} {r:Int} (h:Zfb x0 x1 x2=some r):Z5 Tryz.prog Mo (Zor x0 x1 x2 r):=
 Yj Tryz.func229 (bnK h λr2 Xq h=>itK h (λg1 h=>Zv [] 5 (rr (Zkg Xq) (gg g1 (kk 6 ee))) (Zd3 h)) λg1 h=>itK h (λg2 h=>Zv [] 5 (rr (Zkg Xq) (gg g1 (kk 2 (gg g2 (kk 3 ee))))) (Zd3 h)) λg2 h=>bnK h λr3 hr3 h=>Zv [] 5 (rr (Zkg Xq) (gg g1 (kk 2 (gg g2 (kk 1 (rr (Zkh hr3) (kk 2 ee))))))) (Zd3 h))
abbrev Zlh (x0:Int) (x1:Int) (x2:Int) (r:List Int):Y:=(181,[il x0,il x1,il x2],.own 3 (r.map Ze),[.undef,.undef,.undef])
theorem Zo6 {x0:Int} {x1:Int} {x2:Int} {r:List Int}:∀{m:Nat} {v0:Int} {v1:List Int} {v2:Int} {v3:Int},Jr x0 x1 x2 m v0 v1 v2 v3=some r->CS (Zlh x0 x1 x2 r) Tryz.f181 [1,1,0,1,0] [(0,il v0),(1,il x1),(2,il x2),(7,.sl (1,1) 0 (v1.map Ze).length),(11,il v2),(12,il v3)] [rx 1 3 (v1.map Ze)]:=by
 intro m
 induction m with
 | zero=>intro v0 v1 v2 v3 h;cases h
 | succ m ih=>exactλ{v0} {v1} {v2} {v3} h=>itK h (λg1 h=>bnK h λr0 Ya h=>itK h (λg2 h=>rtK h (gg g1 (rr (Zod Ya) (gg g2 ee)))) λg2 h=>bnK h λz0 hz0 h=>Zv [((1,1),(5,3072))] 20 (gg g1 (rr (Zod Ya) (gg g2 (ta Ze [v0] z0 (kk 1 (oa 1 Zh3 v0 (ox Ze hz0 (ln Ze z0 (oe Ze z0 ee))))))))) (ih h)) λg1 h=>rtK h (gg g1 (kk 1 (oe Ze v1 ee)))
theorem Zuh {x0:Int} {x1:Int} {x2:Int} {r:List Int} (h:Zda x0 x1 x2=some r):Z5 Tryz.prog Mo (Zlh x0 x1 x2 r):=
 Yj Tryz.func181 (bnK h λr1 X6 h=>Zv [((1,1),(2,0))] 8 (rr (Zkh X6) (tp (.num ([].map Ze).length 0 0 []) (ob (show 0=([].map Ze).length from rfl) ee))) (Zo6 h))
abbrev Zqj (x0:Int) (x1:Int) (x2:Int) (r:Bool):Y:=(120,[il x0,il x1,il x2],bl r,[.undef,.undef,.undef])
theorem Zte {x0:Int} {x1:Int} {x2:Int} {r:Bool}:∀{m:Nat} {v0:List Int} {v1:Int} {v2:Int},Zbx x0 x1 x2 m v0 v1 v2=some r->CS (Zqj x0 x1 x2 r) Tryz.f120 [1,1,0,1,0] [(7,.sl (1,1) 0 (v0.map Ze).length),(14,.sl (1,1) 0 (v0.map Ze).length),(15,il v1),(16,il v2)] [rx 1 3 (v0.map Ze)]:=by
 intro m
 induction m with
 | zero=>intro v0 v1 v2 h;cases h
 | succ m ih=>exactλ{v0} {v1} {v2} h=>itK h (λg1 h=>bnK h λa0 Y2 h=>bnK h λa1 K3 h=>itK h (λg2 h=>rtK h (gg g1 (xd Ze Y2 (kk 1 (xd Ze K3 (kk 1 (gg g2 ee))))))) λg2 h=>Zv [((1,1),(1,1))] 16 (gg g1 (xd Ze Y2 (kk 1 (xd Ze K3 (kk 1 (gg g2 (ln Ze v0 (ln Ze v0 ee)))))))) (ih h)) λg1 h=>rtK h (gg g1 (lr Ze v0 ee))
theorem Zkp {x0:Int} {x1:Int} {x2:Int} {r:Bool} (h:Zgb x0 x1 x2=some r):Z5 Tryz.prog Mo (Zqj x0 x1 x2 r):=
 Yj Tryz.func120 (bnK h λr0 Ya h=>Zv [((1,1),(2,3072))] 8 (rr (Zuh Ya) (lr Ze r0 (ln Ze r0 (ln Ze r0 ee)))) (Zte h))
abbrev Z08 (x0:Int) (r:Int):Y:=(183,[il x0],il r,[.undef])
theorem Z0n {x0:Int} {r:Int} (h:Zf6 x0=some r):Z5 Tryz.prog Mo (Z08 x0 r):=
 Yj Tryz.func183 (bnK h λr0 Ya h=>itK h (λg1 h=>rtK h (rr (Zbj Ya) (gg g1 ee))) λg1 h=>bnK h λr1 X6 h=>bnK h λn0 K2 h=>rtK h (rr (Zbj Ya) (gg g1 (rr (Zbj X6) (tp (.obl) (ob (nn0 K2) ee))))))
abbrev Z5j (x0:Int) (x1:Int) (r:Bool):Y:=(123,[il x0,il x1],bl r,[.undef,.undef])
theorem Z5i {x0:Int} {x1:Int} {r:Bool} (h:Zi5 x0 x1=some r):Z5 Tryz.prog Mo (Z5j x0 x1 r):=
 Yj Tryz.func123 (bnK h λr0 Ya h=>bnK h λr1 X6 h=>rtK h (rr (Z0n Ya) (rr (Jv X6) ee)))
abbrev Z1t (x0:Int) (x1:Zj) (r:Bool):Y:=(122,[il x0,.rp true (Zj.enc x1) 0],bl r,[.undef,.undef])
theorem Zqi {x0:Int} {x1:Zj} {r:Bool} (h:Zf5 x0 x1=some r):Z5 Tryz.prog Mo (Z1t x0 x1 r):=
 Yj Tryz.func122 (bnK h λr0 Ya h=>rtK h (rr (Z5i Ya) ee))
abbrev Q2 (x0:List Int) (x1c0:Zj) (r:Int):Y:=(182,[.tr (x0.map Ze),.fn 122 [.rp true (Zj.enc x1c0) 0]],il r,[.undef,.undef])
theorem Zaq {x0:List Int} {x1c0:Zj} {r:Int}:∀{m:Nat} {v0:Int},Xz x0 x1c0 m v0=some r->CS (Q2 x0 x1c0 r) Tryz.f182 [1,0,1,0] [(0,.tr (x0.map Ze)),(1,.fn 122 [.rp true (Zj.enc x1c0) 0]),(7,il (x0.length:Int)),(8,il v0)] []:=by
 intro m
 induction m with
 | zero=>intro v0 h;cases h
 | succ m ih=>exactλ{v0} h=>itK h (λg1 h=>bnK h λa0 Y2 h=>bnK h λr0 Ya h=>itK h (λg2 h=>rtK h (gg g1 (xb Ze Y2 (rr (Zqi Ya) (gg g2 ee))))) λg2 h=>Zv [] 16 (gg g1 (xb Ze Y2 (rr (Zqi Ya) (gg g2 ee)))) (ih h)) λg1 h=>rtK h (gg g1 ee)
theorem Zb7 {x0:List Int} {x1c0:Zj} {r:Int} (h:We x0 x1c0=some r):Z5 Tryz.prog Mo (Q2 x0 x1c0 r):=
 Yj Tryz.func182 (Zv [] 6 (lr Ze x0 ee) (Zaq h))
abbrev Za1 (x0:List Int) (x1c0:Zj) (r:Bool):Y:=(121,[.tr (x0.map Ze),.fn 122 [.rp true (Zj.enc x1c0) 0]],bl r,[.undef,.undef])
theorem Zav {x0:List Int} {x1c0:Zj} {r:Bool} (h:Xc x0 x1c0=some r):Z5 Tryz.prog Mo (Za1 x0 x1c0 r):=
 Yj Tryz.func121 (bnK h λr0 Ya h=>rtK h (rr (Zb7 Ya) ee))
abbrev Zvi (x0:Zj) (r:Bool):Y:=(70,[.agg (Zj.enc x0)],bl r,[.undef])
theorem Zm9 {x0:Zj} {r:Bool} {v0:Int} (h:Zdy x0 v0=some r):CS (Zvi x0 r) Tryz.f70 [1,1,1] [(1,.ptr (1,1) 0 0),(3,il v0)] [bx 1 (Zj.enc x0)]:=
 bnK h λr0 Ya h=>itK h (λg1 h=>itK h (λg2 h=>bnK h λr1 X6 h=>rtK h (rr (Zkp Ya) (gg g1 (kk 2 (lr Ze x0.data_ (kk 3 (gg g2 (kk 3 (rr (Zav X6) (kk 2 ee)))))))))) λg2 h=>rtK h (rr (Zkp Ya) (gg g1 (kk 2 (lr Ze x0.data_ (kk 3 (gg g2 (kk 5 ee)))))))) λg1 h=>rtK h (rr (Zkp Ya) (gg g1 (kk 11 ee)))
theorem Zn6 {x0:Zj} {r:Bool} (h:Zeg x0=some r):Z5 Tryz.prog Mo (Zvi x0 r):=
 Yj Tryz.func70 (itK h (λg1 h=>bnK h λr2 Xq h=>Zv [((1,1),(1,0))] 9 (gg g1 (rr (Zkh Xq) ee)) (Zm9 h)) λg1 h=>Zv [((1,1),(1,0))] 9 (gg g1 ee) (Zm9 h))
abbrev Zww (x0:Bool) (r:ByteArray):Y:=(124,[bl x0],ss r,[.undef])
theorem Zwp {x0:Bool} {r:ByteArray} (h:Zdv x0=some r):Z5 Tryz.prog Mo (Zww x0 r):=
 Yj Tryz.func124 (itK h (λg1 h=>rtK h (gg g1 ee)) λg1 h=>rtK h (gg g1 ee))
abbrev Z98 (x0:Int) (r:ByteArray):Y:=(76,[il x0],ss r,[.undef])
theorem Zpy {x0:Int} {r:ByteArray} (h:Zf0 x0=some r):Z5 Tryz.prog Mo (Z98 x0 r):=
 Yj Tryz.func76 (bnK h λr0 Ya h=>rtK h (rr (Zue Ya) ee))
abbrev Zxt (x0:List Int) (r:List ByteArray):Y:=(125,[.tr (x0.map Ze)],.own 9 (r.map Zh),[.undef])
theorem Zy4 {x0:List Int} {r:List ByteArray}:∀{m:Nat} {v0:List ByteArray} {v1:Int},Zfd x0 m v0 v1=some r->CS (Zxt x0 r) Tryz.f125 [1,1,0,1,0] [(3,.sl (1,1) 0 (v0.map Zh).length),(7,.tr (x0.map Ze)),(8,il (x0.length:Int)),(9,il v1)] [rx 1 9 (v0.map Zh)]:=by
 intro m
 induction m with
 | zero=>intro v0 v1 h;cases h
 | succ m ih=>exactλ{v0} {v1} h=>itK h (λg1 h=>bnK h λa0 Y2 h=>bnK h λr0 Ya h=>bnK h λz0 hz0 h=>Zv [((1,1),(4,4096))] 13 (gg g1 (xb Ze Y2 (rr (Zpy Ya) (ta Zh [r0] z0 (kk 1 (oa 1 Wv r0 (ox Zh hz0 (ln Zh z0 (oe Zh z0 ee))))))))) (ih h)) λg1 h=>rtK h (gg g1 (kk 1 (oe Zh v0 ee)))
theorem Zrq {x0:List Int} {r:List ByteArray} (h:Zfx x0=some r):Z5 Tryz.prog Mo (Zxt x0 r):=
 Yj Tryz.func125 (Zv [((1,1),(2,0))] 8 (lr Ze x0 (tp (.num ([].map Zh).length 0 0 []) (ob (show 0=([].map Zh).length from rfl) ee))) (Zy4 h))
abbrev Z1s (x0:Zj) (r:ByteArray):Y:=(71,[.agg (Zj.enc x0)],ss r,[.undef])
theorem Zga {x0:Zj} {r:ByteArray} (h:Zbi x0=some r):Z5 Tryz.prog Mo (Z1s x0 r):=
 Yj Tryz.func71 (bnK h λr0 Ya h=>itK h (λg1 h=>rtK h (rr (Zn6 Ya) (gg g1 ee))) λg1 h=>bnK h λr1 X6 h=>bnK h λr2 Xq h=>bnK h λa0 Y2 h=>bnK h λr3 hr3 h=>bnK h λa1 K3 h=>bnK h λr4 hr4 h=>have p1 {q p} (k:Scr q p):=(rr (Zn6 Ya) (gg g1 (rr (Zwp X6) (rr (Zm7 Xq) (xd Zh Y2 (rr (Zky hr3) (xd Zh K3 (rr (Zpy hr4) k))))))));itK h (λg2 h=>bnK h λz0 hz0 h=>bnK h λr5 hr5 h=>bnK h λz1 hz1 h=>bnK h λr6 hr6 h=>rtK h (p1 (gg g2 (ta Zh [(Zd [108,111,99,107])] z0 (kk 1 (oa 1 Wv (Zd [108,111,99,107]) (ob (show 4=([r1,a0,a1,r4].map Zh).length from rfl) (ob (apl Zh hz0) (ob (apm Zh hz0) (oe Zh z0 (rr (Zrq hr5) (ta Zh r5 z1 (kk 2 (oe Zh r5 (ob (Eq.refl (r5.map Zh)) (ob (alr 1 Wv r5) (ox Zh hz1 (oe Zh z1 (oe Zh z1 (rr (Zc4 hr6) ee)))))))))))))))))))) λg2 h=>bnK h λr5 hr5 h=>bnK h λz1 hz1 h=>bnK h λr6 hr6 h=>rtK h (p1 (gg g2 (rr (Zrq hr5) (ta Zh r5 z1 (kk 2 (oe Zh r5 (ob (Eq.refl (r5.map Zh)) (ob (alr 1 Wv r5) (ob (show 4=([r1,a0,a1,r4].map Zh).length from rfl) (ob (apl Zh hz1) (ob (apm Zh hz1) (oe Zh z1 (oe Zh z1 (rr (Zc4 hr6) ee)))))))))))))))
abbrev Zkb (x0:ByteArray) (r:Zj×Bool):Y:=(30,[ss x0],.tup [.agg [bl r.1.write,il r.1.addr,il r.1.size,il r.1.burst,bl r.1.lock,.own 3 (r.1.data_.map Ze)],bl r.2],[.undef])
theorem Zjs {x0:ByteArray} {r:Zj×Bool} {vb0:Zj} {v0:List ByteArray} {v1:List ByteArray} (h:Qg x0 vb0 v0 v1=some r):CS (Zkb x0 r) Tryz.f30 [1,1,1,1,1] [(0,ss x0),(2,.ptr (1,1) 0 0),(4,.tr (v0.map Zh)),(5,.ptr (1,3) 0 0),(6,.tr (v1.map Zh))] [rx 2 3 ([].map Ze),bx 1 [bl false,il 0,il 0,il 0,bl false,.sl (1,2) 0 ([].map Ze).length],rx 4 3 (vb0.data_.map Ze),bx 3 [bl vb0.write,il vb0.addr,il vb0.size,il vb0.burst,bl vb0.lock,.sl (1,4) 0 (vb0.data_.map Ze).length]]:=
 bnK h λa0 Y2 h=>bnK h λr0 Ya h=>bnK h λr1 X6 h=>have p1 {q p} (k:Scr q p):=(xb Zh Y2 (rr (Zl4 Ya) (rr (Zkn X6) k)));itK h (λg1 h=>rtK h (p1 (gg g1 (kk 12 ee)))) λg1 h=>itK h (λg2 h=>rtK h (p1 (gg g1 (kk 2 (gg g2 (kk 9 ee)))))) λg2 h=>bnK h λr2 Xq h=>have p2 {q p} (k:Scr q p):=(p1 (gg g1 (kk 2 (gg g2 (kk 2 (oe Ze r1.1 (rr (Zn6 Xq) (kk 2 k))))))));itK h (λg3 h=>rtK h (p2 (gg g3 (kk 5 ee)))) λg3 h=>bnK h λr3 hr3 h=>itK h (λg4 h=>rtK h (p2 (gg g3 (kk 2 (oe Ze r1.1 (rr (Zga hr3) (kk 3 (gg g4 ee)))))))) λg4 h=>rtK h (p2 (gg g3 (kk 2 (oe Ze r1.1 (rr (Zga hr3) (kk 3 (gg g4 (kk 1 (oe Ze r1.1 ee)))))))))
theorem Zju {x0:ByteArray} {r:Zj×Bool} {vb0:Zj} {v0:List ByteArray} {v1:List ByteArray} {v2:Bool} (h:Wx x0 vb0 v0 v1 v2=some r):CS (Zkb x0 r) Tryz.f30 [1,1,1,1,0,1] [(0,ss x0),(2,.ptr (1,1) 0 0),(4,.tr (v0.map Zh)),(5,.ptr (1,3) 0 0),(6,.tr (v1.map Zh)),(42,bl v2)] [rx 2 3 ([].map Ze),bx 1 [bl false,il 0,il 0,il 0,bl false,.sl (1,2) 0 ([].map Ze).length],rx 4 3 (vb0.data_.map Ze),bx 3 [bl vb0.write,il vb0.addr,il vb0.size,il vb0.burst,bl vb0.lock,.sl (1,4) 0 (vb0.data_.map Ze).length]]:=
 itK h (λg1 h=>bnK h λs0 hs0 h=>Zv (ffi 1 4) 2 (gg g1 (tp (.num (1:Int).toNat ((v1.length:Int):Int).toNat 0 (s0.map Zh)) (ob (sln hs0).1 (ob (Zmm Zh v1) (ob (sll Zh hs0) (ob (alr 1 Wv v1) (ob (slr Zh hs0) (ln Ze [] (ln Ze vb0.data_ ee))))))))) (Zjs h)) λg1 h=>Zv (ffi 1 4) 2 (gg g1 (ln Ze [] (ln Ze vb0.data_ ee))) (Zjs h)
theorem Z0o {x0:ByteArray} {r:Zj×Bool} (h:Zbe x0=some r):Z5 Tryz.prog Mo (Zkb x0 r):=
 Yj Tryz.func30 (bnK h λr4 hr4 h=>have p1 {q p} (k:Scr q p):=(rr (Zeu hr4) (lr Zh r4 k));itK h (λg1 h=>rtK h (p1 (gg g1 ee))) λg1 h=>bnK h λa1 K3 h=>bnK h λr5 hr5 h=>bnK h λa2 ha2 h=>bnK h λr6 hr6 h=>bnK h λr7 hr7 h=>bnK h λa3 ha3 h=>bnK h λr8 hr8 h=>bnK h λs1 Jh h=>have p2 {q p} (k:Scr q p):=(p1 (gg g1 (xb Zh K3 (rr (Zm7 hr5) (xb Zh ha2 (kk 1 (oe Zh r5 (rr (Zah hr6) (rr (Zky hr7) (xb Zh ha3 (kk 1 (oe Zh r7 (rr (Zah hr8) (tp (.num (4:Int).toNat ((r4.length:Int):Int).toNat 0 (s1.map Zh)) (ob (sln Jh).1 (ob (Zmm Zh r4) (ob (sll Zh Jh) (ob (alr 1 Wv r4) (ob (slr Zh Jh) (lr Zh s1 k))))))))))))))))))));itK h (λg2 h=>bnK h λa4 ha4 h=>Zv [((1,1),(1,0)),((1,3),(4,17408))] 14 (p2 (gg g2 (kk 1 (xb Zh ha4 (kk 3 ee))))) (Zju h)) λg2 h=>Zv [((1,1),(1,0)),((1,3),(4,17408))] 14 (p2 (gg g2 (kk 4 ee))) (Zju h))
abbrev Zzn (x0:ByteArray) (x1:List Int) (r:ByteArray):Y:=(75,[ss x0,.tr (x1.map Ze)],ss r,[.undef,.undef])
theorem Zn2 {x0:ByteArray} {x1:List Int} {r:ByteArray} (h:Zcs x0 x1=some r):Z5 Tryz.prog Mo (Zzn x0 x1 r):=
 Yj Tryz.func75 (itK h (λg1 h=>rtK h (lr Ze x1 (gg g1 ee))) λg1 h=>bnK h λn0 K2 h=>bnK h λr0 Ya h=>bnK h λr1 X6 h=>bnK h λn1 hn1 h=>bnK h λn2 hn2 h=>rtK h (lr Ze x1 (gg g1 (tp (.obl) (ob (Wu K2) (rr (Zrq Ya) (kk 1 (oe Zh r0 (rr (Zc4 X6) (tp (.obl) (tp (.obl) (ob (Wu hn1) (ob (Wu hn2) ee)))))))))))))
abbrev Zk7 (x0:Za) (r:ByteArray):Y:=(32,[.agg (Za.enc x0)],ss r,[.undef])
theorem Zny {x0:Za} {r:ByteArray}:∀{m:Nat} {v0:ByteArray} {v1:Int},Kc x0 m v0 v1=some r->CS (Zk7 x0 r) Tryz.f32 [1,1,0,1,0] [(3,ss v0),(15,.tr (x0.posts.map Zf.enc)),(16,il (x0.posts.length:Int)),(17,il v1)] []:=by
 intro m
 induction m with
 | zero=>intro v0 v1 h;cases h
 | succ m ih=>exactλ{v0} {v1} h=>itK h (λg1 h=>bnK h λa0 Y2 h=>bnK h λr0 Ya h=>itK h (λg2 h=>rtK h (gg g1 (xb Zf.enc Y2 (rr (Zga Ya) (gg g2 ee))))) λg2 h=>bnK h λr1 X6 h=>bnK h λn0 K2 h=>bnK h λn1 hn1 h=>bnK h λr2 Xq h=>bnK h λn2 hn2 h=>bnK h λn3 hn3 h=>bnK h λn4 hn4 h=>bnK h λn5 hn5 h=>bnK h λn6 hn6 h=>Zv [] 20 (gg g1 (xb Zf.enc Y2 (rr (Zga Ya) (gg g2 (rr (Zpy X6) (tp (.obl) (tp (.obl) (ob (Wu K2) (ob (Wu hn1) (rr (Zpy Xq) (tp (.obl) (tp (.obl) (tp (.obl) (tp (.obl) (tp (.obl) (ob (Wu hn2) (ob (Wu hn3) (ob (Wu hn4) (ob (Wu hn5) (ob (Wu hn6) ee)))))))))))))))))))) (ih h)) λg1 h=>rtK h (gg g1 ee)
theorem Zle {x0:Za} {r:ByteArray} (h:Zdd x0=some r):Z5 Tryz.prog Mo (Zk7 x0 r):=
 Yj Tryz.func32 (bnK h λr3 hr3 h=>bnK h λr4 hr4 h=>bnK h λn7 hn7 h=>Zv [] 8 (rr (Zn2 hr3) (rr (Zn2 hr4) (tp (.obl) (ob (Wu hn7) (lr Zf.enc x0.posts ee))))) (Zny h))
abbrev Y8 (x0:ByteArray) (r:Za×Bool):Y:=(8,[ss x0],.tup [.agg (Za.ow r.1),bl r.2],[.undef])
theorem Zgw {x0:ByteArray} {r:Za×Bool} {k_L1:Za->(List ByteArray)->Int->Int->Option (Za×Bool)} (i_L1:∀{vb0:Za} {v1:List ByteArray} {v2:Int} {v3:Int},k_L1 vb0 v1 v2 v3=some r->CS (Y8 x0 r) Tryz.f8 [1,1,0,1,0] [(0,ss x0),(2,.ptr (1,1) 0 0),(4,.ptr (1,5) 0 0),(17,.tr (v1.map Zh)),(18,il v2),(19,il v3)] (Za.bk Za.z0 2++[bx 1 (Za.rl Za.z0 2)]++Za.bk vb0 6++[bx 5 (Za.rl vb0 6)])) {vb0:Za} {vb1:Zj} {v0:List Int} {v1:List ByteArray} {v2:Int} {v3:Int} {v4:Bool} (h:Ki x0 k_L1 vb0 vb1 v0 v1 v2 v3 v4=some r):CS (Y8 x0 r) Tryz.f8 [1,1,0,1,0,0,1,1,0,0,1,1,0,1,0,1,1,0,1] [(0,ss x0),(2,.ptr (1,1) 0 0),(4,.ptr (1,5) 0 0),(8,.sl (1,11) 0 (v0.map Ze).length),(10,.ptr (1,9) 0 0),(17,.tr (v1.map Zh)),(18,il v2),(19,il v3),(53,bl v4)] (Za.bk Za.z0 2++[bx 1 (Za.rl Za.z0 2)]++Za.bk vb0 6++[bx 5 (Za.rl vb0 6),rx 10 3 (vb1.data_.map Ze),bx 9 [bl vb1.write,il vb1.addr,il vb1.size,il vb1.burst,bl vb1.lock,.sl (1,10) 0 (vb1.data_.map Ze).length],rx 11 3 (v0.map Ze)]):=
 itK h (λg1 h=>rtK h (gg g1 ee)) λg1 h=>bnK h λa0 Y2 h=>bnK h λa1 K3 h=>bnK h λz0 hz0 h=>Zv (ffi 1 5++[((1,6),(2,11264)),((1,7),(1,7)),((1,8),(1,8))]) 6 (gg g1 (xd Ze Y2 (xd Ze K3 (kk 1 (ta Zf.enc [(Zf.mk a0 a1 vb1)] z0 (kk 1 (oe Ze vb1.data_ (oa 8 Zf.enc_len (Zf.mk a0 a1 vb1) (ox Zf.enc hz0 (oe Zf.enc z0 (Za.sc Za.z0 (Za.sc {vb0 with posts:=z0} ee)))))))))))) (i_L1 h)
theorem Zgp {x0:ByteArray} {r:Za×Bool} {k_L1:Za->(List ByteArray)->Int->Int->Option (Za×Bool)} (i_L1:∀{vb0:Za} {v1:List ByteArray} {v2:Int} {v3:Int},k_L1 vb0 v1 v2 v3=some r->CS (Y8 x0 r) Tryz.f8 [1,1,0,1,0] [(0,ss x0),(2,.ptr (1,1) 0 0),(4,.ptr (1,5) 0 0),(17,.tr (v1.map Zh)),(18,il v2),(19,il v3)] (Za.bk Za.z0 2++[bx 1 (Za.rl Za.z0 2)]++Za.bk vb0 6++[bx 5 (Za.rl vb0 6)])) {vb0:Za} {v5:List ByteArray} {v1:List ByteArray} {v2:Int} {v3:Int} {v6:Bool} (h:Wg x0 k_L1 vb0 v5 v1 v2 v3 v6=some r):CS (Y8 x0 r) Tryz.f8 [1,1,0,1,0,0,1,1,0,0,1,1,0,1,1,1] [(0,ss x0),(2,.ptr (1,1) 0 0),(4,.ptr (1,5) 0 0),(7,.tr (v5.map Zh)),(17,.tr (v1.map Zh)),(18,il v2),(19,il v3),(68,bl v6)] (Za.bk Za.z0 2++[bx 1 (Za.rl Za.z0 2)]++Za.bk vb0 6++[bx 5 (Za.rl vb0 6)]):=
 itK h (λg1 h=>bnK h λs0 hs0 h=>bnK h λr0 Ya h=>have p1 {q p} (k:Scr q p):=(gg g1 (tp (.num (1:Int).toNat ((v5.length:Int):Int).toNat 0 (s0.map Zh)) (ob (sln hs0).1 (ob (Zmm Zh v5) (ob (sll Zh hs0) (ob (alr 1 Wv v5) (ob (slr Zh hs0) (rr (Zkn Ya) k))))))));itK h (λg2 h=>rtK h (p1 (gg g2 ee))) λg2 h=>bnK h λa2 ha2 h=>itK h (λg3 h=>Zv (ffi 1 6++[((1,7),(2,2048)),((1,8),(1,8))]) 15 (p1 (gg g2 (xb Zh ha2 (gg g3 (Za.sc Za.z0 (Za.sc {vb0 with waits:=r0.1} ee)))))) (i_L1 h)) λg3 h=>Zv (ffi 1 7++[((1,8),(2,2048))]) 15 (p1 (gg g2 (xb Zh ha2 (gg g3 (Za.sc Za.z0 (Za.sc {vb0 with says:=r0.1} ee)))))) (i_L1 h)) λg1 h=>Zv (ffi 1 8) 5 (gg g1 (Za.sc Za.z0 (Za.sc vb0 ee))) (i_L1 h)
theorem Zgv {x0:ByteArray} {r:Za×Bool} {k_L1:Za->(List ByteArray)->Int->Int->Option (Za×Bool)} (i_L1:∀{vb0:Za} {v1:List ByteArray} {v2:Int} {v3:Int},k_L1 vb0 v1 v2 v3=some r->CS (Y8 x0 r) Tryz.f8 [1,1,0,1,0] [(0,ss x0),(2,.ptr (1,1) 0 0),(4,.ptr (1,5) 0 0),(17,.tr (v1.map Zh)),(18,il v2),(19,il v3)] (Za.bk Za.z0 2++[bx 1 (Za.rl Za.z0 2)]++Za.bk vb0 6++[bx 5 (Za.rl vb0 6)])) {vb0:Za} {v5:List ByteArray} {v1:List ByteArray} {v2:Int} {v3:Int} {v7:Bool} (h:Xl x0 k_L1 vb0 v5 v1 v2 v3 v7=some r):CS (Y8 x0 r) Tryz.f8 [1,1,0,1,0,0,1,1,0,0,1,1,0,1] [(0,ss x0),(2,.ptr (1,1) 0 0),(4,.ptr (1,5) 0 0),(7,.tr (v5.map Zh)),(17,.tr (v1.map Zh)),(18,il v2),(19,il v3),(25,bl v7)] (Za.bk Za.z0 2++[bx 1 (Za.rl Za.z0 2)]++Za.bk vb0 6++[bx 5 (Za.rl vb0 6)]):=
 itK h (λg1 h=>bnK h λs1 Jh h=>bnK h λr1 X6 h=>bnK h λs2 hs2 h=>bnK h λr2 Xq h=>bnK h λr3 hr3 h=>have p1 {q p} (k:Scr q p):=(gg g1 (tp (.num (1:Int).toNat (3:Int).toNat 0 (s1.map Zh)) (ob (sln Jh).1 (ob (sln Jh).2 (ob (sll Zh Jh) (ob (alr 1 Wv v5) (ob (slr Zh Jh) (rr (Zkn X6) (tp (.num (3:Int).toNat ((v5.length:Int):Int).toNat 0 (s2.map Zh)) (ob (sln hs2).1 (ob (Zmm Zh v5) (ob (sll Zh hs2) (ob (alr 1 Wv v5) (ob (slr Zh hs2) (rr (Zc4 Xq) (rr (Z0o hr3) k))))))))))))))));itK h (λg2 h=>Zv (ffi 1 8++[((1,9),(3,7168)),((1,10),(3,3077)),((1,11),(2,2048))]) 8 (p1 (gg g2 (kk 2 (ln Ze r1.1 (Za.sc Za.z0 (Za.sc vb0 (ln Ze r3.1.data_ ee))))))) (Zgw i_L1 h)) λg2 h=>Zv (ffi 1 8++[((1,9),(3,7168)),((1,10),(3,3077)),((1,11),(2,2048))]) 8 (p1 (gg g2 (kk 2 (ln Ze r1.1 (Za.sc Za.z0 (Za.sc vb0 (ln Ze r3.1.data_ ee))))))) (Zgw i_L1 h)) λg1 h=>bnK h λa3 ha3 h=>itK h (λg2 h=>Zv (ffi 1 8) 3 (gg g1 (xb Zh ha3 (gg g2 (kk 4 (Za.sc Za.z0 (Za.sc vb0 ee)))))) (Zgp i_L1 h)) λg2 h=>Zv (ffi 1 8) 3 (gg g1 (xb Zh ha3 (gg g2 (kk 1 (xb Zh ha3 (kk 3 (Za.sc Za.z0 (Za.sc vb0 ee)))))))) (Zgp i_L1 h)
theorem Zo8 {x0:ByteArray} {r:Za×Bool}:∀{m:Nat} {vb0:Za} {v1:List ByteArray} {v2:Int} {v3:Int},Xk x0 m vb0 v1 v2 v3=some r->CS (Y8 x0 r) Tryz.f8 [1,1,0,1,0] [(0,ss x0),(2,.ptr (1,1) 0 0),(4,.ptr (1,5) 0 0),(17,.tr (v1.map Zh)),(18,il v2),(19,il v3)] (Za.bk Za.z0 2++[bx 1 (Za.rl Za.z0 2)]++Za.bk vb0 6++[bx 5 (Za.rl vb0 6)]):=by
 intro m
 induction m with
 | zero=>intro vb0 v1 v2 v3 h;cases h
 | succ m ih=>exactλ{vb0} {v1} {v2} {v3} h=>itK h (λg1 h=>bnK h λa4 ha4 h=>bnK h λr4 hr4 h=>bnK h λa5 ha5 h=>have p1 {q p} (k:Scr q p):=(gg g1 (xb Zh ha4 (rr (Zeu hr4) (xb Zh ha5 k))));itK h (λg2 h=>Zv (ffi 1 8) 15 (p1 (gg g2 (kk 1 (lr Zh r4 (kk 2 (Za.sc Za.z0 (Za.sc vb0 ee))))))) (Zgv ih h)) λg2 h=>Zv (ffi 1 8) 15 (p1 (gg g2 (kk 3 (Za.sc Za.z0 (Za.sc vb0 ee))))) (Zgv ih h)) λg1 h=>bnK h λr5 hr5 h=>itK h (λg2 h=>rtK h (gg g1 (kk 3 (Za.so vb0 (rr (Zle hr5) (gg g2 ee)))))) λg2 h=>rtK h (gg g1 (kk 3 (Za.so vb0 (rr (Zle hr5) (gg g2 (kk 3 (Za.so vb0 ee)))))))
theorem Zlj {x0:ByteArray} {r:Za×Bool} (h:Qy x0=some r):Z5 Tryz.prog Mo (Y8 x0 r):=
 Yj Tryz.func8 (bnK h λr6 hr6 h=>bnK h λr7 hr7 h=>Zv [((1,1),(1,0)),((1,5),(2,1024))] 8 (rr (Zma hr6) (rr (Zeu hr7) (lr Zh r7 ee))) (Zo8 h))
abbrev Zsl (x0:List Int) (x1:List Int) (r:Bool):Y:=(34,[.tr (x0.map Ze),.tr (x1.map Ze)],bl r,[.undef,.undef])
theorem Zuo {x0:List Int} {x1:List Int} {r:Bool}:∀{m:Nat} {v0:Int},Zc6 x0 x1 m v0=some r->CS (Zsl x0 x1 r) Tryz.f34 [1,1,0,1,0] [(0,.tr (x0.map Ze)),(1,.tr (x1.map Ze)),(5,il v0)] []:=by
 intro m
 induction m with
 | zero=>intro v0 h;cases h
 | succ m ih=>exactλ{v0} h=>itK h (λg1 h=>bnK h λa0 Y2 h=>bnK h λa1 K3 h=>itK h (λg2 h=>rtK h (lr Ze x0 (gg g1 (xb Ze Y2 (xb Ze K3 (gg g2 ee)))))) λg2 h=>Zv [] 14 (lr Ze x0 (gg g1 (xb Ze Y2 (xb Ze K3 (gg g2 ee))))) (ih h)) λg1 h=>rtK h (lr Ze x0 (gg g1 ee))
theorem Ze2 {x0:List Int} {x1:List Int} {r:Bool} (h:Zc8 x0 x1=some r):Z5 Tryz.prog Mo (Zsl x0 x1 r):=
 Yj Tryz.func34 (itK h (λg1 h=>rtK h (lr Ze x0 (lr Ze x1 (gg g1 ee)))) λg1 h=>Zv [] 11 (lr Ze x0 (lr Ze x1 (gg g1 ee))) (Zuo h))
abbrev Z5y (x0:Zj) (x1:Zj) (r:Bool):Y:=(129,[.agg (Zj.enc x0),.agg (Zj.enc x1)],bl r,[.undef,.undef])
theorem Zvx {x0:Zj} {x1:Zj} {r:Bool} (h:Zjc x0 x1=some r):Z5 Tryz.prog Mo (Z5y x0 x1 r):=
 Yj Tryz.func129 (itK h (λg1 h=>rtK h (gg g1 ee)) λg1 h=>itK h (λg2 h=>rtK h (gg g1 (gg g2 ee))) λg2 h=>itK h (λg3 h=>rtK h (gg g1 (gg g2 (gg g3 ee)))) λg3 h=>itK h (λg4 h=>rtK h (gg g1 (gg g2 (gg g3 (gg g4 ee))))) λg4 h=>itK h (λg5 h=>rtK h (gg g1 (gg g2 (gg g3 (gg g4 (gg g5 ee)))))) λg5 h=>bnK h λr0 Ya h=>itK h (λg6 h=>rtK h (gg g1 (gg g2 (gg g3 (gg g4 (gg g5 (rr (Ze2 Ya) (gg g6 ee)))))))) λg6 h=>rtK h (gg g1 (gg g2 (gg g3 (gg g4 (gg g5 (rr (Ze2 Ya) (gg g6 ee))))))))
abbrev Z3v (x0:Zf) (x1:Zf) (r:Bool):Y:=(77,[.agg (Zf.enc x0),.agg (Zf.enc x1)],bl r,[.undef,.undef])
theorem Z4b {x0:Zf} {x1:Zf} {r:Bool} (h:Zeq x0 x1=some r):Z5 Tryz.prog Mo (Z3v x0 x1 r):=
 Yj Tryz.func77 (itK h (λg1 h=>rtK h (gg g1 ee)) λg1 h=>itK h (λg2 h=>rtK h (gg g1 (gg g2 ee))) λg2 h=>bnK h λr0 Ya h=>itK h (λg3 h=>rtK h (gg g1 (gg g2 (rr (Zvx Ya) (gg g3 ee))))) λg3 h=>rtK h (gg g1 (gg g2 (rr (Zvx Ya) (gg g3 ee)))))
abbrev Zq0 (x0:List Zf) (x1:List Zf) (r:Bool):Y:=(33,[.tr (x0.map Zf.enc),.tr (x1.map Zf.enc)],bl r,[.undef,.undef])
theorem Ztr {x0:List Zf} {x1:List Zf} {r:Bool}:∀{m:Nat} {v0:Int},Zb3 x0 x1 m v0=some r->CS (Zq0 x0 x1 r) Tryz.f33 [1,1,0,1,0] [(0,.tr (x0.map Zf.enc)),(1,.tr (x1.map Zf.enc)),(5,il v0)] []:=by
 intro m
 induction m with
 | zero=>intro v0 h;cases h
 | succ m ih=>exactλ{v0} h=>itK h (λg1 h=>bnK h λa0 Y2 h=>bnK h λa1 K3 h=>bnK h λr0 Ya h=>have p1 {q p} (k:Scr q p):=(lr Zf.enc x0 (gg g1 (xb Zf.enc Y2 (xb Zf.enc K3 (rr (Z4b Ya) k)))));itK h (λg2 h=>rtK h (p1 (gg g2 ee))) λg2 h=>Zv [] 14 (p1 (gg g2 ee)) (ih h)) λg1 h=>rtK h (lr Zf.enc x0 (gg g1 ee))
theorem Zq4 {x0:List Zf} {x1:List Zf} {r:Bool} (h:Zgc x0 x1=some r):Z5 Tryz.prog Mo (Zq0 x0 x1 r):=
 Yj Tryz.func33 (itK h (λg1 h=>rtK h (lr Zf.enc x0 (lr Zf.enc x1 (gg g1 ee)))) λg1 h=>Zv [] 11 (lr Zf.enc x0 (lr Zf.enc x1 (gg g1 ee))) (Ztr h))
abbrev Jc (x0:Za) (x1:Za) (r:Bool):Y:=(9,[.agg (Za.enc x0),.agg (Za.enc x1)],bl r,[.undef,.undef])
theorem Zoa {x0:Za} {x1:Za} {r:Bool} (h:Ze0 x0 x1=some r):Z5 Tryz.prog Mo (Jc x0 x1 r):=
 Yj Tryz.func9 (bnK h λr0 Ya h=>itK h (λg1 h=>rtK h (rr (Zq4 Ya) (gg g1 ee))) λg1 h=>bnK h λr1 X6 h=>have p1 {q p} (k:Scr q p):=(rr (Zq4 Ya) (gg g1 (rr (Ze2 X6) k)));itK h (λg2 h=>rtK h (p1 (gg g2 ee))) λg2 h=>bnK h λr2 Xq h=>itK h (λg3 h=>rtK h (p1 (gg g2 (rr (Ze2 Xq) (gg g3 ee))))) λg3 h=>rtK h (p1 (gg g2 (rr (Ze2 Xq) (gg g3 ee)))))
abbrev Zoo (x0:List Int) (x1:Int) (r:Int):Y:=(38,[.tr (x0.map Ze),il x1],il r,[.undef,.undef])
theorem Zrz {x0:List Int} {x1:Int} {r:Int}:∀{m:Nat} {v0:Int} {v1:Int},Zea x0 x1 m v0 v1=some r->CS (Zoo x0 x1 r) Tryz.f38 [1,0,1,0] [(0,.tr (x0.map Ze)),(1,il v0),(5,il v1)] []:=by
 intro m
 induction m with
 | zero=>intro v0 v1 h;cases h
 | succ m ih=>exactλ{v0} {v1} h=>itK h (λg1 h=>bnK h λa0 Y2 h=>itK h (λg2 h=>rtK h (lr Ze x0 (gg g1 (xb Ze Y2 (gg g2 ee))))) λg2 h=>Zv [] 16 (lr Ze x0 (gg g1 (xb Ze Y2 (gg g2 ee)))) (ih h)) λg1 h=>rtK h (lr Ze x0 (gg g1 ee))
theorem Zaj {x0:List Int} {x1:Int} {r:Int} (h:Zan x0 x1=some r):Z5 Tryz.prog Mo (Zoo x0 x1 r):=
 Yj Tryz.func38 (Zv [] 6 ee (Zrz h))
abbrev Zm3 (x0:List Zf) (x1:Int) (r:Int):Y:=(37,[.tr (x0.map Zf.enc),il x1],il r,[.undef,.undef])
theorem Zqf {x0:List Zf} {x1:Int} {r:Int}:∀{m:Nat} {v0:Int} {v1:Int},Zdi x0 x1 m v0 v1=some r->CS (Zm3 x0 x1 r) Tryz.f37 [1,0,1,0] [(0,.tr (x0.map Zf.enc)),(1,il v0),(5,il v1)] []:=by
 intro m
 induction m with
 | zero=>intro v0 v1 h;cases h
 | succ m ih=>exactλ{v0} {v1} h=>have p1 {q p} (k:Scr q p):=(lr Zf.enc x0 k);itK h (λg1 h=>bnK h λa0 Y2 h=>have p2 {q p} (k:Scr q p):=(p1 (gg g1 (xb Zf.enc Y2 k)));itK h (λg2 h=>rtK h (p2 (gg g2 ee))) λg2 h=>have p3 {q p} (k:Scr q p):=(p2 (gg g2 (xb Zf.enc Y2 k)));itK h (λg3 h=>rtK h (p3 (gg g3 ee))) λg3 h=>have p4 {q p} (k:Scr q p):=(p3 (gg g3 (xb Zf.enc Y2 (kk 1 k))));itK h (λg4 h=>rtK h (p4 (gg g4 ee))) λg4 h=>have p5 {q p} (k:Scr q p):=(p4 (gg g4 (xb Zf.enc Y2 k)));itK h (λg5 h=>rtK h (p5 (gg g5 ee))) λg5 h=>have p6 {q p} (k:Scr q p):=(p5 (gg g5 (xb Zf.enc Y2 k)));itK h (λg6 h=>rtK h (p6 (gg g6 ee))) λg6 h=>have p7 {q p} (k:Scr q p):=(p6 (gg g6 (xb Zf.enc Y2 k)));itK h (λg7 h=>rtK h (p7 (gg g7 ee))) λg7 h=>itK h (λg8 h=>rtK h (p7 (gg g7 (xb Zf.enc Y2 (kk 1 (gg g8 ee)))))) λg8 h=>bnK h λr0 Ya h=>have p8 {q p} (k:Scr q p):=(p7 (gg g7 (xb Zf.enc Y2 (kk 1 (gg g8 (xb Zf.enc Y2 (rr (Zaj Ya) k)))))));itK h (λg9 h=>rtK h (p8 (gg g9 ee))) λg9 h=>Zv [] 65 (p8 (gg g9 ee)) (ih h)) λg1 h=>rtK h (p1 (gg g1 ee))
theorem Zwx {x0:List Zf} {x1:Int} {r:Int} (h:Zdw x0 x1=some r):Z5 Tryz.prog Mo (Zm3 x0 x1 r):=
 Yj Tryz.func37 (Zv [] 6 ee (Zqf h))
abbrev Qx (x0:Za) (x1:Int) (r:Int):Y:=(11,[.agg (Za.enc x0),il x1],il r,[.undef,.undef])
theorem Zk2 {x0:Za} {x1:Int} {r:Int} (h:Zc2 x0 x1=some r):Z5 Tryz.prog Mo (Qx x0 x1 r):=
 Yj Tryz.func11 (bnK h λr0 Ya h=>have p1 {q p} (k:Scr q p):=(rr (Zwx Ya) k);itK h (λg1 h=>rtK h (p1 (gg g1 ee))) λg1 h=>bnK h λr1 X6 h=>itK h (λg2 h=>rtK h (p1 (gg g1 (rr (Zaj X6) (gg g2 ee))))) λg2 h=>bnK h λr2 Xq h=>itK h (λg3 h=>rtK h (p1 (gg g1 (rr (Zaj X6) (gg g2 (rr (Zaj Xq) (gg g3 ee))))))) λg3 h=>rtK h (p1 (gg g1 (rr (Zaj X6) (gg g2 (rr (Zaj Xq) (gg g3 ee)))))))
end Go.Proofs.YthdljdelfgofdaaGreatDoor.Ev
