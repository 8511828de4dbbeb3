/- A part of the proof of FnExactScriptText: see the text YtgmmcfpabnoekaaDoorLawFnExactScriptText for what is proved and its conditions. Conditions here: those in each line. -/
import Derived.Test.YtgmmcfpabnoekaaDoorA3
namespace Go.Proofs.YtgmmcfpabnoekaaDoor.Ev
open Go Go.Proofs
set_option linter.unusedVariables false
set_option linter.unusedSimpArgs false
set_option linter.unusedSectionVars false
variable [Anchor] [ExtOk]
abbrev Zdp (x0:Int) (r:ByteArray):Y:=(38,[il x0],ss r,[.undef])
theorem Zdu {x0:Int} {r:ByteArray} {k_L1:Int→ByteArray→Option ByteArray} (i_L1:∀{v0:Int} {v1:ByteArray},k_L1 v0 v1=some r→CS (Zdp x0 r) Tryd.f38 [1,1,1,1,0,0] [(0,il v0),(3,ss v1),(4,bl (decide (x0 < 0)))] []) {v0:Int} {v1:ByteArray} {v2:Int} (h:Qo x0 k_L1 v0 v1 v2=some r):CS (Zdp x0 r) Tryd.f38 [1,1,1,1,0,0,0,1,0,1,1] [(0,il v0),(3,ss v1),(4,bl (decide (x0 < 0))),(5,il v2)] []:=
 bnK h fun n0 hn0 h=>cutX [] 4 (kk 1 (tp (.val (.lit (.string (strB [(w8 (addW 48 v2))])))) (tp (.obl) (kk 1 (ob (show 1=([(w8 (addW 48 v2))].map encU).length from rfl) (ob (stx [(w8 (addW 48 v2))]) (ob (cat0 hn0) ee))))))) (i_L1 h)
theorem Zkj {x0:Int} {r:ByteArray}:∀{m:Nat} {v0:Int} {v1:ByteArray},Wc x0 m v0 v1=some r→CS (Zdp x0 r) Tryd.f38 [1,1,1,1,0,0] [(0,il v0),(3,ss v1),(4,bl (decide (x0 < 0)))] []:=by
 intro m
 induction m with
 | zero=>intro v0 v1 h;cases h
 | succ m ih=>exact fun {v0} {v1} h=>itK h (fun g1 h=>itK h (fun g2 h=>cutX [] 14 (gg g1 (kk 1 (gg g2 ee))) (Zdu ih h)) fun g2 h=>cutX [] 14 (gg g1 (kk 1 (gg g2 ee))) (Zdu ih h)) fun g1 h=>itK h (fun g2 h=>bnK h fun n1 hn1 h=>rtK h (gg g1 (gg g2 (tp (.obl) (ob (cat0 hn1) ee))))) fun g2 h=>rtK h (gg g1 (gg g2 ee))
theorem Zbm {x0:Int} {r:ByteArray} (h:Xg x0=some r):Fine Tryd.prog Mo (Zdp x0 r):=
 Zi Tryd.func38 (itK h (fun g1 h=>rtK h (gg g1 ee)) fun g1 h=>cutX [] 13 (gg g1 ee) (Zkj h))
abbrev Zok (x0:Int) (x1:Int) (x2:Int) (r:Bool):Y:=(74,[il x0,il x1,il x2],bl r,[.undef,.undef,.undef])
theorem Qz {x0:Int} {x1:Int} {x2:Int} {r:Bool} (h:X1 x0 x1 x2=some r):Fine Tryd.prog Mo (Zok x0 x1 x2 r):=
 Zi Tryd.func74 (itK h (fun g1 h=>rtK h (gg g1 (kk 3 ee))) fun g1 h=>rtK h (gg g1 (kk 3 ee)))
abbrev Zp5 (x0:Int) (r:ByteArray):Y:=(41,[il x0],ss r,[.undef])
theorem Zdg {x0:Int} {r:ByteArray} (h:Kt x0=some r):Fine Tryd.prog Mo (Zp5 x0 r):=
 Zi Tryd.func41 (bnK h fun r0 hr0 h=>rtK h (rr (Zf0 hr0) ee))
abbrev Zhk (x0:Bool) (r:ByteArray):Y:=(42,[bl x0],ss r,[.undef])
theorem Zhm {x0:Bool} {r:ByteArray} (h:Qv x0=some r):Fine Tryd.prog Mo (Zhk x0 r):=
 Zi Tryd.func42 (itK h (fun g1 h=>rtK h (gg g1 ee)) fun g1 h=>rtK h (gg g1 ee))
abbrev Zli (x0:Int) (x1:Int) (x2:Int) (r:Bool):Y:=(77,[il x0,il x1,il x2],bl r,[.undef,.undef,.undef])
theorem Xk {x0:Int} {x1:Int} {x2:Int} {r:Bool} (h:X2 x0 x1 x2=some r):Fine Tryd.prog Mo (Zli x0 x1 x2 r):=
 Zi Tryd.func77 (itK h (fun g1 h=>rtK h (gg g1 (kk 3 ee))) fun g1 h=>rtK h (gg g1 (kk 3 ee)))
abbrev Zmf (x0:List Int) (x1:Int) (r:Int):Y:=(50,[.tr (x0.map encI),il x1],il r,[.undef,.undef])
theorem Ke {x0:List Int} {x1:Int} {r:Int} (h:Qh x0 x1=some r):Fine Tryd.prog Mo (Zmf x0 x1 r):=
 Zi Tryd.func50 (itK h (fun g1 h=>rtK h (lr encI x0 (gg g1 ee))) fun g1 h=>rtK h (lr encI x0 (gg g1 ee)))
abbrev Zmt (x0:GReq) (x1:Int) (r:Int):Y:=(109,[.agg (GReq.enc x0),il x1],il r,[.undef,.undef])
theorem Zgn {x0:GReq} {x1:Int} {r:Int} (h:Zat x0 x1=some r):Fine Tryd.prog Mo (Zmt x0 x1 r):=
 Zi Tryd.func109 (bnK h fun r0 hr0 h=>itK h (fun g1 h=>rtK h (rr (Ke hr0) (gg g1 ee))) fun g1 h=>rtK h (rr (Ke hr0) (gg g1 ee)))
abbrev Zmd (x0:GPost) (x1:Int) (r:Int):Y:=(88,[.agg (GPost.enc x0),il x1],il r,[.undef,.undef])
theorem Zma {x0:GPost} {x1:Int} {r:Int} (h:X6 x0 x1=some r):Fine Tryd.prog Mo (Zmd x0 x1 r):=
 Zi Tryd.func88 (bnK h fun r0 hr0 h=>itK h (fun g1 h=>rtK h (rr (Zgn hr0) (gg g1 ee))) fun g1 h=>rtK h (rr (Zgn hr0) (gg g1 ee)))
abbrev Zd8 (x0:List GPost) (x1:Int) (r:Int):Y:=(49,[.tr (x0.map GPost.enc),il x1],il r,[.undef,.undef])
theorem Ze7 {x0:List GPost} {x1:Int} {r:Int}:∀{m:Nat} {v0:Int} {v1:Int},Wo x0 x1 m v0 v1=some r→CS (Zd8 x0 x1 r) Tryd.f49 [1,1,1,0,1,0] [(0,.tr (x0.map GPost.enc)),(1,il v0),(5,il v1)] []:=by
 intro m
 induction m with
 | zero=>intro v0 v1 h;cases h
 | succ m ih=>exact fun {v0} {v1} h=>itK h (fun g1 h=>bnK h fun a0 ha0 h=>bnK h fun r0 hr0 h=>have p1 {q p} (k:Scr q p):=(lr GPost.enc x0 (gg g1 (xb GPost.enc ha0 (rr (Zma hr0) k))));itK h (fun g2 h=>rtK h (p1 (gg g2 ee))) fun g2 h=>cutX [] 16 (p1 (gg g2 ee)) (ih h)) fun g1 h=>rtK h (lr GPost.enc x0 (gg g1 ee))
theorem Zd3 {x0:List GPost} {x1:Int} {r:Int} (h:K9 x0 x1=some r):Fine Tryd.prog Mo (Zd8 x0 x1 r):=
 Zi Tryd.func49 (itK h (fun g1 h=>rtK h (lr GPost.enc x0 (gg g1 ee))) fun g1 h=>cutX [] 13 (lr GPost.enc x0 (gg g1 ee)) (Ze7 h))
abbrev Zh0 (x0:GScript) (x1:Int) (r:Int):Y:=(20,[.agg (GScript.enc x0),il x1],il r,[.undef,.undef])
theorem Zib {x0:GScript} {x1:Int} {r:Int} (h:Kc x0 x1=some r):Fine Tryd.prog Mo (Zh0 x0 x1 r):=
 Zi Tryd.func20 (bnK h fun r0 hr0 h=>itK h (fun g1 h=>rtK h (rr (Zd3 hr0) (gg g1 ee))) fun g1 h=>bnK h fun r1 hr1 h=>have p1 {q p} (k:Scr q p):=(rr (Zd3 hr0) (gg g1 (rr (Ke hr1) k)));itK h (fun g2 h=>rtK h (p1 (gg g2 ee))) fun g2 h=>bnK h fun r2 hr2 h=>itK h (fun g3 h=>rtK h (p1 (gg g2 (rr (Ke hr2) (gg g3 ee))))) fun g3 h=>rtK h (p1 (gg g2 (rr (Ke hr2) (gg g3 ee)))))
abbrev Ze4 (x0:List Int) (r:List Int):Y:=(54,[.tr (x0.map encI)],.own 3 (r.map encI),[.undef])
theorem Zgl {x0:List Int} {r:List Int}:∀{m:Nat} {v0:List Int} {v1:Int},Qi x0 m v0 v1=some r→CS (Ze4 x0 r) Tryd.f54 [1,1,0,1,0] [(0,.tr (x0.map encI)),(3,.sl (1,1) 0 (v0.map encI).length),(4,il v1)] [rx 1 3 (v0.map encI)]:=by
 intro m
 induction m with
 | zero=>intro v0 v1 h;cases h
 | succ m ih=>exact fun {v0} {v1} h=>itK h (fun g1 h=>bnK h fun a0 ha0 h=>bnK h fun a1 ha1 h=>bnK h fun y0 hy0 h=>cutX [((1,1),(1,1))] 11 (lr encI x0 (gg g1 (xb encI ha0 (xp encI ha1 hy0 (tp (.num (y0.map encI).length 0 0 []) (ob (setl encI hy0) ee)))))) (ih h)) fun g1 h=>rtK h (lr encI x0 (gg g1 (kk 1 (oe encI v0 ee))))
theorem Zcf {x0:List Int} {r:List Int} (h:Qd x0=some r):Fine Tryd.prog Mo (Ze4 x0 r):=
 Zi Tryd.func54 (bnK h fun m0 hm0 h=>cutX [((1,1),(2,2048))] 8 (lr encI x0 (tp (.mk ((x0.length:Int):Int).toNat (m0.map encI)) (ob (mkn hm0) (ob (mkn hm0) (ob (mkl hm0) (ob (mkr encI hm0) (ln encI m0 ee))))))) (Zgl h))
abbrev Znf (x0:GReq) (r:GReq):Y:=(113,[.agg (GReq.enc x0)],.agg [bl r.write,il r.addr,il r.size,il r.burst,bl r.lock,.own 3 (r.data_.map encI)],[.undef])
theorem Zm8 {x0:GReq} {r:GReq} (h:Za6 x0=some r):Fine Tryd.prog Mo (Znf x0 r):=
 Zi Tryd.func113 (bnK h fun r0 hr0 h=>rtK h (rr (Zcf hr0) (kk 1 (oe encI r0 ee))))
abbrev Zl3 (x0:GPost) (r:GPost):Y:=(90,[.agg (GPost.enc x0)],.agg [il r.at_,il r.who,bl r.req.write,il r.req.addr,il r.req.size,il r.req.burst,bl r.req.lock,.own 3 (r.req.data_.map encI)],[.undef])
theorem Zmi {x0:GPost} {r:GPost} (h:Kb x0=some r):Fine Tryd.prog Mo (Zl3 x0 r):=
 Zi Tryd.func90 (bnK h fun r0 hr0 h=>rtK h (rr (Zm8 hr0) (kk 1 (oe encI r0.data_ ee))))
abbrev Zd0 (x0:List GPost) (r:List GPost):Y:=(53,[.tr (x0.map GPost.enc)],.own 79 (r.map GPost.enc),[.undef])
theorem Zfv {x0:List GPost} {r:List GPost}:∀{m:Nat} {v0:List GPost} {v1:Int},Wl x0 m v0 v1=some r→CS (Zd0 x0 r) Tryd.f53 [1,1,0,1,0] [(0,.tr (x0.map GPost.enc)),(3,.sl (1,1) 0 (v0.map GPost.enc).length),(4,il v1)] [rx 1 79 (v0.map GPost.enc)]:=by
 intro m
 induction m with
 | zero=>intro v0 v1 h;cases h
 | succ m ih=>exact fun {v0} {v1} h=>itK h (fun g1 h=>bnK h fun a0 ha0 h=>bnK h fun r0 hr0 h=>bnK h fun a1 ha1 h=>bnK h fun y0 hy0 h=>cutX [((1,1),(1,1))] 11 (lr GPost.enc x0 (gg g1 (xb GPost.enc ha0 (rr (Zmi hr0) (xq GPost.enc ha1 y0 (kk 1 (tp (.num (y0.map GPost.enc).length 0 0 []) (oe encI r0.req.data_ (ob (seto GPost.enc hy0) (ob (setl GPost.enc hy0) ee)))))))))) (ih h)) fun g1 h=>rtK h (lr GPost.enc x0 (gg g1 (kk 1 (oe GPost.enc v0 ee))))
theorem Zkf {x0:List GPost} {r:List GPost} (h:Ja x0=some r):Fine Tryd.prog Mo (Zd0 x0 r):=
 Zi Tryd.func53 (bnK h fun m0 hm0 h=>cutX [((1,1),(2,2048))] 8 (lr GPost.enc x0 (tp (.mk ((x0.length:Int):Int).toNat (m0.map GPost.enc)) (ob (mkn hm0) (ob (mkn hm0) (ob (mkl hm0) (ob (mkr GPost.enc hm0) (ln GPost.enc m0 ee))))))) (Zfv h))
abbrev Zip (x0:GScript) (r:GScript):Y:=(22,[.agg (GScript.enc x0)],.agg (GScript.ow r),[.undef])
theorem Zam {x0:GScript} {r:GScript} (h:Xw x0=some r):Fine Tryd.prog Mo (Zip x0 r):=
 Zi Tryd.func22 (bnK h fun r0 hr0 h=>bnK h fun r1 hr1 h=>bnK h fun r2 hr2 h=>rtK h (rr (Zkf hr0) (rr (Zcf hr1) (rr (Zcf hr2) (kk 3 (oe GPost.enc r0 (oe encI r1 (oe encI r2 ee))))))))
abbrev Zd6 (x0:ByteArray) (x1:List Int) (r:ByteArray):Y:=(51,[ss x0,.tr (x1.map encI)],ss r,[.undef,.undef])
theorem Zfb {x0:ByteArray} {x1:List Int} {r:ByteArray}:∀{m:Nat} {v0:ByteArray} {v1:Int},Xl x0 x1 m v0 v1=some r→CS (Zd6 x0 x1 r) Tryd.f51 [1,1,1,0,1,0] [(1,.tr (x1.map encI)),(5,ss v0),(6,il v1)] []:=by
 intro m
 induction m with
 | zero=>intro v0 v1 h;cases h
 | succ m ih=>exact fun {v0} {v1} h=>itK h (fun g1 h=>bnK h fun n0 hn0 h=>bnK h fun a0 ha0 h=>bnK h fun r0 hr0 h=>bnK h fun n1 hn1 h=>cutX [] 11 (lr encI x1 (gg g1 (tp (.obl) (ob (cat0 hn0) (xb encI ha0 (rr (Zbm hr0) (tp (.obl) (ob (cat0 hn1) ee)))))))) (ih h)) fun g1 h=>bnK h fun n2 hn2 h=>rtK h (lr encI x1 (gg g1 (tp (.obl) (ob (cat0 hn2) ee))))
theorem Zd9 {x0:ByteArray} {x1:List Int} {r:ByteArray} (h:Qm x0 x1=some r):Fine Tryd.prog Mo (Zd6 x0 x1 r):=
 Zi Tryd.func51 (itK h (fun g1 h=>rtK h (lr encI x1 (gg g1 ee))) fun g1 h=>cutX [] 13 (lr encI x1 (gg g1 ee)) (Zfb h))
abbrev Zkr (x0:Int) (r:Int):Y:=(112,[il x0],il r,[.undef])
theorem Xs {x0:Int} {r:Int} (h:Yu x0=some r):Fine Tryd.prog Mo (Zkr x0 r):=
 Zi Tryd.func112 (bnK h fun r0 hr0 h=>itK h (fun g1 h=>rtK h (rr (Qz hr0) (gg g1 ee))) fun g1 h=>bnK h fun a0 ha0 h=>rtK h (rr (Qz hr0) (gg g1 (xd encI ha0 ee))))
abbrev Zj0 (x0:Int) (r:Int):Y:=(129,[il x0],il r,[.undef])
theorem Y9 {x0:Int} {r:Int} (h:Yv x0=some r):Fine Tryd.prog Mo (Zj0 x0 r):=
 Zi Tryd.func129 (bnK h fun r0 hr0 h=>itK h (fun g1 h=>rtK h (rr (Qz hr0) (gg g1 ee))) fun g1 h=>bnK h fun n0 hn0 h=>rtK h (rr (Qz hr0) (gg g1 (tp (.obl) (ob (nn0 hn0) ee)))))
abbrev Zka (x0:Int) (x1:Int) (r:Bool):Y:=(163,[il x0,il x1],bl r,[.undef,.undef])
theorem Zjs {x0:Int} {x1:Int} {r:Bool} (h:Kz x0 x1=some r):Fine Tryd.prog Mo (Zka x0 x1 r):=
 Zi Tryd.func163 (bnK h fun r0 hr0 h=>itK h (fun g1 h=>itK h (fun g2 h=>bnK h fun r1 hr1 h=>bnK h fun n0 hn0 h=>rtK h (rr (Y9 hr0) (gg g1 (kk 2 (gg g2 (kk 2 (rr (Y9 hr1) (kk 1 (tp (.obl) (kk 2 (ob (nz0 hn0) ee))))))))))) fun g2 h=>rtK h (rr (Y9 hr0) (gg g1 (kk 2 (gg g2 (kk 5 ee)))))) fun g1 h=>rtK h (rr (Y9 hr0) (gg g1 (kk 8 ee))))
abbrev Zad (x0:Int) (x1:Int) (x2:Int) (r:Int):Y:=(144,[il x0,il x1,il x2],il r,[.undef,.undef,.undef])
theorem Zan {x0:Int} {x1:Int} {x2:Int} {r:Int} {v0:Int} {v1:Bool} (h:X4 x0 x1 x2 v0 v1=some r):CS (Zad x0 x1 x2 r) Tryd.f144 [1,1,1,0,1] [(0,il x0),(7,il v0),(34,bl v1)] []:=
 itK h (fun g1 h=>rtK h (gg g1 ee)) fun g1 h=>rtK h (gg g1 ee)
theorem Qy {x0:Int} {x1:Int} {x2:Int} {r:Int} {v0:Int} {v2:Bool} (h:Xc x0 x1 x2 v0 v2=some r):CS (Zad x0 x1 x2 r) Tryd.f144 [1,1,0,1] [(0,il x0),(2,il x2),(7,il v0),(23,bl v2)] []:=
 itK h (fun g1 h=>rtK h (gg g1 ee)) fun g1 h=>itK h (fun g2 h=>bnK h fun n0 hn0 h=>cutX [] 5 (gg g1 (gg g2 (kk 5 (tp (.obl) (kk 2 (ob (nz0 hn0) ee)))))) (Zan h)) fun g2 h=>cutX [] 5 (gg g1 (gg g2 (kk 7 ee))) (Zan h)
theorem Zcn {x0:Int} {x1:Int} {x2:Int} {r:Int} (h:W0 x0 x1 x2=some r):Fine Tryd.prog Mo (Zad x0 x1 x2 r):=
 Zi Tryd.func144 (bnK h fun r0 hr0 h=>bnK h fun r1 hr1 h=>have p1 {q p} (k:Scr q p):=(rr (Y9 hr0) (rr (Zjs hr1) k));itK h (fun g1 h=>cutX [] 7 (p1 (gg g1 (kk 7 ee))) (Qy h)) fun g1 h=>bnK h fun r2 hr2 h=>itK h (fun g2 h=>cutX [] 7 (p1 (gg g1 (kk 1 (rr (Qz hr2) (kk 2 (gg g2 (kk 3 ee))))))) (Qy h)) fun g2 h=>bnK h fun r3 hr3 h=>cutX [] 7 (p1 (gg g1 (kk 1 (rr (Qz hr2) (kk 2 (gg g2 (kk 1 (rr (Xs hr3) (kk 2 ee))))))))) (Qy h))
abbrev Qe (x0:Int) (x1:Int) (x2:Int) (r:List Int):Y:=(128,[il x0,il x1,il x2],.own 3 (r.map encI),[.undef,.undef,.undef])
theorem Jk {x0:Int} {x1:Int} {x2:Int} {r:List Int} {k_L1:Int→(List Int)→Option (List Int)} (i_L1:∀{v0:Int} {v1:List Int},k_L1 v0 v1=some r→CS (Qe x0 x1 x2 r) Tryd.f128 [1,1,0,0] [(0,il v0),(1,il x1),(2,il x2),(7,.sl (1,1) 0 (v1.map encI).length)] [rx 1 3 (v1.map encI)]) {v0:Int} {v1:List Int} {v2:Bool} (h:Y2 x0 x1 x2 k_L1 v0 v1 v2=some r):CS (Qe x0 x1 x2 r) Tryd.f128 [1,1,0,0,0,0,1] [(0,il v0),(1,il x1),(2,il x2),(7,.sl (1,1) 0 (v1.map encI).length),(20,bl v2)] [rx 1 3 (v1.map encI)]:=
 itK h (fun g1 h=>bnK h fun z0 hz0 h=>bnK h fun r0 hr0 h=>cutX [((1,1),(2,3072))] 7 (gg g1 (ta encI [v0] z0 (kk 1 (oa 1 Zhw v0 (ox encI hz0 (oe encI z0 (rr (Zcn hr0) (ln encI z0 ee)))))))) (i_L1 h)) fun g1 h=>bnK h fun r1 hr1 h=>itK h (fun g2 h=>rtK h (gg g1 (lr encI v1 (rr (Xs hr1) (gg g2 (kk 1 (ob (show 0=([].map encI).length from rfl) ee))))))) fun g2 h=>rtK h (gg g1 (lr encI v1 (rr (Xs hr1) (gg g2 (kk 1 (oe encI v1 ee))))))
theorem Zc2 {x0:Int} {x1:Int} {x2:Int} {r:List Int}:∀{m:Nat} {v0:Int} {v1:List Int},Xm x0 x1 x2 m v0 v1=some r→CS (Qe x0 x1 x2 r) Tryd.f128 [1,1,0,0] [(0,il v0),(1,il x1),(2,il x2),(7,.sl (1,1) 0 (v1.map encI).length)] [rx 1 3 (v1.map encI)]:=by
 intro m
 induction m with
 | zero=>intro v0 v1 h;cases h
 | succ m ih=>exact fun {v0} {v1} h=>bnK h fun r2 hr2 h=>itK h (fun g1 h=>bnK h fun r3 hr3 h=>cutX [((1,1),(1,1))] 4 (lr encI v1 (rr (Xs hr2) (gg g1 (kk 3 (rr (Zcn hr3) (kk 2 (ln encI v1 ee))))))) (Jk ih h)) fun g1 h=>cutX [((1,1),(1,1))] 4 (lr encI v1 (rr (Xs hr2) (gg g1 (kk 5 (ln encI v1 ee))))) (Jk ih h)
theorem Zge {x0:Int} {x1:Int} {x2:Int} {r:List Int} (h:Qg x0 x1 x2=some r):Fine Tryd.prog Mo (Qe x0 x1 x2 r):=
 Zi Tryd.func128 (cutX [((1,1),(2,0))] 6 (tp (.num ([].map encI).length 0 0 []) (ob (show 0=([].map encI).length from rfl) ee)) (Zc2 h))
abbrev Zed (x0:Int) (x1:Int) (x2:Int) (r:Bool):Y:=(110,[il x0,il x1,il x2],bl r,[.undef,.undef,.undef])
theorem Zfc {x0:Int} {x1:Int} {x2:Int} {r:Bool}:∀{m:Nat} {v0:List Int} {v1:Int},Wp x0 x1 x2 m v0 v1=some r→CS (Zed x0 x1 x2 r) Tryd.f110 [1,1,0,1,0] [(7,.sl (1,1) 0 (v0.map encI).length),(8,il v1)] [rx 1 3 (v0.map encI)]:=by
 intro m
 induction m with
 | zero=>intro v0 v1 h;cases h
 | succ m ih=>exact fun {v0} {v1} h=>itK h (fun g1 h=>bnK h fun a0 ha0 h=>bnK h fun a1 ha1 h=>itK h (fun g2 h=>rtK h (lr encI v0 (gg g1 (xd encI ha0 (kk 1 (xd encI ha1 (kk 1 (gg g2 ee)))))))) fun g2 h=>cutX [((1,1),(1,1))] 14 (lr encI v0 (gg g1 (xd encI ha0 (kk 1 (xd encI ha1 (kk 1 (gg g2 (ln encI v0 ee)))))))) (ih h)) fun g1 h=>rtK h (lr encI v0 (gg g1 (lr encI v0 ee)))
theorem Zeb {x0:Int} {x1:Int} {x2:Int} {r:Bool} (h:K4 x0 x1 x2=some r):Fine Tryd.prog Mo (Zed x0 x1 x2 r):=
 Zi Tryd.func110 (bnK h fun r0 hr0 h=>cutX [((1,1),(2,3072))] 8 (rr (Zge hr0) (ln encI r0 ee)) (Zfc h))
abbrev Zkb (x0:Int) (r:Int):Y:=(111,[il x0],il r,[.undef])
theorem Zkq {x0:Int} {r:Int} (h:Qn x0=some r):Fine Tryd.prog Mo (Zkb x0 r):=
 Zi Tryd.func111 (bnK h fun r0 hr0 h=>itK h (fun g1 h=>rtK h (rr (Y9 hr0) (gg g1 ee))) fun g1 h=>bnK h fun r1 hr1 h=>bnK h fun n0 hn0 h=>rtK h (rr (Y9 hr0) (gg g1 (rr (Y9 hr1) (tp (.obl) (ob (nn0 hn0) ee))))))
abbrev Zha (x0:GReq) (r:Bool):Y:=(89,[.agg (GReq.enc x0)],bl r,[.undef])
theorem Zhg {x0:GReq} {r:Bool}:∀{m:Nat} {v0:Int},Qs x0 m v0=some r→CS (Zha x0 r) Tryd.f89 [1,1,0,1,0] [(1,.ptr (1,1) 0 0),(3,il v0)] [bx 1 (GReq.enc x0)]:=by
 intro m
 induction m with
 | zero=>intro v0 h;cases h
 | succ m ih=>exact fun {v0} h=>have p1 {q p} (k:Scr q p):=(lr encI x0.data_ k);itK h (fun g1 h=>bnK h fun a0 ha0 h=>bnK h fun r0 hr0 h=>bnK h fun r1 hr1 h=>have p2 {q p} (k:Scr q p):=(p1 (gg g1 (xb encI ha0 (rr (Zkq hr0) (rr (Qz hr1) k)))));itK h (fun g2 h=>rtK h (p2 (gg g2 ee))) fun g2 h=>cutX [((1,1),(1,1))] 14 (p2 (gg g2 ee)) (ih h)) fun g1 h=>have p3 {q p} (k:Scr q p):=(p1 (gg g1 (lr encI x0.data_ k)));itK h (fun g2 h=>itK h (fun g3 h=>rtK h (p3 (gg g2 (kk 3 (gg g3 (kk 9 ee)))))) fun g3 h=>bnK h fun r2 hr2 h=>have p4 {q p} (k:Scr q p):=(p3 (gg g2 (kk 3 (gg g3 (kk 2 (lr encI x0.data_ (kk 3 (rr (Xs hr2) (kk 2 k)))))))));itK h (fun g4 h=>rtK h (p4 (gg g4 (kk 4 ee)))) fun g4 h=>rtK h (p4 (gg g4 (kk 4 ee)))) fun g2 h=>bnK h fun r2 hr2 h=>have p5 {q p} (k:Scr q p):=(p3 (gg g2 (kk 6 (lr encI x0.data_ (kk 3 (rr (Xs hr2) (kk 2 k)))))));itK h (fun g3 h=>rtK h (p5 (gg g3 (kk 4 ee)))) fun g3 h=>rtK h (p5 (gg g3 (kk 4 ee)))
theorem Zdb {x0:GReq} {r:Bool} (h:Za8 x0=some r):Fine Tryd.prog Mo (Zha x0 r):=
 Zi Tryd.func89 (bnK h fun r3 hr3 h=>itK h (fun g1 h=>rtK h (rr (Zeb hr3) (gg g1 ee))) fun g1 h=>cutX [((1,1),(1,0))] 11 (rr (Zeb hr3) (gg g1 ee)) (Zhg h))
abbrev K3 (x0:GReq) (r:ByteArray):Y:=(52,[.agg (GReq.enc x0)],ss r,[.undef])
theorem Zfp {x0:GReq} {r:ByteArray}:∀{m:Nat} {v0:ByteArray} {v1:Int},Y5 x0 m v0 v1=some r→CS (K3 x0 r) Tryd.f52 [1,1,1,1,1,1,0,1,0] [(1,.ptr (1,1) 0 0),(3,ss v0),(4,il v1)] [bx 1 (GReq.enc x0)]:=by
 intro m
 induction m with
 | zero=>intro v0 v1 h;cases h
 | succ m ih=>exact fun {v0} {v1} h=>itK h (fun g1 h=>bnK h fun n0 hn0 h=>bnK h fun a0 ha0 h=>bnK h fun r0 hr0 h=>bnK h fun n1 hn1 h=>cutX [((1,1),(1,1))] 11 (lr encI x0.data_ (gg g1 (tp (.obl) (ob (cat0 hn0) (xb encI ha0 (rr (Zbm hr0) (tp (.obl) (ob (cat0 hn1) ee)))))))) (ih h)) fun g1 h=>rtK h (lr encI x0.data_ (gg g1 ee))
theorem Za3 {x0:GReq} {r:ByteArray} {v0:ByteArray} (h:Wk x0 v0=some r):CS (K3 x0 r) Tryd.f52 [1,1,1,1,1,1] [(1,.ptr (1,1) 0 0),(3,ss v0)] [bx 1 (GReq.enc x0)]:=
 cutX [((1,1),(1,1))] 4 ee (Zfp h)
theorem Za7 {x0:GReq} {r:ByteArray} {v0:ByteArray} (h:Xn x0 v0=some r):CS (K3 x0 r) Tryd.f52 [1,1,1,1] [(1,.ptr (1,1) 0 0),(3,ss v0)] [bx 1 (GReq.enc x0)]:=
 bnK h fun n2 hn2 h=>bnK h fun a1 ha1 h=>bnK h fun n3 hn3 h=>bnK h fun n4 hn4 h=>bnK h fun a2 ha2 h=>bnK h fun n5 hn5 h=>bnK h fun n6 hn6 h=>bnK h fun r1 hr1 h=>bnK h fun n7 hn7 h=>have p1 {q p} (k:Scr q p):=(tp (.obl) (ob (cat0 hn2) (xd encS ha1 (tp (.obl) (tp (.obl) (ob (cat0 hn3) (ob (cat0 hn4) (xd encS ha2 (tp (.obl) (tp (.obl) (ob (cat0 hn5) (ob (cat0 hn6) (rr (Zbm hr1) (tp (.obl) (ob (cat0 hn7) k)))))))))))))));itK h (fun g1 h=>bnK h fun n8 hn8 h=>cutX [((1,1),(1,1))] 7 (p1 (gg g1 (tp (.obl) (ob (cat0 hn8) ee)))) (Za3 h)) fun g1 h=>cutX [((1,1),(1,1))] 7 (p1 (gg g1 ee)) (Za3 h)
theorem Zjo {x0:GReq} {r:ByteArray} (h:K1 x0=some r):Fine Tryd.prog Mo (K3 x0 r):=
 Zi Tryd.func52 (bnK h fun r2 hr2 h=>itK h (fun g1 h=>rtK h (rr (Zdb hr2) (gg g1 ee))) fun g1 h=>itK h (fun g2 h=>cutX [((1,1),(1,0))] 14 (rr (Zdb hr2) (gg g1 (gg g2 ee))) (Za7 h)) fun g2 h=>cutX [((1,1),(1,0))] 14 (rr (Zdb hr2) (gg g1 (gg g2 ee))) (Za7 h))
abbrev Zbj (x0:GScript) (r:ByteArray):Y:=(21,[.agg (GScript.enc x0)],ss r,[.undef])
theorem Zc0 {x0:GScript} {r:ByteArray}:∀{m:Nat} {v0:ByteArray} {v1:Int},Yw x0 m v0 v1=some r→CS (Zbj x0 r) Tryd.f21 [1,1,0,1,0] [(1,.ptr (1,1) 0 0),(3,ss v0),(4,il v1)] [bx 1 (GScript.enc x0)]:=by
 intro m
 induction m with
 | zero=>intro v0 v1 h;cases h
 | succ m ih=>exact fun {v0} {v1} h=>itK h (fun g1 h=>bnK h fun a0 ha0 h=>bnK h fun r0 hr0 h=>have p1 {q p} (k:Scr q p):=(lr GPost.enc x0.posts (gg g1 (xb GPost.enc ha0 (rr (Zjo hr0) k))));itK h (fun g2 h=>rtK h (p1 (gg g2 ee))) fun g2 h=>bnK h fun n0 hn0 h=>bnK h fun r1 hr1 h=>bnK h fun n1 hn1 h=>bnK h fun n2 hn2 h=>bnK h fun r2 hr2 h=>bnK h fun n3 hn3 h=>bnK h fun n4 hn4 h=>bnK h fun n5 hn5 h=>bnK h fun n6 hn6 h=>cutX [((1,1),(1,1))] 18 (p1 (gg g2 (tp (.obl) (ob (cat0 hn0) (xb GPost.enc ha0 (rr (Zbm hr1) (tp (.obl) (tp (.obl) (ob (cat0 hn1) (ob (cat0 hn2) (xb GPost.enc ha0 (rr (Zbm hr2) (tp (.obl) (tp (.obl) (tp (.obl) (tp (.obl) (ob (cat0 hn3) (ob (cat0 hn4) (ob (cat0 hn5) (ob (cat0 hn6) ee)))))))))))))))))))) (ih h)) fun g1 h=>rtK h (lr GPost.enc x0.posts (gg g1 ee))
theorem Zgi {x0:GScript} {r:ByteArray} (h:Qc x0=some r):Fine Tryd.prog Mo (Zbj x0 r):=
 Zi Tryd.func21 (bnK h fun r3 hr3 h=>bnK h fun r4 hr4 h=>bnK h fun n7 hn7 h=>cutX [((1,1),(1,0))] 8 (rr (Zd9 hr3) (rr (Zd9 hr4) (tp (.obl) (ob (cat0 hn7) ee)))) (Zc0 h))
abbrev Zia (x0:List Int) (r:List ByteArray):Y:=(69,[.tr (x0.map encI)],.own 9 (r.map encS),[.undef])
theorem Zil {x0:List Int} {r:List ByteArray}:∀{m:Nat} {v0:List ByteArray} {v1:Int},Kr x0 m v0 v1=some r→CS (Zia x0 r) Tryd.f69 [1,1,0,1,0] [(3,.sl (1,1) 0 (v0.map encS).length),(7,.tr (x0.map encI)),(8,il (x0.length:Int)),(9,il v1)] [rx 1 9 (v0.map encS)]:=by
 intro m
 induction m with
 | zero=>intro v0 v1 h;cases h
 | succ m ih=>exact fun {v0} {v1} h=>itK h (fun g1 h=>bnK h fun a0 ha0 h=>bnK h fun r0 hr0 h=>bnK h fun z0 hz0 h=>cutX [((1,1),(4,4096))] 13 (gg g1 (xb encI ha0 (rr (Zdg hr0) (ta encS [r0] z0 (kk 1 (oa 1 Zca r0 (ox encS hz0 (ln encS z0 (oe encS z0 ee))))))))) (ih h)) fun g1 h=>rtK h (gg g1 (kk 1 (oe encS v0 ee)))
theorem Zek {x0:List Int} {r:List ByteArray} (h:Kx x0=some r):Fine Tryd.prog Mo (Zia x0 r):=
 Zi Tryd.func69 (cutX [((1,1),(2,0))] 8 (lr encI x0 (tp (.num ([].map encS).length 0 0 []) (ob (show 0=([].map encS).length from rfl) ee))) (Zil h))
abbrev Zi0 (x0:ByteArray) (x1:List Int) (r:ByteArray):Y:=(55,[ss x0,.tr (x1.map encI)],ss r,[.undef,.undef])
theorem Zc7 {x0:ByteArray} {x1:List Int} {r:ByteArray} (h:Wu x0 x1=some r):Fine Tryd.prog Mo (Zi0 x0 x1 r):=
 Zi Tryd.func55 (itK h (fun g1 h=>rtK h (lr encI x1 (gg g1 ee))) fun g1 h=>bnK h fun n0 hn0 h=>bnK h fun r0 hr0 h=>bnK h fun r1 hr1 h=>bnK h fun n1 hn1 h=>bnK h fun n2 hn2 h=>rtK h (lr encI x1 (gg g1 (tp (.obl) (ob (cat0 hn0) (rr (Zek hr0) (kk 1 (oe encS r0 (rr (Kw hr1) (tp (.obl) (tp (.obl) (ob (cat0 hn1) (ob (cat0 hn2) ee)))))))))))))
abbrev Zjt (x0:Int) (r:Int):Y:=(114,[il x0],il r,[.undef])
theorem Zbb {x0:Int} {r:Int} (h:Wd x0=some r):Fine Tryd.prog Mo (Zjt x0 r):=
 Zi Tryd.func114 (bnK h fun r0 hr0 h=>itK h (fun g1 h=>rtK h (rr (Xk hr0) (gg g1 ee))) fun g1 h=>bnK h fun a0 ha0 h=>rtK h (rr (Xk hr0) (gg g1 (xd encI ha0 ee))))
abbrev Zj9 (x0:Int) (r:Int):Y:=(146,[il x0],il r,[.undef])
theorem Wf {x0:Int} {r:Int} (h:Xa x0=some r):Fine Tryd.prog Mo (Zj9 x0 r):=
 Zi Tryd.func146 (bnK h fun r0 hr0 h=>itK h (fun g1 h=>rtK h (rr (Xk hr0) (gg g1 ee))) fun g1 h=>bnK h fun n0 hn0 h=>rtK h (rr (Xk hr0) (gg g1 (tp (.obl) (ob (nn0 hn0) ee)))))
abbrev Zke (x0:Int) (x1:Int) (r:Bool):Y:=(164,[il x0,il x1],bl r,[.undef,.undef])
theorem Za9 {x0:Int} {x1:Int} {r:Bool} (h:Jc x0 x1=some r):Fine Tryd.prog Mo (Zke x0 x1 r):=
 Zi Tryd.func164 (bnK h fun r0 hr0 h=>itK h (fun g1 h=>itK h (fun g2 h=>bnK h fun r1 hr1 h=>bnK h fun n0 hn0 h=>rtK h (rr (Xk hr0) (gg g1 (kk 2 (gg g2 (kk 2 (rr (Wf hr1) (kk 1 (tp (.obl) (kk 2 (ob (nz0 hn0) ee))))))))))) fun g2 h=>rtK h (rr (Xk hr0) (gg g1 (kk 2 (gg g2 (kk 5 ee)))))) fun g1 h=>rtK h (rr (Xk hr0) (gg g1 (kk 8 ee))))
abbrev Zcw (x0:Int) (x1:Int) (x2:Int) (r:Int):Y:=(145,[il x0,il x1,il x2],il r,[.undef,.undef,.undef])
theorem Q0 {x0:Int} {x1:Int} {x2:Int} {r:Int} {v0:Bool} (h:Xd x0 x1 x2 v0=some r):CS (Zcw x0 x1 x2 r) Tryd.f145 [1,0,1] [(0,il x0),(1,il x1),(2,il x2),(21,bl v0)] []:=
 itK h (fun g1 h=>rtK h (gg g1 ee)) fun g1 h=>bnK h fun r0 hr0 h=>bnK h fun r1 hr1 h=>have p1 {q p} (k:Scr q p):=(gg g1 (rr (Wf hr0) (rr (Wf hr1) k)));itK h (fun g2 h=>bnK h fun n0 hn0 h=>itK h (fun g3 h=>rtK h (p1 (gg g2 (kk 2 (tp (.obl) (kk 2 (ob (nz0 hn0) (gg g3 ee)))))))) fun g3 h=>rtK h (p1 (gg g2 (kk 2 (tp (.obl) (kk 2 (ob (nz0 hn0) (gg g3 ee)))))))) fun g2 h=>rtK h (p1 (gg g2 (kk 5 ee)))
theorem Zcs {x0:Int} {x1:Int} {x2:Int} {r:Int} (h:Kq x0 x1 x2=some r):Fine Tryd.prog Mo (Zcw x0 x1 x2 r):=
 Zi Tryd.func145 (bnK h fun r2 hr2 h=>itK h (fun g1 h=>cutX [] 5 (rr (Za9 hr2) (gg g1 (kk 6 ee))) (Q0 h)) fun g1 h=>itK h (fun g2 h=>cutX [] 5 (rr (Za9 hr2) (gg g1 (kk 2 (gg g2 (kk 3 ee))))) (Q0 h)) fun g2 h=>bnK h fun r3 hr3 h=>cutX [] 5 (rr (Za9 hr2) (gg g1 (kk 2 (gg g2 (kk 1 (rr (Zbb hr3) (kk 2 ee))))))) (Q0 h))
abbrev Zbq (x0:Int) (x1:Int) (x2:Int) (r:List Int):Y:=(130,[il x0,il x1,il x2],.own 3 (r.map encI),[.undef,.undef,.undef])
theorem Zdd {x0:Int} {x1:Int} {x2:Int} {r:List Int}:∀{m:Nat} {v0:Int} {v1:List Int} {v2:Int} {v3:Int},Xi x0 x1 x2 m v0 v1 v2 v3=some r→CS (Zbq x0 x1 x2 r) Tryd.f130 [1,1,0,1,0] [(0,il v0),(1,il x1),(2,il x2),(7,.sl (1,1) 0 (v1.map encI).length),(11,il v2),(12,il v3)] [rx 1 3 (v1.map encI)]:=by
 intro m
 induction m with
 | zero=>intro v0 v1 v2 v3 h;cases h
 | succ m ih=>exact fun {v0} {v1} {v2} {v3} h=>itK h (fun g1 h=>bnK h fun r0 hr0 h=>itK h (fun g2 h=>rtK h (gg g1 (rr (Zcs hr0) (gg g2 ee)))) fun g2 h=>bnK h fun z0 hz0 h=>cutX [((1,1),(5,3072))] 20 (gg g1 (rr (Zcs hr0) (gg g2 (ta encI [v0] z0 (kk 1 (oa 1 Zhw v0 (ox encI hz0 (ln encI z0 (oe encI z0 ee))))))))) (ih h)) fun g1 h=>rtK h (gg g1 (kk 1 (oe encI v1 ee)))
theorem Zf1 {x0:Int} {x1:Int} {x2:Int} {r:List Int} (h:W7 x0 x1 x2=some r):Fine Tryd.prog Mo (Zbq x0 x1 x2 r):=
 Zi Tryd.func130 (bnK h fun r1 hr1 h=>cutX [((1,1),(2,0))] 8 (rr (Zbb hr1) (tp (.num ([].map encI).length 0 0 []) (ob (show 0=([].map encI).length from rfl) ee))) (Zdd h))
abbrev Zdw (x0:Int) (x1:Int) (x2:Int) (r:Bool):Y:=(115,[il x0,il x1,il x2],bl r,[.undef,.undef,.undef])
theorem Zfq {x0:Int} {x1:Int} {x2:Int} {r:Bool}:∀{m:Nat} {v0:List Int} {v1:Int} {v2:Int},Wm x0 x1 x2 m v0 v1 v2=some r→CS (Zdw x0 x1 x2 r) Tryd.f115 [1,1,0,1,0] [(7,.sl (1,1) 0 (v0.map encI).length),(14,.sl (1,1) 0 (v0.map encI).length),(15,il v1),(16,il v2)] [rx 1 3 (v0.map encI)]:=by
 intro m
 induction m with
 | zero=>intro v0 v1 v2 h;cases h
 | succ m ih=>exact fun {v0} {v1} {v2} h=>itK h (fun g1 h=>bnK h fun a0 ha0 h=>bnK h fun a1 ha1 h=>itK h (fun g2 h=>rtK h (gg g1 (xd encI ha0 (kk 1 (xd encI ha1 (kk 1 (gg g2 ee))))))) fun g2 h=>cutX [((1,1),(1,1))] 16 (gg g1 (xd encI ha0 (kk 1 (xd encI ha1 (kk 1 (gg g2 (ln encI v0 (ln encI v0 ee)))))))) (ih h)) fun g1 h=>rtK h (gg g1 (lr encI v0 ee))
theorem Zbg {x0:Int} {x1:Int} {x2:Int} {r:Bool} (h:Jd x0 x1 x2=some r):Fine Tryd.prog Mo (Zdw x0 x1 x2 r):=
 Zi Tryd.func115 (bnK h fun r0 hr0 h=>cutX [((1,1),(2,3072))] 8 (rr (Zf1 hr0) (lr encI r0 (ln encI r0 (ln encI r0 ee)))) (Zfq h))
abbrev Zj4 (x0:Int) (r:Int):Y:=(132,[il x0],il r,[.undef])
theorem Zjk {x0:Int} {r:Int} (h:K0 x0=some r):Fine Tryd.prog Mo (Zj4 x0 r):=
 Zi Tryd.func132 (bnK h fun r0 hr0 h=>itK h (fun g1 h=>rtK h (rr (Wf hr0) (gg g1 ee))) fun g1 h=>bnK h fun r1 hr1 h=>bnK h fun n0 hn0 h=>rtK h (rr (Wf hr0) (gg g1 (rr (Wf hr1) (tp (.obl) (ob (nn0 hn0) ee))))))
abbrev Zmz (x0:Int) (x1:Int) (r:Bool):Y:=(118,[il x0,il x1],bl r,[.undef,.undef])
theorem Zno {x0:Int} {x1:Int} {r:Bool} (h:Za2 x0 x1=some r):Fine Tryd.prog Mo (Zmz x0 x1 r):=
 Zi Tryd.func118 (bnK h fun r0 hr0 h=>bnK h fun r1 hr1 h=>rtK h (rr (Zjk hr0) (rr (Xk hr1) ee)))
abbrev Zj5 (x0:Int) (x1:GReq) (r:Bool):Y:=(117,[il x0,.rp true (GReq.enc x1) 0],bl r,[.undef,.undef])
theorem Zdv {x0:Int} {x1:GReq} {r:Bool} (h:Jb x0 x1=some r):Fine Tryd.prog Mo (Zj5 x0 x1 r):=
 Zi Tryd.func117 (bnK h fun r0 hr0 h=>rtK h (rr (Zno hr0) ee))
abbrev Ys (x0:List Int) (x1c0:GReq) (r:Int):Y:=(131,[.tr (x0.map encI),.fn 117 [.rp true (GReq.enc x1c0) 0]],il r,[.undef,.undef])
theorem X0 {x0:List Int} {x1c0:GReq} {r:Int}:∀{m:Nat} {v0:Int},Z2 x0 x1c0 m v0=some r→CS (Ys x0 x1c0 r) Tryd.f131 [1,0,1,0] [(0,.tr (x0.map encI)),(1,.fn 117 [.rp true (GReq.enc x1c0) 0]),(7,il (x0.length:Int)),(8,il v0)] []:=by
 intro m
 induction m with
 | zero=>intro v0 h;cases h
 | succ m ih=>exact fun {v0} h=>itK h (fun g1 h=>bnK h fun a0 ha0 h=>bnK h fun r0 hr0 h=>itK h (fun g2 h=>rtK h (gg g1 (xb encI ha0 (rr (Zdv hr0) (gg g2 ee))))) fun g2 h=>cutX [] 16 (gg g1 (xb encI ha0 (rr (Zdv hr0) (gg g2 ee)))) (ih h)) fun g1 h=>rtK h (gg g1 ee)
theorem Ws {x0:List Int} {x1c0:GReq} {r:Int} (h:Z5 x0 x1c0=some r):Fine Tryd.prog Mo (Ys x0 x1c0 r):=
 Zi Tryd.func131 (cutX [] 6 (lr encI x0 ee) (X0 h))
abbrev X7 (x0:List Int) (x1c0:GReq) (r:Bool):Y:=(116,[.tr (x0.map encI),.fn 117 [.rp true (GReq.enc x1c0) 0]],bl r,[.undef,.undef])
theorem X3 {x0:List Int} {x1c0:GReq} {r:Bool} (h:Zq x0 x1c0=some r):Fine Tryd.prog Mo (X7 x0 x1c0 r):=
 Zi Tryd.func116 (bnK h fun r0 hr0 h=>rtK h (rr (Ws hr0) ee))
abbrev Zgw (x0:GReq) (r:Bool):Y:=(91,[.agg (GReq.enc x0)],bl r,[.undef])
theorem Zcg {x0:GReq} {r:Bool} {v0:Int} (h:Qt x0 v0=some r):CS (Zgw x0 r) Tryd.f91 [1,1,1] [(1,.ptr (1,1) 0 0),(3,il v0)] [bx 1 (GReq.enc x0)]:=
 bnK h fun r0 hr0 h=>itK h (fun g1 h=>itK h (fun g2 h=>bnK h fun r1 hr1 h=>rtK h (rr (Zbg hr0) (gg g1 (kk 2 (lr encI x0.data_ (kk 3 (gg g2 (kk 3 (rr (X3 hr1) (kk 2 ee)))))))))) fun g2 h=>rtK h (rr (Zbg hr0) (gg g1 (kk 2 (lr encI x0.data_ (kk 3 (gg g2 (kk 5 ee)))))))) fun g1 h=>rtK h (rr (Zbg hr0) (gg g1 (kk 11 ee)))
theorem Zg8 {x0:GReq} {r:Bool} (h:Zas x0=some r):Fine Tryd.prog Mo (Zgw x0 r):=
 Zi Tryd.func91 (itK h (fun g1 h=>bnK h fun r2 hr2 h=>cutX [((1,1),(1,0))] 9 (gg g1 (rr (Zbb hr2) ee)) (Zcg h)) fun g1 h=>cutX [((1,1),(1,0))] 9 (gg g1 ee) (Zcg h))
abbrev Zhd  (r:List ByteArray):Y:=(92,[],.own 9 (r.map encS),[])
theorem Zhh  {r:List ByteArray} (h:Jn  = some r):Fine Tryd.prog Mo (Zhd  r):=
 Zi Tryd.func92 (rtK h (kk 1 (ob (show 3=([(strL [98,121,116,101]),(strL [104,97,108,102]),(strL [119,111,114,100])].map encS).length from rfl) ee)))
abbrev Zf3  (r:List ByteArray):Y:=(93,[],.own 9 (r.map encS),[])
theorem Zga  {r:List ByteArray} (h:Kv  = some r):Fine Tryd.prog Mo (Zf3  r):=
 Zi Tryd.func93 (rtK h (kk 1 (ob (show 4=([(strL [111,110,101]),(strL [102,111,117,114]),(strL [119,114,97,112]),(strL [101,105,103,104,116])].map encS).length from rfl) ee)))
abbrev Zkh (x0:GReq) (r:ByteArray):Y:=(56,[.agg (GReq.enc x0)],ss r,[.undef])
theorem Zec {x0:GReq} {r:ByteArray} (h:K2 x0=some r):Fine Tryd.prog Mo (Zkh x0 r):=
 Zi Tryd.func56 (bnK h fun r0 hr0 h=>itK h (fun g1 h=>rtK h (rr (Zg8 hr0) (gg g1 ee))) fun g1 h=>bnK h fun r1 hr1 h=>bnK h fun r2 hr2 h=>bnK h fun a0 ha0 h=>bnK h fun r3 hr3 h=>bnK h fun a1 ha1 h=>bnK h fun r4 hr4 h=>have p1 {q p} (k:Scr q p):=(rr (Zg8 hr0) (gg g1 (rr (Zhm hr1) (rr (Zhh hr2) (xd encS ha0 (rr (Zga hr3) (xd encS ha1 (rr (Zdg hr4) k))))))));itK h (fun g2 h=>bnK h fun z0 hz0 h=>bnK h fun r5 hr5 h=>bnK h fun z1 hz1 h=>bnK h fun r6 hr6 h=>rtK h (p1 (gg g2 (ta encS [(strL [108,111,99,107])] z0 (kk 1 (oa 1 Zca (strL [108,111,99,107]) (ob (show 4=([r1,a0,a1,r4].map encS).length from rfl) (ob (apl encS hz0) (ob (apm encS hz0) (oe encS z0 (rr (Zek hr5) (ta encS r5 z1 (kk 2 (oe encS r5 (ob (Eq.refl (r5.map encS)) (ob (alr 1 Zca r5) (ox encS hz1 (oe encS z1 (oe encS z1 (rr (Kw hr6) ee)))))))))))))))))))) fun g2 h=>bnK h fun r5 hr5 h=>bnK h fun z1 hz1 h=>bnK h fun r6 hr6 h=>rtK h (p1 (gg g2 (rr (Zek hr5) (ta encS r5 z1 (kk 2 (oe encS r5 (ob (Eq.refl (r5.map encS)) (ob (alr 1 Zca r5) (ob (show 4=([r1,a0,a1,r4].map encS).length from rfl) (ob (apl encS hz1) (ob (apm encS hz1) (oe encS z1 (oe encS z1 (rr (Kw hr6) ee)))))))))))))))
abbrev Zbt (x0:GScript) (r:ByteArray):Y:=(23,[.agg (GScript.enc x0)],ss r,[.undef])
theorem Zc4 {x0:GScript} {r:ByteArray}:∀{m:Nat} {v0:ByteArray} {v1:Int},Y1 x0 m v0 v1=some r→CS (Zbt x0 r) Tryd.f23 [1,1,0,1,0] [(3,ss v0),(15,.tr (x0.posts.map GPost.enc)),(16,il (x0.posts.length:Int)),(17,il v1)] []:=by
 intro m
 induction m with
 | zero=>intro v0 v1 h;cases h
 | succ m ih=>exact fun {v0} {v1} h=>itK h (fun g1 h=>bnK h fun a0 ha0 h=>bnK h fun r0 hr0 h=>itK h (fun g2 h=>rtK h (gg g1 (xb GPost.enc ha0 (rr (Zec hr0) (gg g2 ee))))) fun g2 h=>bnK h fun r1 hr1 h=>bnK h fun n0 hn0 h=>bnK h fun n1 hn1 h=>bnK h fun r2 hr2 h=>bnK h fun n2 hn2 h=>bnK h fun n3 hn3 h=>bnK h fun n4 hn4 h=>bnK h fun n5 hn5 h=>bnK h fun n6 hn6 h=>cutX [] 20 (gg g1 (xb GPost.enc ha0 (rr (Zec hr0) (gg g2 (rr (Zdg hr1) (tp (.obl) (tp (.obl) (ob (cat0 hn0) (ob (cat0 hn1) (rr (Zdg hr2) (tp (.obl) (tp (.obl) (tp (.obl) (tp (.obl) (tp (.obl) (ob (cat0 hn2) (ob (cat0 hn3) (ob (cat0 hn4) (ob (cat0 hn5) (ob (cat0 hn6) ee)))))))))))))))))))) (ih h)) fun g1 h=>rtK h (gg g1 ee)
theorem Zgd {x0:GScript} {r:ByteArray} (h:Qf x0=some r):Fine Tryd.prog Mo (Zbt x0 r):=
 Zi Tryd.func23 (bnK h fun r3 hr3 h=>bnK h fun r4 hr4 h=>bnK h fun n7 hn7 h=>cutX [] 8 (rr (Zc7 hr3) (rr (Zc7 hr4) (tp (.obl) (ob (cat0 hn7) (lr GPost.enc x0.posts ee))))) (Zc4 h))
abbrev Ze1 (x0:List Int) (x1:List Int) (r:Bool):Y:=(58,[.tr (x0.map encI),.tr (x1.map encI)],bl r,[.undef,.undef])
theorem Zf9 {x0:List Int} {x1:List Int} {r:Bool}:∀{m:Nat} {v0:Int},W6 x0 x1 m v0=some r→CS (Ze1 x0 x1 r) Tryd.f58 [1,1,0,1,0] [(0,.tr (x0.map encI)),(1,.tr (x1.map encI)),(5,il v0)] []:=by
 intro m
 induction m with
 | zero=>intro v0 h;cases h
 | succ m ih=>exact fun {v0} h=>itK h (fun g1 h=>bnK h fun a0 ha0 h=>bnK h fun a1 ha1 h=>itK h (fun g2 h=>rtK h (lr encI x0 (gg g1 (xb encI ha0 (xb encI ha1 (gg g2 ee)))))) fun g2 h=>cutX [] 14 (lr encI x0 (gg g1 (xb encI ha0 (xb encI ha1 (gg g2 ee))))) (ih h)) fun g1 h=>rtK h (lr encI x0 (gg g1 ee))
theorem Kl {x0:List Int} {x1:List Int} {r:Bool} (h:W8 x0 x1=some r):Fine Tryd.prog Mo (Ze1 x0 x1 r):=
 Zi Tryd.func58 (itK h (fun g1 h=>rtK h (lr encI x0 (lr encI x1 (gg g1 ee)))) fun g1 h=>cutX [] 11 (lr encI x0 (lr encI x1 (gg g1 ee))) (Zf9 h))
abbrev Zm3 (x0:GReq) (x1:GReq) (r:Bool):Y:=(119,[.agg (GReq.enc x0),.agg (GReq.enc x1)],bl r,[.undef,.undef])
theorem Zgu {x0:GReq} {x1:GReq} {r:Bool} (h:Za5 x0 x1=some r):Fine Tryd.prog Mo (Zm3 x0 x1 r):=
 Zi Tryd.func119 (itK h (fun g1 h=>rtK h (gg g1 ee)) fun g1 h=>itK h (fun g2 h=>rtK h (gg g1 (gg g2 ee))) fun g2 h=>itK h (fun g3 h=>rtK h (gg g1 (gg g2 (gg g3 ee)))) fun g3 h=>itK h (fun g4 h=>rtK h (gg g1 (gg g2 (gg g3 (gg g4 ee))))) fun g4 h=>itK h (fun g5 h=>rtK h (gg g1 (gg g2 (gg g3 (gg g4 (gg g5 ee)))))) fun g5 h=>bnK h fun r0 hr0 h=>itK h (fun g6 h=>rtK h (gg g1 (gg g2 (gg g3 (gg g4 (gg g5 (rr (Kl hr0) (gg g6 ee)))))))) fun g6 h=>rtK h (gg g1 (gg g2 (gg g3 (gg g4 (gg g5 (rr (Kl hr0) (gg g6 ee))))))))
abbrev Zlj (x0:GPost) (x1:GPost) (r:Bool):Y:=(94,[.agg (GPost.enc x0),.agg (GPost.enc x1)],bl r,[.undef,.undef])
theorem Zl8 {x0:GPost} {x1:GPost} {r:Bool} (h:W9 x0 x1=some r):Fine Tryd.prog Mo (Zlj x0 x1 r):=
 Zi Tryd.func94 (itK h (fun g1 h=>rtK h (gg g1 ee)) fun g1 h=>itK h (fun g2 h=>rtK h (gg g1 (gg g2 ee))) fun g2 h=>bnK h fun r0 hr0 h=>itK h (fun g3 h=>rtK h (gg g1 (gg g2 (rr (Zgu hr0) (gg g3 ee))))) fun g3 h=>rtK h (gg g1 (gg g2 (rr (Zgu hr0) (gg g3 ee)))))
abbrev Zea (x0:List GPost) (x1:List GPost) (r:Bool):Y:=(57,[.tr (x0.map GPost.enc),.tr (x1.map GPost.enc)],bl r,[.undef,.undef])
theorem Zfu {x0:List GPost} {x1:List GPost} {r:Bool}:∀{m:Nat} {v0:Int},Wr x0 x1 m v0=some r→CS (Zea x0 x1 r) Tryd.f57 [1,1,0,1,0] [(0,.tr (x0.map GPost.enc)),(1,.tr (x1.map GPost.enc)),(5,il v0)] []:=by
 intro m
 induction m with
 | zero=>intro v0 h;cases h
 | succ m ih=>exact fun {v0} h=>itK h (fun g1 h=>bnK h fun a0 ha0 h=>bnK h fun a1 ha1 h=>bnK h fun r0 hr0 h=>have p1 {q p} (k:Scr q p):=(lr GPost.enc x0 (gg g1 (xb GPost.enc ha0 (xb GPost.enc ha1 (rr (Zl8 hr0) k)))));itK h (fun g2 h=>rtK h (p1 (gg g2 ee))) fun g2 h=>cutX [] 14 (p1 (gg g2 ee)) (ih h)) fun g1 h=>rtK h (lr GPost.enc x0 (gg g1 ee))
theorem Zdx {x0:List GPost} {x1:List GPost} {r:Bool} (h:Je x0 x1=some r):Fine Tryd.prog Mo (Zea x0 x1 r):=
 Zi Tryd.func57 (itK h (fun g1 h=>rtK h (lr GPost.enc x0 (lr GPost.enc x1 (gg g1 ee)))) fun g1 h=>cutX [] 11 (lr GPost.enc x0 (lr GPost.enc x1 (gg g1 ee))) (Zfu h))
abbrev Zi4 (x0:GScript) (x1:GScript) (r:Bool):Y:=(24,[.agg (GScript.enc x0),.agg (GScript.enc x1)],bl r,[.undef,.undef])
theorem Zht {x0:GScript} {x1:GScript} {r:Bool} (h:Ka x0 x1=some r):Fine Tryd.prog Mo (Zi4 x0 x1 r):=
 Zi Tryd.func24 (bnK h fun r0 hr0 h=>itK h (fun g1 h=>rtK h (rr (Zdx hr0) (gg g1 ee))) fun g1 h=>bnK h fun r1 hr1 h=>have p1 {q p} (k:Scr q p):=(rr (Zdx hr0) (gg g1 (rr (Kl hr1) k)));itK h (fun g2 h=>rtK h (p1 (gg g2 ee))) fun g2 h=>bnK h fun r2 hr2 h=>itK h (fun g3 h=>rtK h (p1 (gg g2 (rr (Kl hr2) (gg g3 ee))))) fun g3 h=>rtK h (p1 (gg g2 (rr (Kl hr2) (gg g3 ee)))))
abbrev Zbn (x0:GScript) (r:Bool):Y:=(6,[.agg (GScript.enc x0)],bl r,[.undef])
theorem Zbo {x0:GScript} {r:Bool} (h:Xv x0=some r):Fine Tryd.prog Mo (Zbn x0 r):=
 Zi Tryd.func6 (bnK h fun r0 hr0 h=>have p1 {q p} (k:Scr q p):=(rr (Zib hr0) k);itK h (fun g1 h=>rtK h (p1 (gg g1 ee))) fun g1 h=>bnK h fun r1 hr1 h=>bnK h fun r2 hr2 h=>bnK h fun r3 hr3 h=>bnK h fun r4 hr4 h=>have p2 {q p} (k:Scr q p):=(p1 (gg g1 (rr (Zam hr1) (kk 3 (GScript.so r1 (rr (Zgi hr2) (rr (Zam hr3) (kk 3 (GScript.so r3 (rr (Zgd hr4) k))))))))));itK h (fun g2 h=>rtK h (p2 (gg g2 ee))) fun g2 h=>bnK h fun r5 hr5 h=>bnK h fun r6 hr6 h=>have p3 {q p} (k:Scr q p):=(p2 (gg g2 (rr (Zam hr5) (kk 6 (GScript.so r3 (GScript.so r5 (rr (Zht hr6) k)))))));itK h (fun g3 h=>rtK h (p3 (gg g3 ee))) fun g3 h=>rtK h (p3 (gg g3 ee)))
end Go.Proofs.YtgmmcfpabnoekaaDoor.Ev
