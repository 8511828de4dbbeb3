/- A part of the proof of FnExactDesk: see the text YthdljdelfgofdaaGreatDoorLawFnExactDesk for what is proved and its conditions. Conditions here: those in each line. -/
import Derived.Test.YthdljdelfgofdaaGreatDoorA4
set_option linter.unusedSimpArgs false
set_option linter.unusedVariables false
set_option linter.unusedSectionVars false
namespace Go.Proofs.YthdljdelfgofdaaGreatDoor.Ev
open Go Go.Proofs
variable [Anchor] [BG]
abbrev Ygd (x0:ByteArray) (x1:Int) (r:List ByteArray):Y:=(23,[ss x0,iu x1],.own 9 (r.map Zp),un 2)
theorem Yrd {x0 x1 r}:∀{m v0 v1 v2},XV x0 x1 m v0 v1 v2=some r->CS (Ygd x0 x1 r) Tryz.f23 [1,1,1,0,1,0] [(0,ss x0),(1,iu x1),(5,sq 1 (v0.map Zp).length),(6,il v1),(7,il v2)] [rx 1 9 (v0.map Zp)]:=by
 intro m
 induction m with
 | zero=>intro v0 v1 v2 h;cases h
 | succ m ih=>exactλ{v0} {v1} {v2}=>st<|it (bn λ{a0} Qe=>jp (.val (.lit (.int .u8 a0)))<|jo (Mu Qe)<|it (bn λ{s0} Qu=>jp (.val (.lit (.string s0)))<|bn λ{z0} Xf=>jt Zp [s0] z0<|jk 1<|jo (ssx Qu)<|ja 1 Qx s0<|jx Zp Xf<|jn Zp z0<|je Zp z0<|cx (fz 1 4 6144) 16 ih)<|jn Zp v0<|cx (Ay 1 1) 14 ih)<|bn λ{s1} Cc=>jp (.val (.lit (.string s1)))<|bn λ{z1} Ej=>jt Zp [s1] z1<|jk 2<|jo (Mv Cc)<|ja 1 Qx s1<|jx Zp Ej<|je Zp z1<|je Zp z1<|rt
theorem Yzv {x0 x1 r}  : Wt x0 x1=some r->Zr Tryz.prog Mo (Ygd x0 x1 r):=
 fK Tryz.func23<|jp (.num ([].map Zp).length 0 0 [])<|jo (show 0=([].map Zp).length from rfl)<|cx (fz 1 2 0) 10 Yrd
abbrev Y5c (x0:ByteArray) (x1:Int) (r:List ByteArray):Y:=(23,[ss x0,iu x1],.tr (r.map Zp),un 2)
theorem RG {x0:ByteArray} {x1:Int} {r:List ByteArray} (h:Wt x0 x1=some r):Zr Tryz.prog Mo (Y5c x0 x1 r):=Y9a (by kernel_rfl) (Yzv h)
abbrev Y86 (x0:Int) (x1:Int) (x2:Int) (r:Bool):Y:=(78,[il x0,il x1,il x2],bl r,un 3)
theorem Ye {x0 x1 x2 r}  : Z1 x0 x1 x2=some r->Zr Tryz.prog Mo (Y86 x0 x1 x2 r):=
 fK Tryz.func78<|it (jk 3<|rt)<|jk 3<|rt
abbrev Yj3 (x0:Zh) (r:Int):Y:=(130,[.agg (Zh.enc x0)],il r,un 1)
theorem Z6w {x0 r} {v0}:iY x0 v0=some r->CS (Yj3 x0 r) Tryz.f130 [1,0,1] [(1,pt 1),(12,bl v0)] [bx 1 (Zh.enc x0)]:=
 st<|it rt<|rt
theorem zK {x0 r}  : QX x0=some r->Zr Tryz.prog Mo (Yj3 x0 r):=
 fK Tryz.func130<|br Ye<|it (jk 4<|cx (fz 1 1 0) 5 Z6w)<|jk 2<|br Ye<|jk 2<|cx (fz 1 1 0) 5 Z6w
abbrev Y39 (x0:Zh) (r:Int):Y:=(79,[.agg (Zh.enc x0)],il r,un 1)
theorem Yk7 {x0 r}  : NT x0=some r->Zr Tryz.prog Mo (Y39 x0 r):=
 fK Tryz.func79<|br zK<|it (jk 5<|rt)<|jk 2<|br Ye<|jk 2<|it rt<|br zK<|rt
abbrev Ysz (x0:Zh) (r:Bool):Y:=(80,[.agg (Zh.enc x0)],bl r,un 1)
theorem Ysr {x0 r}  : iZ x0=some r->Zr Tryz.prog Mo (Ysz x0 r):=
 fK Tryz.func80<|br Ye<|it (jk 1<|br zK<|jk 2<|it (jk 2<|br Ye<|jk 1<|it (jk 2<|br Ye<|jk 1<|rt)<|jk 3<|rt)<|jk 7<|rt)<|jk 11<|rt
abbrev zL (x0:Zh) (r:Bool):Y:=(41,[.agg (Zh.enc x0)],bl r,un 1)
theorem Yox {x0 r}:∀{m v0 v1},NU x0 m v0 v1=some r->CS (zL x0 r) Tryz.f41 [1,1,1,0,1,0] [(1,pt 1),(3,il v0),(5,il v1)] [bx 1 (Zh.enc x0)]:=by
 intro m
 induction m with
 | zero=>intro v0 v1 h;cases h
 | succ m ih=>exact st<|js Ze.enc x0.Ab<|it (bb Ze.enc<|br Ye<|it (jk 11<|rt)<|jk 3<|it (jk 3<|it (jk 13<|rt)<|jk 7<|it (jk 5<|rt)<|jk 2<|it (jk 5<|br Yk7<|jk 2<|br Ye<|jk 2<|it (jk 9<|rt)<|jk 2<|br Ye<|jk 6<|it rt<|cx (Ay 1 1) 16 ih)<|jk 14<|cx (Ay 1 1) 16 ih)<|jk 10<|it (jk 5<|br Yk7<|jk 2<|br Ye<|jk 2<|it (jk 9<|rt)<|jk 2<|br Ye<|jk 6<|it rt<|cx (Ay 1 1) 16 ih)<|jk 14<|cx (Ay 1 1) 16 ih)<|js Ze.enc x0.Ab<|br Ye<|it (jk 1<|br Ysr<|jk 1<|rt)<|jk 2<|rt
theorem Yng {x0 r}:∀{m v0 v2},jA x0 m v0 v2=some r->CS (zL x0 r) Tryz.f41 [1,1,0,1,0] [(1,pt 1),(3,il v0),(4,il v2)] [bx 1 (Zh.enc x0)]:=by
 intro m
 induction m with
 | zero=>intro v0 v2 h;cases h
 | succ m ih=>exact st<|js Ze.enc x0.Ab<|it (bb Ze.enc<|it (cx (Ay 1 1) 14 ih)<|cx (Ay 1 1) 14 ih)<|cx (Ay 1 1) 13 Yox
theorem TU {x0 r}  : Mx x0=some r->Zr Tryz.prog Mo (zL x0 r):=
 fK Tryz.func41<|cx (fz 1 1 0) 8 Yng
abbrev Y2e (x0:Zh) (r:Zh):Y:=(42,[.agg (Zh.enc x0)],.agg [.own 83 (r.Ab.map Ze.enc),il r.Av,il r.As,il r.An,il r.Ap,il r.Am],un 1)
theorem Yjx {x0 r}  : XW x0=some r->Zr Tryz.prog Mo (Y2e x0 r):=
 fK Tryz.func42<|bn λ{z0} Xf=>jt Ze.enc x0.Ab z0<|jk 1<|jw (ol 4 Ze.A8 Ze.BZ x0.Ab)<|jo (Fu Ze.enc Xf)<|jo (GH Ze.enc Xf)<|je Ze.enc z0<|je Ze.enc z0<|rt
abbrev Y34  (r:Zm):Y:=(81,[],.agg (Zm.ow r),[])
theorem Y2j {r}  : yM  = some r->Zr Tryz.prog Mo (Y34  r):=
 fK Tryz.func81<|bn λ{m0} Dn=>jp (.mk (4:Int).toNat (m0.map Zc))<|jk 1<|jo (KT Dn)<|jo (KT Dn)<|jo (XT Dn)<|jo (XU Zc Dn)<|je Zc m0<|rt
abbrev Ys1  (r:Zf):Y:=(43,[],.agg (Zf.ow r),[])
theorem Ybt {r}  : XX  = some r->Zr Tryz.prog Mo (Ys1  r):=
 fK Tryz.func43<|bn λ{m0} Dn=>jp (.mk (192:Int).toNat (m0.map Zc))<|jo (KT Dn)<|jo (KT Dn)<|jo (XT Dn)<|jo (XU Zc Dn)<|br Y2j λ{r0}=>jk 3<|je Zc m0<|jw (Zm.so r0)<|rt
abbrev Yrg (x0:Ze) (r:Zj):Y:=(44,[.agg (Ze.enc x0)],.agg (Zj.enc r),un 1)
theorem Yq2 {x0 r}  : jB x0=some r->Zr Tryz.prog Mo (Yrg x0 r):=
 fK Tryz.func44<|it rt<|rt
abbrev Yme (x0:Zh) (r:Za×Bool):Y:=(16,[.agg (Zh.enc x0)],.AW [.agg (Za.ow r.1),bl r.2],un 1)
theorem Ynq {x0 r}:∀{m Ad v0},jD x0 m Ad v0=some r->CS (Yme x0 r) Tryz.f16 [1,1,1,0,1,0] [(1,pt 1),(2,pt 2),(4,pt 11),(5,il v0)] ([bx 1 (Zh.enc x0)]++Za.bk Za.z0 3++[bx 2 (Za.rl Za.z0 3)]++Za.bk Ad 12++[bx 11 (Za.rl Ad 12)]):=by
 intro m
 induction m with
 | zero=>intro Ad v0 h;cases h
 | succ m ih=>exactλ{Ad} {v0}=>st<|js Ze.enc x0.Ab<|it (bn λ{z0} Xf=>jt Zg.enc [Zg.z0] z0<|jk 1<|ja 6 Zg.A8 Zg.z0<|jx Zg.enc Xf<|je Zg.enc z0<|bb Ze.enc<|br Yq2 λ{r0}=>bn λ{z1} Ej=>jt Zj.enc [r0] z1<|jk 1<|bn λ{z2} TV=>jt Zc [0] z2<|jk 1<|ja 2 Zj.A8 r0<|jx Zj.enc Ej<|je Zj.enc z1<|ja 1 Ju 0<|jx Zc TV<|je Zc z2<|jw (Za.sc Za.z0)<|jw (Za.sc {Ad with m:=z0,buckets:=z1,splits:=z2})<|cx (Ay 1 12++fz 13 3 4096++fz 14 4 9216++fz 15 5 3072++Ay 16 4) 15 ih)<|jk 8<|jw (Za.so Ad)<|rt
theorem Y3x {x0 r}  : jE x0=some r->Zr Tryz.prog Mo (Yme x0 r):=
 fK Tryz.func16<|br TU<|it rt<|br Yjx λ{r2}=>br Ybt λ{r3}=>jn Ze.enc r2.Ab<|jp (.num (r3.mem.map Zc).length 0 0 [])<|jp (.num (r3.dev.AB.map Zc).length 0 0 [])<|jp (.num (r3.dev.A1.map Zc).length 0 0 [])<|jw (Zf.so r3)<|cx (fz 1 1 0++fz 2 1 1024++fz 11 3 4096++fz 12 3 1024++fz 16 3 2048++fz 17 3 2049++fz 18 3 2051) 13 Ynq
abbrev p8 (x0:Int) (r:ByteArray):Y:=(13,[il x0],ss r,un 1)
theorem Yg9 {x0 r} {AM:Int->ByteArray->Option ByteArray} (By:∀{v0 v1},AM v0 v1=some r->CS (p8 x0 r) Tryz.f13 [1,1,1,1,0,0] [(0,il v0),(3,ss v1),(4,bl (decide (x0 < 0)))] []) {v0 v1 v2}:XY x0 AM v0 v1 v2=some r->CS (p8 x0 r) Tryz.f13 [1,1,1,1,0,0,0,1,0,1,1] [(0,il v0),(3,ss v1),(4,bl (decide (x0 < 0))),(5,il v2)] []:=
 st<|jk 1<|jp (.val (.lit (.string (II [(w8 (Zo 48 v2))]))))<|jl<|jk 1<|jo (show 1=([(w8 (Zo 48 v2))].map yD).length from rfl)<|jo (stx [(w8 (Zo 48 v2))])<|bo Yi<|cx [] 4 By
theorem Yzm {x0 r}:∀{m v0 v1},Ti x0 m v0 v1=some r->CS (p8 x0 r) Tryz.f13 [1,1,1,1,0,0] [(0,il v0),(3,ss v1),(4,bl (decide (x0 < 0)))] []:=by
 intro m
 induction m with
 | zero=>intro v0 v1 h;cases h
 | succ m ih=>exact st<|it (jk 1<|it (cx [] 14 (Yg9 ih))<|cx [] 14 (Yg9 ih))<|it (jl<|bo Yi<|rt)<|rt
theorem K6 {x0 r}  : Qz x0=some r->Zr Tryz.prog Mo (p8 x0 r):=
 fK Tryz.func13<|it rt<|cx [] 13 Yzm
abbrev Ydh (x0:Zh) (r:ByteArray):Y:=(40,[.agg (Zh.enc x0)],ss r,un 1)
theorem Yil {x0 r}:∀{m v0 v1},XZ x0 m v0 v1=some r->CS (Ydh x0 r) Tryz.f40 [1,1,1,0,1,0] [(1,pt 1),(3,ss v0),(4,il v1)] [bx 1 (Zh.enc x0)]:=by
 intro m
 induction m with
 | zero=>intro v0 v1 h;cases h
 | succ m ih=>exact st<|js Ze.enc x0.Ab<|it (bb Ze.enc<|jl<|bo Yi<|br K6<|jl<|bo Yi<|it (jl<|bo Yi<|br K6<|jl<|jl<|bo Yi<|bo Yi<|br K6<|jl<|bo Yi<|cx (Ay 1 1) 18 ih)<|cx (Ay 1 1) 18 ih)<|rt
theorem Yci {x0 r}  : Tj x0=some r->Zr Tryz.prog Mo (Ydh x0 r):=
 fK Tryz.func40<|br TU<|it rt<|br K6<|jl<|bo Yi<|br K6<|jl<|jl<|bo Yi<|bo Yi<|br K6<|jl<|jl<|bo Yi<|bo Yi<|br K6<|jl<|jl<|bo Yi<|bo Yi<|br K6<|jl<|bo Yi<|cx (fz 1 1 0) 13 Yil
abbrev Ylu (x0:List ByteArray) (x1:ByteArray) (r:Int):Y:=(62,[.tr (x0.map Zp),ss x1],il r,un 2)
theorem Yos {x0 x1 r}:∀{m v0},NW x0 x1 m v0=some r->CS (Ylu x0 x1 r) Tryz.f62 [1,0,1,0] [(0,.tr (x0.map Zp)),(1,ss x1),(5,il v0)] []:=by
 intro m
 induction m with
 | zero=>intro v0 h;cases h
 | succ m ih=>exact st<|js Zp x0<|it (bb Zp<|it rt<|cx [] 14 ih)<|rt
theorem zM {x0 x1 r}  : KW x0 x1=some r->Zr Tryz.prog Mo (Ylu x0 x1 r):=
 fK Tryz.func62<|cx [] 6 Yos
abbrev Ylw (x0:Zh) (x1:Int) (r:Int):Y:=(133,[.agg (Zh.enc x0),il x1],il r,un 2)
theorem Z7g {x0 x1 r} {v0}:jF x0 x1 v0=some r->CS (Ylw x0 x1 r) Tryz.f133 [1,0,1] [(1,il x1),(2,pt 1),(16,bl v0)] [bx 1 (Zh.enc x0)]:=
 st<|it rt<|bb Ze.enc<|rt
theorem zN {x0 x1 r}  : QY x0 x1=some r->Zr Tryz.prog Mo (Ylw x0 x1 r):=
 fK Tryz.func133<|br TU<|it (jk 7<|cx (fz 1 1 0) 5 Z7g)<|jk 3<|js Ze.enc x0.Ab<|jk 2<|br Ye<|jk 2<|cx (fz 1 1 0) 5 Z7g
abbrev Y69 (x0:Yb) (x1:Zh) (r:Bool):Y:=(84,[.agg (Yb.enc x0),.agg (Zh.enc x1)],bl r,un 2)
theorem zO {x0 x1 r}  : Tk x0 x1=some r->Zr Tryz.prog Mo (Y69 x0 x1 r):=
 fK Tryz.func84<|br TU<|it (jk 4<|js Ze.enc x1.Ab<|jk 2<|br Ye<|jk 1<|it (jk 5<|br zN<|jk 1<|br Ye<|jk 1<|rt)<|jk 7<|rt)<|jk 15<|rt
abbrev Yg8 (x0:List Int) (r:Bool):Y:=(134,[.tr (x0.map Zc)],bl r,un 1)
theorem Yj1 {x0 r}:∀{m v0},jG x0 m v0=some r->CS (Yg8 x0 r) Tryz.f134 [1,0,1,0] [(0,.tr (x0.map Zc)),(3,il v0)] []:=by
 intro m
 induction m with
 | zero=>intro v0 h;cases h
 | succ m ih=>exact st<|js Zc x0<|it (bb Zc<|br Ye<|it rt<|cx [] 14 ih)<|js Zc x0<|rt
theorem Yht {x0 r}  : YA x0=some r->Zr Tryz.prog Mo (Yg8 x0 r):=
 fK Tryz.func134<|cx [] 6 Yj1
abbrev Yyk (x0:Int) (r:Int):Y:=(110,[il x0],il r,un 1)
theorem Ov {x0 r}  : HG x0=some r->Zr Tryz.prog Mo (Yyk x0 r):=
 fK Tryz.func110<|br Ye<|it rt<|jl<|bo Tg<|rt
abbrev Yxz (x0:Int) (r:Int):Y:=(113,[il x0],il r,un 1)
theorem ME {x0 r}  : Ke x0=some r->Zr Tryz.prog Mo (Yxz x0 r):=
 fK Tryz.func113<|br Ov<|it rt<|br Ov<|jl<|bo Tg<|rt
abbrev Ygy (x0:List Int) (r:Bool):Y:=(187,[.tr (x0.map Zc)],bl r,un 1)
theorem Ykt {x0 r}:∀{m v0},jH x0 m v0=some r->CS (Ygy x0 r) Tryz.f187 [1,0,1,0] [(0,.tr (x0.map Zc)),(3,il v0)] []:=by
 intro m
 induction m with
 | zero=>intro v0 h;cases h
 | succ m ih=>exact st<|js Zc x0<|it (bb Zc<|br ME<|br Ye<|it rt<|cx [] 14 ih)<|rt
theorem Yha {x0 r}  : YB x0=some r->Zr Tryz.prog Mo (Ygy x0 r):=
 fK Tryz.func187<|cx [] 6 Ykt
abbrev Y6l (x0:Zm) (r:Bool):Y:=(135,[.agg (Zm.enc x0)],bl r,un 1)
theorem Yph {x0 r}  : YC x0=some r->Zr Tryz.prog Mo (Y6l x0 r):=
 fK Tryz.func135<|js Zc x0.AB<|it (jk 2<|br Yha<|jk 1<|it (jk 2<|br ME<|jk 2<|br Ye<|jk 1<|it (jk 2<|js Zc x0.A1<|jk 2<|it (jk 2<|br Yha<|jk 1<|rt)<|jk 3<|rt)<|jk 8<|rt)<|jk 14<|rt)<|jk 18<|rt
abbrev Yyp (x0:Zf) (r:Bool):Y:=(85,[.agg (Zf.enc x0)],bl r,un 1)
theorem Yg6 {x0 r}  : YD x0=some r->Zr Tryz.prog Mo (Yyp x0 r):=
 fK Tryz.func85<|js Zc x0.mem<|it (jk 2<|br Yht<|jk 1<|it (jk 2<|br Yph<|jk 1<|rt)<|jk 3<|rt)<|jk 7<|rt
abbrev Yxq (x0:Int) (r:Int):Y:=(112,[il x0],il r,un 1)
theorem TW {x0 r}  : KX x0=some r->Zr Tryz.prog Mo (Yxq x0 r):=
 fK Tryz.func112<|br Ye<|it rt<|bd Zc<|rt
abbrev Yxt (x0:Int) (x1:Int) (r:Bool):Y:=(138,[il x0,il x1],bl r,un 2)
theorem bQ {x0 x1 r}  : KY x0 x1=some r->Zr Tryz.prog Mo (Yxt x0 x1 r):=
 fK Tryz.func138<|br Ov<|it (jk 2<|it (jk 2<|br Ov<|jk 1<|jl<|jk 2<|bo KV<|rt)<|jk 5<|rt)<|jk 8<|rt
abbrev zP (x0:Int) (x1:Int) (x2:Int) (r:Int):Y:=(221,[il x0,il x1,il x2],il r,un 3)
theorem Z15 {x0 x1 x2 r} {v0 v1}:jI x0 x1 x2 v0 v1=some r->CS (zP x0 x1 x2 r) Tryz.f221 [1,1,1,0,1] [(0,il x0),(7,il v0),(34,bl v1)] []:=
 st<|it rt<|rt
theorem zQ {x0 x1 x2 r} {v0 v2}:YE x0 x1 x2 v0 v2=some r->CS (zP x0 x1 x2 r) Tryz.f221 [1,1,0,1] [(0,il x0),(2,il x2),(7,il v0),(23,bl v2)] []:=
 st<|it rt<|it (jk 5<|jl<|jk 2<|bo KV<|cx [] 5 Z15)<|jk 7<|cx [] 5 Z15
theorem Ycb {x0 x1 x2 r}  : YF x0 x1 x2=some r->Zr Tryz.prog Mo (zP x0 x1 x2 r):=
 fK Tryz.func221<|br Ov<|br bQ<|it (jk 7<|cx [] 7 zQ)<|jk 1<|br Ye<|jk 2<|it (jk 3<|cx [] 7 zQ)<|jk 1<|br TW<|jk 2<|cx [] 7 zQ
abbrev p9 (x0:Int) (x1:Int) (x2:Int) (r:List Int):Y:=(173,[il x0,il x1,il x2],.own 3 (r.map Zc),un 3)
theorem Zza {x0 x1 x2 r} {AM:Int->(List Int)->Option (List Int)} (By:∀{v0 v1},AM v0 v1=some r->CS (p9 x0 x1 x2 r) Tryz.f173 [1,1,0,0] [(0,il v0),(1,il x1),(2,il x2),(7,sq 1 (v1.map Zc).length)] [rx 1 3 (v1.map Zc)]) {v0 v1 v2}:YG x0 x1 x2 AM v0 v1 v2=some r->CS (p9 x0 x1 x2 r) Tryz.f173 [1,1,0,0,0,0,1] [(0,il v0),(1,il x1),(2,il x2),(7,sq 1 (v1.map Zc).length),(20,bl v2)] [rx 1 3 (v1.map Zc)]:=
 st<|it (bn λ{z0} Xf=>jt Zc [v0] z0<|jk 1<|ja 1 Ju v0<|jx Zc Xf<|je Zc z0<|br Ycb<|jn Zc z0<|cx (fz 1 2 3072) 7 By)<|js Zc v1<|br TW<|it (jk 1<|jo (show 0=([].map Zc).length from rfl)<|rt)<|jk 1<|je Zc v1<|rt
theorem Ydy {x0 x1 x2 r}:∀{m v0 v1},jJ x0 x1 x2 m v0 v1=some r->CS (p9 x0 x1 x2 r) Tryz.f173 [1,1,0,0] [(0,il v0),(1,il x1),(2,il x2),(7,sq 1 (v1.map Zc).length)] [rx 1 3 (v1.map Zc)]:=by
 intro m
 induction m with
 | zero=>intro v0 v1 h;cases h
 | succ m ih=>exactλ{v0} {v1}=>st<|js Zc v1<|br TW<|it (jk 3<|br Ycb<|jk 2<|jn Zc v1<|cx (Ay 1 1) 4 (Zza ih))<|jk 5<|jn Zc v1<|cx (Ay 1 1) 4 (Zza ih)
theorem Z7k {x0 x1 x2 r}  : YI x0 x1 x2=some r->Zr Tryz.prog Mo (p9 x0 x1 x2 r):=
 fK Tryz.func173<|jp (.num ([].map Zc).length 0 0 [])<|jo (show 0=([].map Zc).length from rfl)<|cx (fz 1 2 0) 6 Ydy
abbrev Yf7 (x0:Int) (x1:Int) (x2:Int) (r:Bool):Y:=(111,[il x0,il x1,il x2],bl r,un 3)
theorem Yl7 {x0 x1 x2 r}:∀{m v0 v1},jK x0 x1 x2 m v0 v1=some r->CS (Yf7 x0 x1 x2 r) Tryz.f111 [1,1,0,1,0] [(7,sq 1 (v0.map Zc).length),(8,il v1)] [rx 1 3 (v0.map Zc)]:=by
 intro m
 induction m with
 | zero=>intro v0 v1 h;cases h
 | succ m ih=>exactλ{v0} {v1}=>st<|js Zc v0<|it (bd Zc<|jk 1<|bd Zc<|jk 1<|it rt<|jn Zc v0<|cx (Ay 1 1) 14 ih)<|js Zc v0<|rt
theorem Y0g {x0 x1 x2 r}  : jL x0 x1 x2=some r->Zr Tryz.prog Mo (Yf7 x0 x1 x2 r):=
 fK Tryz.func111<|br Z7k λ{r0}=>jn Zc r0<|cx (fz 1 2 3072) 8 Yl7
abbrev Yp3 (x0:Zk) (r:Bool):Y:=(108,[.agg (Zk.enc x0)],bl r,un 1)
theorem Yqz {x0 r}:∀{m v0},jM x0 m v0=some r->CS (Yp3 x0 r) Tryz.f108 [1,1,0,1,0] [(1,pt 1),(3,il v0)] [bx 1 (Zk.enc x0)]:=by
 intro m
 induction m with
 | zero=>intro v0 h;cases h
 | succ m ih=>exact st<|js Zc x0.Aa<|it (bb Zc<|br ME<|br Ye<|it rt<|cx (Ay 1 1) 14 ih)<|js Zc x0.Aa<|it (jk 3<|it (jk 9<|rt)<|jk 2<|js Zc x0.Aa<|jk 3<|br TW<|jk 2<|it (jk 4<|rt)<|jk 4<|rt)<|jk 6<|js Zc x0.Aa<|jk 3<|br TW<|jk 2<|it (jk 4<|rt)<|jk 4<|rt
theorem zR {x0 r}  : Tl x0=some r->Zr Tryz.prog Mo (Yp3 x0 r):=
 fK Tryz.func108<|br Y0g<|it rt<|cx (fz 1 1 0) 11 Yqz
abbrev Yvm (x0:Zg) (r:Int):Y:=(188,[.agg (Zg.enc x0)],il r,un 1)
theorem bR {x0 r}  : NX x0=some r->Zr Tryz.prog Mo (Yvm x0 r):=
 fK Tryz.func188<|js Zk.enc x0.queue<|it rt<|bb Zk.enc<|br TW<|rt
abbrev zS (x0:Zg) (r:Bool):Y:=(136,[.agg (Zg.enc x0)],bl r,un 1)
theorem Z3i {x0 r} {v0}:QZ x0 v0=some r->CS (zS x0 r) Tryz.f136 [1,1,0,1] [(1,pt 1),(26,bl v0)] [bx 1 (Zg.enc x0)]:=
 st<|it rt<|js Zk.enc x0.queue<|it (it (jk 3<|it (jk 3<|it (jk 3<|it (jk 3<|rt)<|jk 3<|rt)<|jk 7<|rt)<|jk 11<|rt)<|jk 15<|rt)<|br bR<|br Ye<|it (jk 8<|br bR<|jk 2<|br Ye<|jk 1<|rt)<|jk 11<|rt
theorem Yjc {x0 r}:∀{m v1},jN x0 m v1=some r->CS (zS x0 r) Tryz.f136 [1,0,1,0] [(1,pt 1),(3,il v1)] [bx 1 (Zg.enc x0)]:=by
 intro m
 induction m with
 | zero=>intro v1 h;cases h
 | succ m ih=>exact st<|js Zk.enc x0.queue<|it (bb Zk.enc<|br zR<|it rt<|cx (Ay 1 1) 14 ih)<|js Zk.enc x0.queue<|it (jk 3<|cx (Ay 1 1) 12 Z3i)<|jk 3<|cx (Ay 1 1) 12 Z3i
theorem TX {x0 r}  : My x0=some r->Zr Tryz.prog Mo (zS x0 r):=
 fK Tryz.func136<|cx (fz 1 1 0) 6 Yjc
abbrev Y6k (x0:Zg) (x1:Zh) (r:Bool):Y:=(86,[.agg (Zg.enc x0),.agg (Zh.enc x1)],bl r,un 2)
theorem Y65 {x0 x1 r}  : yU x0 x1=some r->Zr Tryz.prog Mo (Y6k x0 x1 r):=
 fK Tryz.func86<|br TU<|it (jk 1<|br TX<|jk 1<|it (jk 5<|rt)<|jk 5<|rt)<|jk 8<|rt
abbrev Ytt (x0:Zj) (x1:Ze) (r:Bool):Y:=(87,[.agg (Zj.enc x0),.agg (Ze.enc x1)],bl r,un 2)
theorem qA {x0 x1 r}  : Ra x0 x1=some r->Zr Tryz.prog Mo (Ytt x0 x1 r):=
 fK Tryz.func87<|it rt<|br Ye<|it (jk 5<|br Ye<|jk 1<|rt)<|jk 6<|rt
abbrev zT (x0:Za) (x1:Int) (r:Int):Y:=(88,[.agg (Za.enc x0),il x1],il r,un 2)
theorem Z5c {x0 x1 r} {v0}:jO x0 x1 v0=some r->CS (zT x0 x1 r) Tryz.f88 [1,1,1] [(1,il x1),(2,pt 1),(5,il v0)] [bx 1 (Za.enc x0)]:=
 st<|it (jk 5<|it rt<|rt)<|jk 6<|rt
theorem Z4x {x0 x1 r} {v1}:jP x0 x1 v1=some r->CS (zT x0 x1 r) Tryz.f88 [1,1,0,1] [(1,il x1),(2,pt 1),(5,il 0),(15,bl v1)] [bx 1 (Za.enc x0)]:=
 st<|it (cx (Ay 1 1) 2 Z5c)<|cx (Ay 1 1) 2 Z5c
theorem Yz9 {x0 x1 r}  : jQ x0 x1=some r->Zr Tryz.prog Mo (zT x0 x1 r):=
 fK Tryz.func88<|it (jk 5<|cx (fz 1 1 0) 7 Z4x)<|jk 5<|cx (fz 1 1 0) 7 Z4x
abbrev Yuy (x0:Int) (r:ByteArray):Y:=(137,[il x0],ss r,un 1)
theorem zU {x0 r}  : Mz x0=some r->Zr Tryz.prog Mo (Yuy x0 r):=
 fK Tryz.func137<|br Ye<|it rt<|bd Zp<|rt
abbrev zV (x0:Za) (x1:Zi) (x2:Bool) (r:Bool):Y:=(89,[.agg (Za.enc x0),.agg (Zi.enc x1),bl x2],bl r,un 3)
theorem Wx {x0 x1 x2 r} {Ad v0}:Yj x0 x1 x2 Ad v0=some r->CS (zV x0 x1 x2 r) Tryz.f89 [1,1,1,1,1,0,1] [(3,pt 1),(4,pt 2),(7,pt 3),(101,bl v0)] [bx 1 (Za.enc x0),bx 2 (Zi.enc x1),bx 3 (Zg.enc Ad)]:=
 st<|it rt<|it (jk 6<|br Ye<|jk 1<|it (jk 2<|br zU<|jk 2<|it (jk 3<|it (jk 7<|rt)<|jk 3<|it (jk 7<|rt)<|jk 7<|rt)<|jk 5<|rt)<|jk 10<|rt)<|jk 18<|rt
theorem zW {x0 x1 x2 r} {v1}:Ku x0 x1 x2 v1=some r->CS (zV x0 x1 x2 r) Tryz.f89 [1,1,0,1] [(2,bl x2),(3,pt 1),(4,pt 2),(36,bl v1)] [bx 1 (Za.enc x0),bx 2 (Zi.enc x1)]:=
 st<|it rt<|bb Zg.enc<|it (it (jk 3<|it (jk 3<|it (jk 3<|rt)<|jk 3<|rt)<|jk 7<|rt)<|jk 11<|rt)<|it (jk 6<|it (jk 10<|cx (Ay 1 2++fz 3 2 6144) 12 Wx)<|jk 3<|it (jk 2<|it (jk 14<|cx (Ay 1 2++fz 3 2 6144) 12 Wx)<|jk 9<|it (jk 4<|cx (Ay 1 2++fz 3 2 6144) 12 Wx)<|jk 2<|it (jk 5<|cx (Ay 1 2++fz 3 2 6144) 12 Wx)<|jk 5<|cx (Ay 1 2++fz 3 2 6144) 12 Wx)<|jk 9<|it (jk 5<|cx (Ay 1 2++fz 3 2 6144) 12 Wx)<|jk 5<|cx (Ay 1 2++fz 3 2 6144) 12 Wx)<|jk 10<|it (jk 2<|it (jk 14<|cx (Ay 1 2++fz 3 2 6144) 12 Wx)<|jk 9<|it (jk 4<|cx (Ay 1 2++fz 3 2 6144) 12 Wx)<|jk 2<|it (jk 5<|cx (Ay 1 2++fz 3 2 6144) 12 Wx)<|jk 5<|cx (Ay 1 2++fz 3 2 6144) 12 Wx)<|jk 9<|it (jk 5<|cx (Ay 1 2++fz 3 2 6144) 12 Wx)<|jk 5<|cx (Ay 1 2++fz 3 2 6144) 12 Wx
theorem Ygt {x0 x1 x2 r}  : M0 x0 x1 x2=some r->Zr Tryz.prog Mo (zV x0 x1 x2 r):=
 fK Tryz.func89<|it rt<|js Zg.enc x0.m<|br Ye<|it (jk 12<|cx (fz 1 1 0++fz 2 1 1024) 10 zW)<|jk 2<|br Ye<|jk 2<|it (jk 7<|cx (fz 1 1 0++fz 2 1 1024) 10 zW)<|jk 4<|bb Zc<|jk 3<|cx (fz 1 1 0++fz 2 1 1024) 10 zW
abbrev zX (x0:Za) (r:Bool):Y:=(90,[.agg (Za.enc x0)],bl r,un 1)
theorem Z32 {x0 r} {v0}:Rb x0 v0=some r->CS (zX x0 r) Tryz.f90 [1,1,1,0,1] [(1,pt 1),(67,bl v0)] [bx 1 (Za.enc x0)]:=
 st<|it rt<|bb Zg.enc λ{a0}=>js Zk.enc a0.queue<|it (jk 2<|bb Zk.enc<|jk 3<|it (jk 3<|it (jk 4<|bb Zc<|jk 3<|rt)<|jk 7<|rt)<|jk 11<|rt)<|jk 17<|rt
theorem Yjt {x0 r}:∀{m v1},yV x0 m v1=some r->CS (zX x0 r) Tryz.f90 [1,0,1,0] [(1,pt 1),(3,il v1)] [bx 1 (Za.enc x0)]:=by
 intro m
 induction m with
 | zero=>intro v1 h;cases h
 | succ m ih=>exact st<|js Zg.enc x0.m<|it (bn λTY=>jb Zg.enc TY<|it (jk 3<|jb Zg.enc TY<|jk 3<|bb Zk.enc<|jk 3<|it (jk 3<|jb Zg.enc TY<|jk 4<|it (jk 4<|it rt<|cx (Ay 1 1) 14 ih)<|jk 5<|cx (Ay 1 1) 14 ih)<|jk 13<|cx (Ay 1 1) 14 ih)<|jk 23<|cx (Ay 1 1) 14 ih)<|it rt<|js Zg.enc x0.m<|br Ye<|it (jk 7<|cx (Ay 1 1) 17 Z32)<|jk 5<|br Ye<|jk 2<|cx (Ay 1 1) 17 Z32
theorem Yyy {x0 r}  : YJ x0=some r->Zr Tryz.prog Mo (zX x0 r):=
 fK Tryz.func90<|cx (fz 1 1 0) 6 Yjt
abbrev Ylb (x0:Za) (r:Bool):Y:=(91,[.agg (Za.enc x0)],bl r,un 1)
theorem Ynh {x0 r}:∀{m v0},jT x0 m v0=some r->CS (Ylb x0 r) Tryz.f91 [1,0,1,0] [(1,pt 1),(3,il v0)] [bx 1 (Za.enc x0)]:=by
 intro m
 induction m with
 | zero=>intro v0 h;cases h
 | succ m ih=>exact st<|js Zt.enc x0.log<|it (bb Zt.enc<|br Ye<|it (jk 40<|rt)<|jk 2<|it (jk 6<|bb Zt.enc<|jk 6<|it (jk 35<|rt)<|jk 4<|js Zg.enc x0.m<|jk 2<|br Ye<|jk 2<|it (jk 26<|rt)<|jk 4<|br bQ<|jk 2<|it (jk 19<|rt)<|jk 2<|br Ye<|jk 2<|it (jk 14<|rt)<|jk 4<|br ME<|jk 2<|br Ye<|jk 2<|it (jk 5<|rt)<|jk 2<|br Ye<|jk 2<|it rt<|cx (Ay 1 1) 16 ih)<|jk 17<|js Zg.enc x0.m<|jk 2<|br Ye<|jk 2<|it (jk 26<|rt)<|jk 4<|br bQ<|jk 2<|it (jk 19<|rt)<|jk 2<|br Ye<|jk 2<|it (jk 14<|rt)<|jk 4<|br ME<|jk 2<|br Ye<|jk 2<|it (jk 5<|rt)<|jk 2<|br Ye<|jk 2<|it rt<|cx (Ay 1 1) 16 ih)<|rt
theorem Y23 {x0 r}  : YK x0=some r->Zr Tryz.prog Mo (Ylb x0 r):=
 fK Tryz.func91<|cx (fz 1 1 0) 6 Ynh
abbrev zY (x0:Za) (r:Bool):Y:=(46,[.agg (Za.enc x0)],bl r,un 1)
theorem Yrb {x0 r}:∀{m v0},jV x0 m v0=some r->CS (zY x0 r) Tryz.f46 [1,1,1,0,1,0] [(1,pt 1),(3,il (x0.Ae.Ab.length:Int)),(4,il v0)] [bx 1 (Za.enc x0)]:=by
 intro m
 induction m with
 | zero=>intro v0 h;cases h
 | succ m ih=>exact st<|it (bn λQe=>jb Zg.enc Qe<|br Y65<|it (jk 43<|rt)<|jk 3<|bb Zj.enc<|jk 6<|bb Ze.enc<|jk 2<|br qA<|jk 2<|it (jk 29<|rt)<|jk 3<|bb Zc<|jk 5<|br Ye<|jk 2<|it (jk 18<|rt)<|jk 3<|jb Zg.enc Qe<|jk 6<|jb Zg.enc Qe<|jk 6<|br Yz9<|jk 2<|it rt<|cx (Ay 1 1) 14 ih)<|br Ygt<|it (jk 3<|br Ygt<|jk 1<|it (jk 1<|br Yyy<|jk 1<|it (jk 1<|br Y23<|jk 1<|rt)<|jk 2<|rt)<|jk 5<|rt)<|jk 10<|rt
theorem Li {x0 r} {v1}:Qh x0 v1=some r->CS (zY x0 r) Tryz.f46 [1,1,0,1] [(1,pt 1),(3,il (x0.Ae.Ab.length:Int)),(73,bl v1)] [bx 1 (Za.enc x0)]:=
 st<|it rt<|cx (Ay 1 1) 6 Yrb
theorem zZ {x0 r}  : KZ x0=some r->Zr Tryz.prog Mo (zY x0 r):=
 fK Tryz.func46<|js Ze.enc x0.Ae.Ab<|br TU<|it (jk 51<|cx (fz 1 1 0) 7 Li)<|jk 2<|br Ye<|jk 2<|it (jk 46<|cx (fz 1 1 0) 7 Li)<|jk 2<|js Zg.enc x0.m<|jk 3<|it (jk 40<|cx (fz 1 1 0) 7 Li)<|jk 2<|js Zj.enc x0.buckets<|jk 3<|it (jk 34<|cx (fz 1 1 0) 7 Li)<|jk 2<|js Zc x0.splits<|jk 3<|it (jk 28<|cx (fz 1 1 0) 7 Li)<|jk 4<|br zO<|jk 2<|it (jk 21<|cx (fz 1 1 0) 7 Li)<|jk 4<|br Ye<|jk 2<|it (jk 14<|cx (fz 1 1 0) 7 Li)<|jk 2<|br Yg6<|jk 2<|it (jk 9<|cx (fz 1 1 0) 7 Li)<|jk 3<|it (jk 5<|cx (fz 1 1 0) 7 Li)<|jk 5<|cx (fz 1 1 0) 7 Li
abbrev Y2m (x0:Zk) (r:Zk):Y:=(131,[.agg (Zk.enc x0)],.agg [bl r.write,il r.addr,il r.size,il r.Az,bl r.lock,.own 3 (r.Aa.map Zc)],un 1)
theorem Z92 {x0 r}  : Re x0=some r->Zr Tryz.prog Mo (Y2m x0 r):=
 fK Tryz.func131<|bn λ{z0} Xf=>jt Zc x0.Aa z0<|jk 1<|jw (ol 1 Ju QW x0.Aa)<|jo (Fu Zc Xf)<|jo (GH Zc Xf)<|je Zc z0<|je Zc z0<|rt
abbrev Ygk (x0:Zg) (r:Zg):Y:=(82,[.agg (Zg.enc x0)],.agg [.own 41 (r.queue.map Zk.enc),il r.Ao,il r.done,il r.tries,bl r.Ax,bl r.broken],un 1)
theorem Yj4 {x0 r}:∀{m v0 v1},jX x0 m v0 v1=some r->CS (Ygk x0 r) Tryz.f82 [1,1,0,1,0] [(1,pt 1),(2,pt 2),(3,sq 4 (v0.map Zk.enc).length),(4,il v1)] [bx 1 (Zg.enc x0),rx 3 41 ([].map Zk.enc),bx 2 [sq 3 ([].map Zk.enc).length,il 0,il 0,il 0,bl false,bl false],rx 4 41 (v0.map Zk.enc)]:=by
 intro m
 induction m with
 | zero=>intro v0 v1 h;cases h
 | succ m ih=>exactλ{v0} {v1}=>st<|js Zk.enc x0.queue<|it (bb Zk.enc<|br Z92 λ{r0}=>jk 1<|bn λ{z0} Xf=>jt Zk.enc [r0] z0<|jk 1<|je Zc r0.Aa<|ja 6 Zk.A8 r0<|jx Zk.enc Xf<|jn Zk.enc z0<|je Zk.enc z0<|jn Zk.enc []<|cx (Ay 1 3++fz 4 3 8192) 11 ih)<|jk 1<|je Zk.enc v0<|rt
theorem bS {x0 r}  : NY x0=some r->Zr Tryz.prog Mo (Ygk x0 r):=
 fK Tryz.func82<|jp (.num ([].map Zk.enc).length 0 0 [])<|jo (show 0=([].map Zk.enc).length from rfl)<|cx (fz 1 1 0++fz 2 1 1024++fz 4 2 0) 8 Yj4
abbrev Y3k (x0:Zm) (r:Zm):Y:=(132,[.agg (Zm.enc x0)],.agg (Zm.ow r),un 1)
theorem Yko {x0 r}  : YL x0=some r->Zr Tryz.prog Mo (Y3k x0 r):=
 fK Tryz.func132<|bn λ{z0} Xf=>jt Zc x0.AB z0<|bn λ{z1} Ej=>jt Zc x0.A1 z1<|jk 2<|jw (ol 1 Ju QW x0.AB)<|jo (Fu Zc Xf)<|jo (GH Zc Xf)<|je Zc z0<|jw (ol 1 Ju QW x0.A1)<|jo (Fu Zc Ej)<|jo (GH Zc Ej)<|je Zc z1<|je Zc z0<|je Zc z1<|rt
abbrev Y3e (x0:Zf) (r:Zf):Y:=(83,[.agg (Zf.enc x0)],.agg (Zf.ow r),un 1)
theorem Ylr {x0 r}  : YM x0=some r->Zr Tryz.prog Mo (Y3e x0 r):=
 fK Tryz.func83<|bn λ{z0} Xf=>jt Zc x0.mem z0<|jw (ol 1 Ju QW x0.mem)<|jo (Fu Zc Xf)<|jo (GH Zc Xf)<|je Zc z0<|br Yko λ{r0}=>jk 3<|je Zc z0<|jw (Zm.so r0)<|rt
abbrev Yf3 (x0:Za) (r:Za):Y:=(45,[.agg (Za.enc x0)],.agg (Za.ow r),un 1)
theorem Yk3 {x0 r}:∀{m Ad v0},YN x0 m Ad v0=some r->CS (Yf3 x0 r) Tryz.f45 [1,1,1,1,0,1,0] [(1,pt 1),(2,pt 2),(3,pt 11),(4,il v0)] ([bx 1 (Za.enc x0)]++Za.bk Za.z0 3++[bx 2 (Za.rl Za.z0 3),rx 12 83 (Ad.Ae.Ab.map Ze.enc),rx 13 90 (Ad.m.map Zg.enc),bx 11 [sq 12 (Ad.Ae.Ab.map Ze.enc).length,il Ad.Ae.Av,il Ad.Ae.As,il Ad.Ae.An,il Ad.Ae.Ap,il Ad.Ae.Am,il Ad.now,sq 13 (Ad.m.map Zg.enc).length,il Ad.Bm.at_,il Ad.Bm.Bc,.tr (Ad.buckets.map Zj.enc),.tr (Ad.splits.map Zc),il Ad.Af,il Ad.held,il Ad.last,bl Ad.addr.live,il Ad.addr.Aj,il Ad.addr.Ao,bl Ad.addr.first,il Ad.addr.B2,il Ad.addr.left,il Ad.addr.Ar,bl Ad.addr.second,bl Ad.Aa.live,il Ad.Aa.Aj,il Ad.Aa.Ao,bl Ad.Aa.first,il Ad.Aa.B2,il Ad.Aa.left,il Ad.Aa.Ar,bl Ad.Aa.second,.tr (Ad.model.mem.map Zc),.tr (Ad.model.dev.AB.map Zc),il Ad.model.dev.timer,.tr (Ad.model.dev.A1.map Zc),il Ad.Au,.tr (Ad.log.map Zt.enc)]]):=by
 intro m
 induction m with
 | zero=>intro Ad v0 h;cases h
 | succ m ih=>exactλ{Ad} {v0}=>st<|js Zg.enc x0.m<|it (bb Zg.enc<|br bS λ{r0}=>jk 1<|bn λ{z0} Xf=>jt Zg.enc [r0] z0<|jk 1<|je Zk.enc r0.queue<|ja 6 Zg.A8 r0<|jx Zg.enc Xf<|je Zg.enc z0<|jw (Za.sc Za.z0)<|jn Ze.enc Ad.Ae.Ab<|jn Zg.enc z0<|cx (Ay 1 12++fz 13 4 4096) 13 ih)<|bn λ{z1} Ej=>jt Zj.enc x0.buckets z1<|bn λ{z2} TV=>jt Zc x0.splits z2<|jw (ol 2 Zj.A8 Zj.BZ x0.buckets)<|jo (Fu Zj.enc Ej)<|jo (GH Zj.enc Ej)<|je Zj.enc z1<|jw (ol 1 Ju QW x0.splits)<|jo (Fu Zc TV)<|jo (GH Zc TV)<|je Zc z2<|br Ylr λ{r1}=>bn λ{z3} hz3=>jt Zt.enc x0.log z3<|jk 8<|jw (ol 7 Zt.A8 Zt.BZ x0.log)<|jo (Fu Zt.enc hz3)<|jo (GH Zt.enc hz3)<|je Zt.enc z3<|je Ze.enc Ad.Ae.Ab<|je Zg.enc Ad.m<|je Zj.enc z1<|je Zc z2<|jw (Zf.so r1)<|je Zt.enc z3<|rt
theorem Z6p {x0 r}  : Tm x0=some r->Zr Tryz.prog Mo (Yf3 x0 r):=
 fK Tryz.func45<|br Yjx λ{r2}=>jn Ze.enc r2.Ab<|jp (.num ([].map Zg.enc).length 0 0 [])<|jo (show 0=([].map Zg.enc).length from rfl)<|cx (fz 1 1 0++fz 2 1 1024++fz 11 2 1024++fz 12 3 2048++fz 13 4 0) 12 Yk3
abbrev Ygi (x0:Zg) (x1:Int) (r:Int):Y:=(139,[.agg (Zg.enc x0),il x1],il r,un 2)
theorem Z30 {x0 x1 r} {v0}:jZ x0 x1 v0=some r->CS (Ygi x0 x1 r) Tryz.f139 [1,0,1] [(1,il x1),(2,pt 1),(16,bl v0)] [bx 1 (Zg.enc x0)]:=
 st<|it rt<|bb Zk.enc<|br Z7k<|bd Zc<|rt
theorem qB {x0 x1 r}  : Rf x0 x1=some r->Zr Tryz.prog Mo (Ygi x0 x1 r):=
 fK Tryz.func139<|br TX<|it (jk 6<|cx (fz 1 1 0) 5 Z30)<|jk 2<|br bR<|jk 2<|br Ye<|jk 2<|cx (fz 1 1 0) 5 Z30
abbrev Yf8 (x0:Za) (r:Zq):Y:=(92,[.agg (Za.enc x0)],.agg (Zq.enc r),un 1)
theorem Zvh {x0 r} {Ad}:YO x0 Ad=some r->CS (Yf8 x0 r) Tryz.f92 [1,1,1] [(1,pt 1),(2,pt 2),(3,pt 3)] [bx 1 (Za.enc x0),bx 2 (Zq.enc Zq.z0),bx 3 (Zq.enc Ad)]:=
 st<|it (bb Zg.enc<|br qB<|rt)<|rt
theorem Yzn {x0 r}  : j6 x0=some r->Zr Tryz.prog Mo (Yf8 x0 r):=
 fK Tryz.func92<|it (bb Zg.enc<|br qB<|it (cx (fz 1 1 0++fz 2 1 1024++fz 3 2 3072) 18 Zvh)<|cx (fz 1 1 0++fz 2 1 1024++fz 3 2 3072) 18 Zvh)<|cx (fz 1 1 0++fz 2 1 1024++fz 3 2 3072) 9 Zvh
abbrev Ygp (x0:Zb) (x1:Int) (r:List Zl):Y:=(93,[.agg (Zb.enc x0),il x1],.own 60 (r.map Zl.enc),un 2)
theorem Yjn {x0 x1 r}:∀{m v0 v1},j8 x0 x1 m v0 v1=some r->CS (Ygp x0 x1 r) Tryz.f93 [1,1,0,1,0] [(1,il x1),(2,pt 1),(5,sq 2 (v0.map Zl.enc).length),(6,il v1)] [bx 1 (Zb.enc x0),rx 2 60 (v0.map Zl.enc)]:=by
 intro m
 induction m with
 | zero=>intro v0 v1 h;cases h
 | succ m ih=>exactλ{v0} {v1}=>st<|js Zl.enc x0.Al<|it (bn λ{a0} Qe=>jb Zl.enc Qe<|it (jb Zl.enc Qe<|br Z92 λ{r0}=>jk 1<|bn λ{z0} Xf=>jt Zl.enc [{a0 with Bo:=r0}] z0<|jk 1<|je Zc r0.Aa<|ja 8 Zl.A8 {a0 with Bo:=r0}<|jx Zl.enc Xf<|jn Zl.enc z0<|je Zl.enc z0<|cx (Ay 1 1++fz 2 6 3072) 18 ih)<|jn Zl.enc v0<|cx (Ay 1 2) 14 ih)<|jk 1<|je Zl.enc v0<|rt
theorem Yzf {x0 x1 r}  : j9 x0 x1=some r->Zr Tryz.prog Mo (Ygp x0 x1 r):=
 fK Tryz.func93<|jp (.num ([].map Zl.enc).length 0 0 [])<|jo (show 0=([].map Zl.enc).length from rfl)<|cx (fz 1 1 0++fz 2 2 0) 8 Yjn
abbrev Yge (x0:Zg) (x1:Zk) (r:Zg×Bool):Y:=(94,[.agg (Zg.enc x0),.agg (Zk.enc x1)],.AW [.agg [.own 41 (r.1.queue.map Zk.enc),il r.1.Ao,il r.1.done,il r.1.tries,bl r.1.Ax,bl r.1.broken],bl r.2],un 2)
theorem Zvf {x0 x1 r} {Ad v0}:YP x0 x1 Ad v0=some r->CS (Yge x0 x1 r) Tryz.f94 [1,1,0,1] [(3,pt 1),(4,pt 2),(6,pt 4),(22,bl v0)] [bx 1 (Zk.enc x1),rx 3 41 ([].map Zk.enc),bx 2 [sq 3 ([].map Zk.enc).length,il 0,il 0,il 0,bl false,bl false],rx 5 41 (Ad.queue.map Zk.enc),bx 4 [sq 5 (Ad.queue.map Zk.enc).length,il Ad.Ao,il Ad.done,il Ad.tries,bl Ad.Ax,bl Ad.broken]]:=
 st<|it (jk 1<|je Zk.enc Ad.queue<|rt)<|br Z92 λ{r0}=>jk 1<|bn λ{z0} Xf=>jt Zk.enc [r0] z0<|jk 2<|je Zc r0.Aa<|ja 6 Zk.A8 r0<|jx Zk.enc Xf<|je Zk.enc z0<|je Zk.enc z0<|rt
theorem Yzh {x0 x1 r}  : kA x0 x1=some r->Zr Tryz.prog Mo (Yge x0 x1 r):=
 fK Tryz.func94<|br bS λ{r1}=>br TX<|it (jk 8<|jn Zk.enc r1.queue<|cx (fz 1 1 1024++fz 2 1 2048++fz 4 2 2048++fz 5 2 1024) 7 Zvf)<|jk 1<|br zR<|jk 2<|it (jk 4<|jn Zk.enc r1.queue<|cx (fz 1 1 1024++fz 2 1 2048++fz 4 2 2048++fz 5 2 1024) 7 Zvf)<|jk 2<|js Zk.enc x0.queue<|jk 2<|jn Zk.enc r1.queue<|cx (fz 1 1 1024++fz 2 1 2048++fz 4 2 2048++fz 5 2 1024) 7 Zvf
abbrev Z7u (x0:Zj) (x1:Ze) (r:Zj):Y:=(95,[.agg (Zj.enc x0),.agg (Ze.enc x1)],.agg (Zj.enc r),un 2)
theorem Zzd {x0 x1 r} {v0}:kB x0 x1 v0=some r->CS (Z7u x0 x1 r) Tryz.f95 [1,0,1] [(2,pt 1),(3,pt 2),(4,pt 3),(13,bl v0)] [bx 1 (Zj.enc x0),bx 2 (Ze.enc x1),bx 3 (Zj.enc Zj.z0)]:=
 st<|it rt<|it rt<|rt
theorem Yn9 {x0 x1 r}  : kC x0 x1=some r->Zr Tryz.prog Mo (Z7u x0 x1 r):=
 fK Tryz.func95<|it (jk 4<|cx (fz 1 1 0++fz 2 1 1024++fz 3 1 2048) 5 Zzd)<|jk 2<|br qA<|jk 2<|cx (fz 1 1 0++fz 2 1 1024++fz 3 1 2048) 5 Zzd
abbrev Yg5 (x0:Zg) (r:Zg×Bool):Y:=(140,[.agg (Zg.enc x0)],.AW [.agg [.own 41 (r.1.queue.map Zk.enc),il r.1.Ao,il r.1.done,il r.1.tries,bl r.1.Ax,bl r.1.broken],bl r.2],un 1)
theorem Z4d {x0 r} {Ad v0}:kD x0 Ad v0=some r->CS (Yg5 x0 r) Tryz.f140 [1,1,0,1] [(2,pt 1),(4,pt 3),(16,bl v0)] [rx 2 41 ([].map Zk.enc),bx 1 [sq 2 ([].map Zk.enc).length,il 0,il 0,il 0,bl false,bl false],rx 4 41 (Ad.queue.map Zk.enc),bx 3 [sq 4 (Ad.queue.map Zk.enc).length,il Ad.Ao,il Ad.done,il Ad.tries,bl Ad.Ax,bl Ad.broken]]:=
 st<|it (jk 1<|je Zk.enc Ad.queue<|rt)<|jk 1<|je Zk.enc Ad.queue<|rt
theorem Yy9 {x0 r}  : kE x0=some r->Zr Tryz.prog Mo (Yg5 x0 r):=
 fK Tryz.func140<|br bS λ{r0}=>br TX<|it (jk 5<|jn Zk.enc r0.queue<|cx (fz 1 1 1024++fz 3 2 2048++fz 4 2 1024) 7 Z4d)<|jk 5<|jn Zk.enc r0.queue<|cx (fz 1 1 1024++fz 3 2 2048++fz 4 2 1024) 7 Z4d
abbrev Z69 (x0:Zj) (x1:Ze) (r:Zj):Y:=(141,[.agg (Zj.enc x0),.agg (Ze.enc x1)],.agg (Zj.enc r),un 2)
theorem Zyn {x0 x1 r} {v0}:kF x0 x1 v0=some r->CS (Z69 x0 x1 r) Tryz.f141 [1,0,1] [(2,pt 1),(3,pt 2),(4,pt 3),(11,bl v0)] [bx 1 (Zj.enc x0),bx 2 (Ze.enc x1),bx 3 (Zj.enc Zj.z0)]:=
 st<|it rt<|rt
theorem Yob {x0 x1 r}  : kG x0 x1=some r->Zr Tryz.prog Mo (Z69 x0 x1 r):=
 fK Tryz.func141<|it (jk 2<|br qA<|jk 1<|cx (fz 1 1 0++fz 2 1 1024++fz 3 1 2048) 5 Zyn)<|jk 3<|cx (fz 1 1 0++fz 2 1 1024++fz 3 1 2048) 5 Zyn
abbrev Ygu (x0:Yb) (x1:Zh) (x2:Int) (r:Yb):Y:=(142,[.agg (Yb.enc x0),.agg (Zh.enc x1),il x2],.agg (Yb.enc r),un 3)
theorem Z5h {x0 x1 x2 r} {v0}:kH x0 x1 x2 v0=some r->CS (Ygu x0 x1 x2 r) Tryz.f142 [1,0,1] [(2,il x2),(3,pt 1),(4,pt 2),(6,pt 3),(15,bl v0)] [bx 1 (Yb.enc x0),bx 2 (Zh.enc x1),bx 3 (Yb.enc Yb.z0)]:=
 st<|it (br zN<|rt)<|rt
theorem Yy0 {x0 x1 x2 r}  : kI x0 x1 x2=some r->Zr Tryz.prog Mo (Ygu x0 x1 x2 r):=
 fK Tryz.func142<|br zO<|it (jk 4<|cx (fz 1 1 0++fz 2 1 1024++fz 3 1 2048) 5 Z5h)<|jk 4<|cx (fz 1 1 0++fz 2 1 1024++fz 3 1 2048) 5 Z5h
abbrev Yys (x0:Za) (x1:Zi) (r:Za):Y:=(96,[.agg (Za.ow x0),.agg (Zi.enc x1)],.agg (Za.ow r),un 2)
theorem Z50 {x0 x1 r}  : Tn x0 x1=some r->Zr Tryz.prog Mo (Yys x0 x1 r):=
 fK Tryz.func96<|bn λQe=>jw (xd Zg.enc Qe)<|br Yy9 λ{r0}=>bn λ{y0} K4=>jw (xq Zg.enc Qe y0)<|jk 1<|je Zk.enc r0.1.queue<|jo (KU Zg.enc K4)<|it (bn λCz=>jw (xd Zj.enc Cz)<|bd Ze.enc<|br Yob<|bn λCy=>jw (xp Zj.enc Cz Cy)<|jk 8<|je Ze.enc x0.Ae.Ab<|jo (J0 Zg.enc K4)<|jo (J0 Zj.enc Cy)<|je Zc x0.splits<|jw (Zf.so x0.model)<|je Zt.enc x0.log<|rt)<|it (jk 1<|je Ze.enc x0.Ae.Ab<|br Yy0<|jk 8<|je Ze.enc x0.Ae.Ab<|jo (J0 Zg.enc K4)<|je Zj.enc x0.buckets<|je Zc x0.splits<|jw (Zf.so x0.model)<|je Zt.enc x0.log<|rt)<|jk 8<|je Ze.enc x0.Ae.Ab<|jo (J0 Zg.enc K4)<|je Zj.enc x0.buckets<|je Zc x0.splits<|jw (Zf.so x0.model)<|je Zt.enc x0.log<|rt
abbrev Yv2 (x0:List Int) (x1:Int) (r:Int):Y:=(189,[.tr (x0.map Zc),il x1],il r,un 2)
theorem Yeq {x0 x1 r} {v0}:yW x0 x1 v0=some r->CS (Yv2 x0 x1 r) Tryz.f189 [1,0,1] [(0,.tr (x0.map Zc)),(1,il x1),(11,bl v0)] []:=
 st<|it rt<|js Zc x0<|jl<|bo KV<|bb Zc<|rt
theorem Yi9 {x0 x1 r}  : YQ x0 x1=some r->Zr Tryz.prog Mo (Yv2 x0 x1 r):=
 fK Tryz.func189<|js Zc x0<|it (jk 2<|cx [] 5 Yeq)<|jk 2<|cx [] 5 Yeq
abbrev Yzw (x0:Zh) (x1:Zb) (x2:Int) (r:Int):Y:=(143,[.agg (Zh.enc x0),.agg (Zb.enc x1),il x2],il r,un 3)
theorem Yyx {x0 x1 x2 r}  : kJ x0 x1 x2=some r->Zr Tryz.prog Mo (Yzw x0 x1 x2 r):=
 fK Tryz.func143<|br Yi9<|rt
abbrev Yvb (x0:Zk) (x1:Int) (r:Int):Y:=(145,[.agg (Zk.enc x0),il x1],il r,un 2)
theorem Yeg {x0 x1 r}  : YR x0 x1=some r->Zr Tryz.prog Mo (Yvb x0 x1 r):=
 fK Tryz.func145<|it rt<|bb Zc<|rt
abbrev Ygv (x0:Int) (r:Int):Y:=(151,[il x0],il r,un 1)
theorem Z4b {x0 r} {v0}:yX x0 v0=some r->CS (Ygv x0 r) Tryz.f151 [1,0,0,1] [(0,il x0),(3,bl v0)] []:=
 st<|it rt<|it rt<|it rt<|rt
theorem Yhw {x0 r}  : kK x0=some r->Zr Tryz.prog Mo (Ygv x0 r):=
 fK Tryz.func151<|it (jk 2<|cx [] 6 Z4b)<|jk 2<|cx [] 6 Z4b
abbrev Y3g (x0:List Int) (x1:Int) (x2:Int) (r:Bool):Y:=(232,[.tr (x0.map Zc),il x1,il x2],bl r,un 3)
theorem Ykd {x0 x1 x2 r}  : YS x0 x1 x2=some r->Zr Tryz.prog Mo (Y3g x0 x1 x2 r):=
 fK Tryz.func232<|br Yht<|it (jk 2<|br bQ<|jk 1<|it (jk 2<|js Zc x0<|jk 2<|br Ov<|jk 3<|rt)<|jk 7<|rt)<|jk 11<|rt
abbrev Z9m (x0:List Int) (x1:Int) (x2:Int) (x3:Int) (r:List Int×Bool):Y:=(190,[.tr (x0.map Zc),il x1,il x2,il x3],.AW [.own 3 (r.1.map Zc),bl r.2],un 4)
theorem Yny {x0 x1 x2 x3 r}:∀{m v0 v1 v2},kL x0 x1 x2 x3 m v0 v1 v2=some r->CS (Z9m x0 x1 x2 x3 r) Tryz.f190 [1,1,1,0,1,0] [(1,il x1),(2,il x2),(3,il v0),(10,sq 1 (v1.map Zc).length),(11,il v2)] [rx 1 3 (v1.map Zc)]:=by
 intro m
 induction m with
 | zero=>intro v0 v1 v2 h;cases h
 | succ m ih=>exactλ{v0} {v1} {v2}=>st<|br Ov<|it (jk 1<|bn λQe=>bn λ{y0} K4=>jw (xp Zc Qe K4)<|jk 1<|jp (.num (y0.map Zc).length 0 0 [])<|jo (J0 Zc K4)<|cx (Ay 1 1) 13 ih)<|jk 1<|je Zc v1<|rt
theorem Z6v {x0 x1 x2 x3 r} {v1 v3}:kM x0 x1 x2 x3 v1 v3=some r->CS (Z9m x0 x1 x2 x3 r) Tryz.f190 [1,1,0,1] [(1,il x1),(2,il x2),(3,il x3),(10,sq 1 (v1.map Zc).length),(27,bl v3)] [rx 1 3 (v1.map Zc)]:=
 st<|it (jk 1<|je Zc v1<|rt)<|jn Zc v1<|cx (Ay 1 1) 6 Yny
theorem Y4h {x0 x1 x2 x3 r}  : kN x0 x1 x2 x3=some r->Zr Tryz.prog Mo (Z9m x0 x1 x2 x3 r):=
 fK Tryz.func190<|bn λ{z0} Xf=>jt Zc x0 z0<|jw (ol 1 Ju QW x0)<|jo (Fu Zc Xf)<|jo (GH Zc Xf)<|je Zc z0<|br Ykd<|it (jk 6<|jn Zc z0<|cx (fz 1 2 2048) 7 Z6v)<|jk 2<|br ME<|jk 2<|br Ye<|jk 2<|jn Zc z0<|cx (fz 1 2 2048) 7 Z6v
abbrev TZ (x0:Zm) (x1:Bool) (x2:Int) (x3:Int) (r:Zm×Int×Bool):Y:=(192,[.agg (Zm.enc x0),bl x1,il x2,il x3],.AW [.agg (Zm.ow r.1),il r.2.1,bl r.2.2],un 4)
theorem Zzs {x0 x1 x2 x3 r} {Ad v0}:YU x0 x1 x2 x3 Ad v0=some r->CS (TZ x0 x1 x2 x3 r) Tryz.f192 [1,1,1,0,0,1,1,1,1,1,1,1,1,1,1,1] [(8,pt 1),(11,pt 4),(101,bl v0)] (Zm.bk Zm.z0 2++[bx 1 (Zm.rl Zm.z0 2)]++Zm.bk Ad 5++[bx 4 (Zm.rl Ad 5)]):=
 st<|it (bd Zc<|jp (.num (1:Int).toNat ((Ad.A1.length:Int):Int).toNat (((Ad.A1.length:Int):Int).toNat - (1:Int).toNat) [])<|jk 2<|bn λ{s0} Qu=>jp (.mk 0 (s0.map Zc))<|je Zc Ad.A1<|jo (DL Qu).1<|jo (Gi Zc Ad.A1)<|jo (Eb Zc Qu)<|jo (CF 1 Ju Ad.A1)<|jo (Eq.refl (((Ad.A1.length:Int):Int).toNat - (1:Int).toNat))<|je Zc Ad.AB<|jo (iT Zc Qu)<|jo (E3 Zc Qu)<|rt)<|jk 2<|jw (Zm.so Ad)<|rt
theorem Zzx {x0 x1 x2 x3 r} {Ad v1}:YV x0 x1 x2 x3 Ad v1=some r->CS (TZ x0 x1 x2 x3 r) Tryz.f192 [1,1,1,0,0,1,1,1,1,1,1,1,1,1] [(1,bl x1),(2,il x2),(3,il x3),(8,pt 1),(11,pt 4),(81,bl v1)] (Zm.bk Zm.z0 2++[bx 1 (Zm.rl Zm.z0 2)]++Zm.bk Ad 5++[bx 4 (Zm.rl Ad 5)]):=
 st<|it (bn λ{z0} Xf=>jt Zc [x3] z0<|jk 3<|ja 1 Ju x3<|jx Zc Xf<|je Zc z0<|je Zc Ad.AB<|je Zc z0<|rt)<|it (jk 2<|it (jk 2<|js Zc Ad.A1<|jk 2<|jw (Zm.sc Zm.z0)<|jw (Zm.sc Ad)<|cx (Ay 1 6) 3 Zzs)<|jk 4<|jw (Zm.sc Zm.z0)<|jw (Zm.sc Ad)<|cx (Ay 1 6) 3 Zzs)<|jk 7<|jw (Zm.sc Zm.z0)<|jw (Zm.sc Ad)<|cx (Ay 1 6) 3 Zzs
theorem Ya0 {x0 x1 x2 x3 r} {Ad v2}:kO x0 x1 x2 x3 Ad v2=some r->CS (TZ x0 x1 x2 x3 r) Tryz.f192 [1,1,1,0,0,1,1,1,1,1] [(1,bl x1),(2,il x2),(3,il x3),(8,pt 1),(11,pt 4),(59,bl v2)] (Zm.bk Zm.z0 2++[bx 1 (Zm.rl Zm.z0 2)]++Zm.bk Ad 5++[bx 4 (Zm.rl Ad 5)]):=
 st<|it (jk 2<|jw (Zm.so Ad)<|rt)<|it (br ME<|jl<|jk 2<|bo KV<|jw (Zm.so Ad)<|rt)<|it (jk 1<|it (jk 2<|js Zc Ad.A1<|jk 2<|jw (Zm.sc Zm.z0)<|jw (Zm.sc Ad)<|cx (Ay 1 6) 6 Zzx)<|jk 4<|jw (Zm.sc Zm.z0)<|jw (Zm.sc Ad)<|cx (Ay 1 6) 6 Zzx)<|jk 6<|jw (Zm.sc Zm.z0)<|jw (Zm.sc Ad)<|cx (Ay 1 6) 6 Zzx
theorem Ybb {x0 x1 x2 x3 r} {Ad v3}:kP x0 x1 x2 x3 Ad v3=some r->CS (TZ x0 x1 x2 x3 r) Tryz.f192 [1,1,1,0,0,1] [(1,bl x1),(2,il x2),(3,il x3),(8,pt 1),(11,pt 4),(35,bl v3)] (Zm.bk Zm.z0 2++[bx 1 (Zm.rl Zm.z0 2)]++Zm.bk Ad 5++[bx 4 (Zm.rl Ad 5)]):=
 st<|it (jk 1<|bn λCz=>bn λK4=>jw (xp Zc Cz K4)<|jk 2<|jo (J0 Zc K4)<|je Zc Ad.A1<|rt)<|br Ye<|it (jk 1<|bd Zc<|jk 2<|jw (Zm.so Ad)<|rt)<|it (jk 1<|jw (Zm.sc Zm.z0)<|jw (Zm.sc Ad)<|cx (Ay 1 6) 6 Ya0)<|jk 1<|jw (Zm.sc Zm.z0)<|jw (Zm.sc Ad)<|cx (Ay 1 6) 6 Ya0
theorem qC {x0 x1 x2 x3 r} {Ad v4}:M1 x0 x1 x2 x3 Ad v4=some r->CS (TZ x0 x1 x2 x3 r) Tryz.f192 [1,1,0,1] [(1,bl x1),(2,il x2),(3,il x3),(8,pt 1),(11,pt 4),(33,bl v4)] (Zm.bk Zm.z0 2++[bx 1 (Zm.rl Zm.z0 2)]++Zm.bk Ad 5++[bx 4 (Zm.rl Ad 5)]):=
 st<|it (jk 2<|jw (Zm.so Ad)<|rt)<|br Ye<|it (jk 1<|jw (Zm.sc Zm.z0)<|jw (Zm.sc Ad)<|cx (Ay 1 6) 6 Ybb)<|jk 1<|jw (Zm.sc Zm.z0)<|jw (Zm.sc Ad)<|cx (Ay 1 6) 6 Ybb
theorem Y6t {x0 x1 x2 x3 r}  : kQ x0 x1 x2 x3=some r->Zr Tryz.prog Mo (TZ x0 x1 x2 x3 r):=
 fK Tryz.func192<|br Yko λ{r3}=>br Yph<|it (jk 7<|jw (Zm.sc r3)<|cx (fz 1 1 1024++fz 4 2 2048++Zm.ff 5 2 1024) 7 qC)<|jk 4<|it (jk 3<|jw (Zm.sc r3)<|cx (fz 1 1 1024++fz 4 2 2048++Zm.ff 5 2 1024) 7 qC)<|jk 1<|it (jk 1<|br ME<|jk 2<|br Ye<|jk 4<|jw (Zm.sc r3)<|cx (fz 1 1 1024++fz 4 2 2048++Zm.ff 5 2 1024) 7 qC)<|jk 7<|jw (Zm.sc r3)<|cx (fz 1 1 1024++fz 4 2 2048++Zm.ff 5 2 1024) 7 qC
abbrev Yl8 (x0:List Int) (x1:Int) (x2:Int) (r:Int×Bool):Y:=(191,[.tr (x0.map Zc),il x1,il x2],.AW [il r.1,bl r.2],un 3)
theorem Ynt {x0 x1 x2 r}:∀{m v0 v1},kR x0 x1 x2 m v0 v1=some r->CS (Yl8 x0 x1 x2 r) Tryz.f191 [1,1,1,0,1,0] [(0,.tr (x0.map Zc)),(1,il x1),(8,il v0),(9,il v1)] []:=by
 intro m
 induction m with
 | zero=>intro v0 v1 h;cases h
 | succ m ih=>exact st<|it (bb Zc<|cx [] 11 ih)<|rt
theorem Y3w {x0 x1 x2 r}  : kS x0 x1 x2=some r->Zr Tryz.prog Mo (Yl8 x0 x1 x2 r):=
 fK Tryz.func191<|br Ykd<|it rt<|br Ov<|cx [] 13 Ynt
abbrev qD (x0:Zf) (x1:Bool) (x2:Int) (x3:Int) (x4:Int) (r:Zf×Int×Int):Y:=(144,[.agg (Zf.enc x0),bl x1,il x2,il x3,il x4],.AW [.agg (Zf.ow r.1),il r.2.1,il r.2.2],un 5)
theorem Z4y {x0 x1 x2 x3 x4 r} {Ad A2 v0 v1}:kT x0 x1 x2 x3 x4 Ad A2 v0 v1=some r->CS (qD x0 x1 x2 x3 x4 r) Tryz.f144 [1,1,1,0,1,0,1,1,1,0,1,1] [(10,pt 1),(13,pt 5),(16,pt 9),(17,il v0),(87,bl v1)] (Zf.bk Zf.z0 2++[bx 1 (Zf.rl Zf.z0 2)]++Zf.bk Ad 6++[bx 5 (Zf.rl Ad 6)]++Zm.bk A2 10++[bx 9 (Zm.rl A2 10)]):=
 st<|it (jk 3<|je Zc Ad.mem<|jw (Zm.so A2)<|rt)<|jk 3<|jw (Zf.so Ad)<|rt
theorem Z5a {x0 x1 x2 x3 x4 r} {AI v2 v3}:kU x0 x1 x2 x3 x4 AI v2 v3=some r->CS (qD x0 x1 x2 x3 x4 r) Tryz.f144 [1,1,1,0,1,0,1] [(1,bl x1),(2,il x2),(3,il x3),(4,il x4),(5,pt 1),(10,pt 2),(13,pt 6),(43,il v2),(44,bl v3)] ([bx 1 (Zf.enc x0)]++Zf.bk Zf.z0 3++[bx 2 (Zf.rl Zf.z0 3)]++Zf.bk AI 7++[bx 6 (Zf.rl AI 7)]):=
 st<|it (it (br Y4h λ{r0}=>jk 3<|je Zc r0.1<|jw (Zm.so AI.dev)<|rt)<|br Y3w<|jk 3<|jw (Zf.so AI)<|rt)<|it (br Y6t λ{r2}=>it (jk 1<|jw (Zf.sc Zf.z0)<|jw (Zf.sc AI)<|jw (Zm.sc r2.1)<|cx (fz 1 1 2++fz 2 1 3++fz 3 1 4++fz 4 1 5++fz 5 1 6++fz 6 1 7++fz 7 1 8++fz 8 1 9++fz 9 3 11264++Zm.ff 10 3 6144) 8 Z4y)<|jk 1<|jw (Zf.sc Zf.z0)<|jw (Zf.sc AI)<|jw (Zm.sc r2.1)<|cx (fz 1 1 2++fz 2 1 3++fz 3 1 4++fz 4 1 5++fz 5 1 6++fz 6 1 7++fz 7 1 8++fz 8 1 9++fz 9 3 11264++Zm.ff 10 3 6144) 8 Z4y)<|jk 3<|jw (Zf.so AI)<|rt
theorem qE {x0 x1 x2 x3 x4 r} {AI v4}:J2 x0 x1 x2 x3 x4 AI v4=some r->CS (qD x0 x1 x2 x3 x4 r) Tryz.f144 [1,1,0,1] [(1,bl x1),(2,il x2),(3,il x3),(4,il x4),(5,pt 1),(10,pt 2),(13,pt 6),(40,bl v4)] ([bx 1 (Zf.enc x0)]++Zf.bk Zf.z0 3++[bx 2 (Zf.rl Zf.z0 3)]++Zf.bk AI 7++[bx 6 (Zf.rl AI 7)]):=
 st<|it (jk 3<|jw (Zf.so AI)<|rt)<|br Yhw<|it (jw (Zf.sc Zf.z0)<|jw (Zf.sc AI)<|cx (Ay 1 9) 11 Z5a)<|jw (Zf.sc Zf.z0)<|jw (Zf.sc AI)<|cx (Ay 1 9) 11 Z5a
theorem Z6j {x0 x1 x2 x3 x4 r}  : To x0 x1 x2 x3 x4=some r->Zr Tryz.prog Mo (qD x0 x1 x2 x3 x4 r):=
 fK Tryz.func144<|br Ylr λ{r4}=>br Yg6<|it (jk 8<|jw (Zf.sc r4)<|cx (fz 1 1 0++fz 2 1 1024++fz 6 2 2048++Zf.ff 7 2 1024) 7 qE)<|jk 2<|br bQ<|jk 2<|it (jk 3<|jw (Zf.sc r4)<|cx (fz 1 1 0++fz 2 1 1024++fz 6 2 2048++Zf.ff 7 2 1024) 7 qE)<|jk 1<|it (jk 2<|br ME<|jk 2<|br Ye<|jk 4<|jw (Zf.sc r4)<|cx (fz 1 1 0++fz 2 1 1024++fz 6 2 2048++Zf.ff 7 2 1024) 7 qE)<|jk 8<|jw (Zf.sc r4)<|cx (fz 1 1 0++fz 2 1 1024++fz 6 2 2048++Zf.ff 7 2 1024) 7 qE
abbrev Yj9 (x0:Zg) (r:Zg×Bool):Y:=(146,[.agg (Zg.enc x0)],.AW [.agg [.own 41 (r.1.queue.map Zk.enc),il r.1.Ao,il r.1.done,il r.1.tries,bl r.1.Ax,bl r.1.broken],bl r.2],un 1)
theorem Z7o {x0 r} {Ad v0}:kV x0 Ad v0=some r->CS (Yj9 x0 r) Tryz.f146 [1,1,0,1] [(1,pt 1),(2,pt 2),(4,pt 4),(16,bl v0)] [bx 1 (Zg.enc x0),rx 3 41 ([].map Zk.enc),bx 2 [sq 3 ([].map Zk.enc).length,il 0,il 0,il 0,bl false,bl false],rx 5 41 (Ad.queue.map Zk.enc),bx 4 [sq 5 (Ad.queue.map Zk.enc).length,il Ad.Ao,il Ad.done,il Ad.tries,bl Ad.Ax,bl Ad.broken]]:=
 st<|it (jk 1<|je Zk.enc Ad.queue<|rt)<|br bR<|it (jp (.num (1:Int).toNat ((Ad.queue.length:Int):Int).toNat (((Ad.queue.length:Int):Int).toNat - (1:Int).toNat) [])<|jk 1<|bn λ{s0} Qu=>jp (.mk 0 (s0.map Zk.enc))<|je Zk.enc Ad.queue<|jo (DL Qu).1<|jo (Gi Zk.enc Ad.queue)<|jo (Eb Zk.enc Qu)<|jo (CF 6 Zk.A8 Ad.queue)<|jo (Eq.refl (((Ad.queue.length:Int):Int).toNat - (1:Int).toNat))<|jo (iT Zk.enc Qu)<|jo (E3 Zk.enc Qu)<|rt)<|jk 1<|je Zk.enc Ad.queue<|rt
theorem Y3s {x0 r}  : kW x0=some r->Zr Tryz.prog Mo (Yj9 x0 r):=
 fK Tryz.func146<|br bS λ{r1}=>br TX<|it (jk 5<|jn Zk.enc r1.queue<|cx (fz 1 1 0++fz 2 1 1024++fz 4 2 2048++fz 5 2 1024) 7 Z7o)<|jk 5<|jn Zk.enc r1.queue<|cx (fz 1 1 0++fz 2 1 1024++fz 4 2 2048++fz 5 2 1024) 7 Z7o
abbrev Yap (x0:Za) (x1:Zb) (r:Za):Y:=(97,[.agg (Za.ow x0),.agg (Zb.enc x1)],.agg (Za.ow r),un 2)
theorem Zz1 {x0 x1 r} {Ad A2 AI}:YX x0 x1 Ad A2 AI=some r->CS (Yap x0 x1 r) Tryz.f97 [1,1,1,1,1,1,1,1] [(2,pt 1),(4,pt 10),(5,pt 19),(6,pt 20),(8,pt 21)] (Za.bk Ad 2++[bx 1 (Za.rl Ad 2)]++Za.bk Za.z0 11++[bx 10 (Za.rl Za.z0 11),bx 19 (Zi.enc x0.Aa),bx 20 (Zg.enc A2),bx 21 (Zt.enc AI)]):=
 st<|bn λ{z0} Xf=>jt Zt.enc [AI] z0<|jk 1<|ja 7 Zt.A8 AI<|jx Zt.enc Xf<|je Zt.enc z0<|br Y3s λ{r0}=>bn λQe=>bn λ{y0} K4=>jw (xq Zg.enc Qe y0)<|jk 1<|je Zk.enc r0.1.queue<|jo (KU Zg.enc K4)<|it (jk 3<|it (jk 8<|je Ze.enc Ad.Ae.Ab<|jo (J0 Zg.enc K4)<|je Zj.enc Ad.buckets<|je Zc Ad.splits<|jw (Zf.so Ad.model)<|je Zt.enc z0<|rt)<|jk 8<|je Ze.enc Ad.Ae.Ab<|jo (J0 Zg.enc K4)<|je Zj.enc Ad.buckets<|je Zc Ad.splits<|jw (Zf.so Ad.model)<|je Zt.enc z0<|rt)<|jk 12<|je Ze.enc Ad.Ae.Ab<|jo (J0 Zg.enc K4)<|je Zj.enc Ad.buckets<|je Zc Ad.splits<|jw (Zf.so Ad.model)<|je Zt.enc z0<|rt
theorem Yr6 {x0 x1 r}  : kX x0 x1=some r->Zr Tryz.prog Mo (Yap x0 x1 r):=
 fK Tryz.func97<|bn λCz=>jw (xd Zg.enc Cz)<|it (bn λCy=>jw (xp Zg.enc Cz Cy)<|jk 8<|je Ze.enc x0.Ae.Ab<|jo (J0 Zg.enc Cy)<|je Zj.enc x0.buckets<|je Zc x0.splits<|jw (Zf.so x0.model)<|je Zt.enc x0.log<|br Z50 λ{r1}=>jk 8<|jw (Za.so r1)<|rt)<|it (bn λDJ=>jw (xp Zg.enc Cz DJ)<|jk 1<|je Ze.enc x0.Ae.Ab<|br Yyx<|bn λD1=>bn λG3=>jw (xp Zc D1 G3)<|jk 8<|je Ze.enc x0.Ae.Ab<|jo (J0 Zg.enc DJ)<|je Zj.enc x0.buckets<|jo (J0 Zc G3)<|jw (Zf.so x0.model)<|je Zt.enc x0.log<|br Z50 λ{r3}=>jk 8<|jw (Za.so r3)<|rt)<|bb Zk.enc<|br qB<|it (br Yeg<|jk 3<|jw (Zf.so x0.model)<|br Z6j λ{r6}=>jw (Za.sc {x0 with Aa:=Zi.z0,model:=r6.1})<|cx (fz 1 1 0++fz 2 0 0++fz 3 0 7++fz 4 0 10++fz 5 0 11++fz 6 11 12288++fz 7 11 12289++fz 8 11 12291++fz 9 0 36++fz 10 1 2048++fz 19 2 2048++fz 20 4 6144++fz 21 9 15360) 29 Zz1)<|jw (Za.sc {x0 with Aa:=Zi.z0})<|cx (fz 1 1 0++Za.ff 2 0 0++fz 10 1 2048++fz 19 2 2048++fz 20 4 6144++fz 21 9 15360) 29 Zz1
abbrev Y4a (x0:Zb) (x1:Int) (r:Int):Y:=(152,[.agg (Zb.enc x0),il x1],il r,un 2)
theorem Y3o {x0 x1 r}  : kY x0 x1=some r->Zr Tryz.prog Mo (Y4a x0 x1 r):=
 fK Tryz.func152<|br Yi9<|it (jk 3<|rt)<|jk 2<|it rt<|rt
abbrev Y1z (x0:Zh) (x1:Zb) (x2:Int) (r:Int):Y:=(153,[.agg (Zh.enc x0),.agg (Zb.enc x1),il x2],il r,un 3)
theorem Y29 {x0 x1 x2 r}  : kZ x0 x1 x2=some r->Zr Tryz.prog Mo (Y1z x0 x1 x2 r):=
 fK Tryz.func153<|br Yi9<|rt
abbrev MF (x0:Za) (x1:Zb) (r:Za):Y:=(99,[.agg (Za.ow x0),.agg (Zb.enc x1)],.agg (Za.ow r),un 2)
theorem Z1j {x0 x1 r} {Ad}:YY x0 x1 Ad=some r->CS (MF x0 x1 r) Tryz.f99 [1,1,1,1,1,1,1,1,1,1,1,1,1] [(2,pt 1),(4,pt 10),(5,pt 19)] (Za.bk {x0 with addr:=Zi.z0} 2++[bx 1 (Za.rl {x0 with addr:=Zi.z0} 2)]++Za.bk Za.z0 11++[bx 10 (Za.rl Za.z0 11),bx 19 (Zi.enc Ad)]):=
 st<|jk 8<|jw (Za.so x0)<|rt
theorem bT {x0 x1 r} {Ad v0}:Jg x0 x1 Ad v0=some r->CS (MF x0 x1 r) Tryz.f99 [1,1,1,1,1,1,1,1,1,1,1,1,0,1] [(2,pt 1),(4,pt 10),(5,pt 19),(128,bl v0)] (Za.bk {x0 with addr:=Zi.z0} 2++[bx 1 (Za.rl {x0 with addr:=Zi.z0} 2)]++Za.bk Za.z0 11++[bx 10 (Za.rl Za.z0 11),bx 19 (Zi.enc Ad)]):=
 st<|it (jw (Za.sc {x0 with addr:=Zi.z0})<|jw (Za.sc Za.z0)<|cx (Ay 1 19) 2 Z1j)<|jw (Za.sc {x0 with addr:=Zi.z0})<|jw (Za.sc Za.z0)<|cx (Ay 1 19) 2 Z1j
theorem Z17 {x0 x1 r} {Ad A2 v1 v2}:Tp x0 x1 Ad A2 v1 v2=some r->CS (MF x0 x1 r) Tryz.f99 [1,1,1,1,1,1,1,1,1,1,1,1] [(2,pt 1),(4,pt 10),(5,pt 19),(6,pt 20),(9,il v1),(10,il v2)] (Za.bk {x0 with addr:=Zi.z0} 2++[bx 1 (Za.rl {x0 with addr:=Zi.z0} 2)]++Za.bk Za.z0 11++[bx 10 (Za.rl Za.z0 11),bx 19 (Zi.enc Ad),bx 20 (Zg.enc A2)]):=
 st<|it (jk 2<|it (jk 2<|it (jk 3<|it (jk 5<|jw (Za.sc {x0 with addr:=Zi.z0})<|jw (Za.sc Za.z0)<|cx (Ay 1 19) 3 bT)<|jk 5<|jw (Za.sc {x0 with addr:=Zi.z0})<|jw (Za.sc Za.z0)<|cx (Ay 1 19) 3 bT)<|jk 9<|jw (Za.sc {x0 with addr:=Zi.z0})<|jw (Za.sc Za.z0)<|cx (Ay 1 19) 3 bT)<|jk 12<|jw (Za.sc {x0 with addr:=Zi.z0})<|jw (Za.sc Za.z0)<|cx (Ay 1 19) 3 bT)<|jk 15<|jw (Za.sc {x0 with addr:=Zi.z0})<|jw (Za.sc Za.z0)<|cx (Ay 1 19) 3 bT
theorem bU {x0 x1 r} {Ad A2 v1 v2 v3}:Jk x0 x1 Ad A2 v1 v2 v3=some r->CS (MF x0 x1 r) Tryz.f99 [1,1,1,1,1,1,1,1,1,1,1,0,1] [(2,pt 1),(4,pt 10),(5,pt 19),(6,pt 20),(9,il v1),(10,il v2),(104,bl v3)] (Za.bk {x0 with addr:=Zi.z0} 2++[bx 1 (Za.rl {x0 with addr:=Zi.z0} 2)]++Za.bk Za.z0 11++[bx 10 (Za.rl Za.z0 11),bx 19 (Zi.enc Ad),bx 20 (Zg.enc A2)]):=
 st<|it (jw (Za.sc {x0 with addr:=Zi.z0})<|jw (Za.sc Za.z0)<|cx (Ay 1 20) 2 Z17)<|jw (Za.sc {x0 with addr:=Zi.z0})<|jw (Za.sc Za.z0)<|cx (Ay 1 20) 2 Z17
theorem Z3e {x0 x1 r} {Ad A2 v1 v2}:Tq x0 x1 Ad A2 v1 v2=some r->CS (MF x0 x1 r) Tryz.f99 [1,1,1,1,1,1,1,1,1,1,1] [(2,pt 1),(4,pt 10),(5,pt 19),(6,pt 20),(9,il v1),(10,il v2)] (Za.bk {x0 with addr:=Zi.z0} 2++[bx 1 (Za.rl {x0 with addr:=Zi.z0} 2)]++Za.bk Za.z0 11++[bx 10 (Za.rl Za.z0 11),bx 19 (Zi.enc Ad),bx 20 (Zg.enc A2)]):=
 st<|it (jk 2<|it (jk 2<|it (jk 11<|jw (Za.sc {x0 with addr:=Zi.z0})<|jw (Za.sc Za.z0)<|cx (Ay 1 20) 3 bU)<|jk 4<|it (jk 6<|jw (Za.sc {x0 with addr:=Zi.z0})<|jw (Za.sc Za.z0)<|cx (Ay 1 20) 3 bU)<|jk 6<|jw (Za.sc {x0 with addr:=Zi.z0})<|jw (Za.sc Za.z0)<|cx (Ay 1 20) 3 bU)<|jk 11<|jw (Za.sc {x0 with addr:=Zi.z0})<|jw (Za.sc Za.z0)<|cx (Ay 1 20) 3 bU)<|jk 14<|jw (Za.sc {x0 with addr:=Zi.z0})<|jw (Za.sc Za.z0)<|cx (Ay 1 20) 3 bU
theorem Z2l {x0 x1 r} {Ad A2 v1 v2 v4}:Tr x0 x1 Ad A2 v1 v2 v4=some r->CS (MF x0 x1 r) Tryz.f99 [1,1,1,1,1,1,1,1,1,1,0,1] [(2,pt 1),(4,pt 10),(5,pt 19),(6,pt 20),(9,il v1),(10,il v2),(77,bl v4)] (Za.bk {x0 with addr:=Zi.z0} 2++[bx 1 (Za.rl {x0 with addr:=Zi.z0} 2)]++Za.bk Za.z0 11++[bx 10 (Za.rl Za.z0 11),bx 19 (Zi.enc Ad),bx 20 (Zg.enc A2)]):=
 st<|it (jw (Za.sc {x0 with addr:=Zi.z0})<|jw (Za.sc Za.z0)<|cx (Ay 1 20) 2 Z3e)<|jw (Za.sc {x0 with addr:=Zi.z0})<|jw (Za.sc Za.z0)<|cx (Ay 1 20) 2 Z3e
theorem Z23 {x0 x1 r} {Ad A2 v1 v2}:Ts x0 x1 Ad A2 v1 v2=some r->CS (MF x0 x1 r) Tryz.f99 [1,1,1,1,1,1,1,1,1,1] [(2,pt 1),(4,pt 10),(5,pt 19),(6,pt 20),(9,il v1),(10,il v2)] (Za.bk {x0 with addr:=Zi.z0} 2++[bx 1 (Za.rl {x0 with addr:=Zi.z0} 2)]++Za.bk Za.z0 11++[bx 10 (Za.rl Za.z0 11),bx 19 (Zi.enc Ad),bx 20 (Zg.enc A2)]):=
 st<|it (jk 3<|jw (Za.sc {x0 with addr:=Zi.z0})<|jw (Za.sc Za.z0)<|cx (Ay 1 20) 3 Z2l)<|jk 3<|jw (Za.sc {x0 with addr:=Zi.z0})<|jw (Za.sc Za.z0)<|cx (Ay 1 20) 3 Z2l
theorem Z1n {x0 x1 r} {AI Tu v5 v1 v2 v6}:Tt x0 x1 AI Tu v5 v1 v2 v6=some r->CS (MF x0 x1 r) Tryz.f99 [1,1,1,1,1,1,1,1,1,0,0,1] [(2,pt 1),(3,pt 10),(4,pt 11),(5,pt 20),(6,pt 21),(7,pt 22),(8,il v5),(9,il v1),(10,il v2),(63,bl v6)] (Za.bk {x0 with addr:=Zi.z0} 2++[bx 1 (Za.rl {x0 with addr:=Zi.z0} 2),bx 10 (Zb.enc x1)]++Za.bk Za.z0 12++[bx 11 (Za.rl Za.z0 12),bx 20 (Zi.enc x0.addr),bx 21 (Zg.enc AI),bx 22 (Zk.enc Tu)]):=
 st<|it (jw (Za.sc {x0 with addr:=Zi.z0})<|jw (Za.sc Za.z0)<|cx (Ay 1 9++fz 10 1 11++fz 11 1 12++fz 12 1 13++fz 13 1 14++fz 14 1 15++fz 15 1 16++fz 16 1 17++fz 17 1 18++fz 18 1 19++fz 19 1 20++fz 20 1 21) 3 Z23)<|jk 1<|je Ze.enc x0.Ae.Ab<|br Y29<|br Yeg<|jk 3<|jw (Zf.so x0.model)<|br Z6j<|jw (Za.sc {x0 with addr:=Zi.z0})<|jw (Za.sc Za.z0)<|cx (Ay 1 9++fz 10 1 11++fz 11 1 12++fz 12 1 13++fz 13 1 14++fz 14 1 15++fz 15 1 16++fz 16 1 17++fz 17 1 18++fz 18 1 19++fz 19 1 20++fz 20 1 21) 5 Z23
theorem Yss {x0 x1 r}  : lA x0 x1=some r->Zr Tryz.prog Mo (MF x0 x1 r):=
 fK Tryz.func99<|it (jk 8<|jw (Za.so x0)<|rt)<|bd Zg.enc<|bb Zk.enc<|br qB<|br Yhw<|br Y3o<|it (jk 2<|jw (Za.sc {x0 with addr:=Zi.z0})<|cx (fz 1 1 0++Za.ff 2 0 0++fz 10 1 1024++fz 11 1 2048++fz 20 2 2048++fz 21 5 6144++fz 22 6 4096) 25 Z1n)<|jk 2<|jw (Za.sc {x0 with addr:=Zi.z0})<|cx (fz 1 1 0++Za.ff 2 0 0++fz 10 1 1024++fz 11 1 2048++fz 20 2 2048++fz 21 5 6144++fz 22 6 4096) 25 Z1n
abbrev Yvh (x0:Zg) (r:Bool):Y:=(147,[.agg (Zg.enc x0)],bl r,un 1)
theorem Ydc {x0 r}  : YZ x0=some r->Zr Tryz.prog Mo (Yvh x0 r):=
 fK Tryz.func147<|br TX<|it (jk 3<|br bR<|jk 2<|rt)<|jk 5<|rt
abbrev Z6z (x0:Zj) (x1:Ze) (r:Zj×Bool):Y:=(148,[.agg (Zj.enc x0),.agg (Ze.enc x1)],.AW [.agg (Zj.enc r.1),bl r.2],un 2)
theorem Zpx {x0 x1 r} {v0}:ZA x0 x1 v0=some r->CS (Z6z x0 x1 r) Tryz.f148 [1,0,1] [(2,pt 1),(4,pt 2),(19,bl v0)] [bx 1 (Zj.enc x0),bx 2 (Zj.enc Zj.z0)]:=
 st<|it rt<|rt
theorem Yn6 {x0 x1 r}  : lB x0 x1=some r->Zr Tryz.prog Mo (Z6z x0 x1 r):=
 fK Tryz.func148<|it (jk 8<|cx (fz 1 1 0++fz 2 1 2048) 5 Zpx)<|jk 2<|br qA<|jk 2<|it (jk 3<|cx (fz 1 1 0++fz 2 1 2048) 5 Zpx)<|jk 3<|cx (fz 1 1 0++fz 2 1 2048) 5 Zpx
abbrev Yeb (x0:Zg) (r:Zg×Bool):Y:=(150,[.agg (Zg.enc x0)],.AW [.agg [.own 41 (r.1.queue.map Zk.enc),il r.1.Ao,il r.1.done,il r.1.tries,bl r.1.Ax,bl r.1.broken],bl r.2],un 1)
theorem Z2c {x0 r} {Ad v0}:lC x0 Ad v0=some r->CS (Yeb x0 r) Tryz.f150 [1,1,0,1] [(2,pt 1),(4,pt 3),(17,bl v0)] [rx 2 41 ([].map Zk.enc),bx 1 [sq 2 ([].map Zk.enc).length,il 0,il 0,il 0,bl false,bl false],rx 4 41 (Ad.queue.map Zk.enc),bx 3 [sq 4 (Ad.queue.map Zk.enc).length,il Ad.Ao,il Ad.done,il Ad.tries,bl Ad.Ax,bl Ad.broken]]:=
 st<|it (jk 1<|je Zk.enc Ad.queue<|rt)<|jk 1<|je Zk.enc Ad.queue<|rt
theorem Yvt {x0 r}  : lD x0=some r->Zr Tryz.prog Mo (Yeb x0 r):=
 fK Tryz.func150<|br bS λ{r0}=>br Ydc<|it (jk 6<|jn Zk.enc r0.queue<|cx (fz 1 1 1024++fz 3 2 2048++fz 4 2 1024) 7 Z2c)<|jk 6<|jn Zk.enc r0.queue<|cx (fz 1 1 1024++fz 3 2 2048++fz 4 2 1024) 7 Z2c
abbrev qF (x0:Yb) (x1:Zh) (x2:List Bool) (r:Yb×Int):Y:=(149,[.agg (Yb.enc x0),.agg (Zh.enc x1),.tr (x2.map Z8)],.AW [.agg (Yb.enc r.1),il r.2],un 3)
theorem Ymw {x0 x1 x2 r}:∀{m v0},lE x0 x1 x2 m v0=some r->CS (qF x0 x1 x2 r) Tryz.f149 [1,1,1,0,1,0] [(2,.tr (x2.map Z8)),(3,pt 1),(4,pt 2),(6,pt 3),(8,il v0)] [bx 1 (Yb.enc x0),bx 2 (Zh.enc x1),bx 3 (Yb.enc Yb.z0)]:=by
 intro m
 induction m with
 | zero=>intro v0 h;cases h
 | succ m ih=>exact st<|js Z8 x2<|it (js Z8 x2<|jl<|bo KV<|bb Z8<|it (br zN<|rt)<|cx (Ay 1 3) 16 ih)<|rt
theorem Z48 {x0 x1 x2 r} {v1}:lF x0 x1 x2 v1=some r->CS (qF x0 x1 x2 r) Tryz.f149 [1,1,0,1] [(2,.tr (x2.map Z8)),(3,pt 1),(4,pt 2),(6,pt 3),(32,bl v1)] [bx 1 (Yb.enc x0),bx 2 (Zh.enc x1),bx 3 (Yb.enc Yb.z0)]:=
 st<|it rt<|cx (Ay 1 3) 6 Ymw
theorem Z5m {x0 x1 x2 r} {v2}:lG x0 x1 x2 v2=some r->CS (qF x0 x1 x2 r) Tryz.f149 [1,0,1] [(2,.tr (x2.map Z8)),(3,pt 1),(4,pt 2),(6,pt 3),(21,bl v2)] [bx 1 (Yb.enc x0),bx 2 (Zh.enc x1),bx 3 (Yb.enc Yb.z0)]:=
 st<|it rt<|it (jk 3<|bb Z8<|jk 2<|cx (Ay 1 3) 5 Z48)<|jk 5<|cx (Ay 1 3) 5 Z48
theorem Y0e {x0 x1 x2 r}  : lH x0 x1 x2=some r->Zr Tryz.prog Mo (qF x0 x1 x2 r):=
 fK Tryz.func149<|br zO<|it (jk 6<|cx (fz 1 1 0++fz 2 1 1024++fz 3 1 2048) 5 Z5m)<|jk 1<|js Z8 x2<|jk 3<|js Ze.enc x1.Ab<|jk 2<|cx (fz 1 1 0++fz 2 1 1024++fz 3 1 2048) 5 Z5m
abbrev Q3 (x0:Za) (r:Za):Y:=(98,[.agg (Za.ow x0)],.agg (Za.ow r),un 1)
theorem Z20 {x0 r} {DE:Za->Zi->(List Bool)->Int->Option Za} (IN:∀{Ad A2 v0 v1},DE Ad A2 v0 v1=some r->CS (Q3 x0 r) Tryz.f98 [1,1,1,1,1,0,1,0] [(1,pt 1),(2,pt 10),(3,sq 20 (v0.map Z8).length),(5,pt 19),(6,il v1)] (Za.bk Ad 2++[bx 1 (Za.rl Ad 2)]++Za.bk Za.z0 11++[bx 10 (Za.rl Za.z0 11),bx 19 (Zi.enc A2),rx 20 4 (v0.map Z8)])) {Ad A2 v0 v1 v2}:lI x0 DE Ad A2 v0 v1 v2=some r->CS (Q3 x0 r) Tryz.f98 [1,1,1,1,1,0,1,0,0,1,0,0,1] [(1,pt 1),(2,pt 10),(3,sq 20 (v0.map Z8).length),(5,pt 19),(6,il v1),(84,bl v2)] (Za.bk Ad 2++[bx 1 (Za.rl Ad 2)]++Za.bk Za.z0 11++[bx 10 (Za.rl Za.z0 11),bx 19 (Zi.enc A2),rx 20 4 (v0.map Z8)]):=
 st<|it (bn λQe=>jw (xd Zj.enc Qe)<|bd Ze.enc<|br Yn6<|bn λ{y0} K4=>jw (xp Zj.enc Qe K4)<|jn Z8 v0<|jw (tq (Za.nm {Ad with buckets:=y0}))<|je Ze.enc Ad.Ae.Ab<|je Zg.enc Ad.m<|jo (J0 Zj.enc K4)<|je Zc Ad.splits<|jw (Zf.so Ad.model)<|je Zt.enc Ad.log<|jw (Za.sc Za.z0)<|cx (Ay 1 20) 6 IN)<|jn Z8 v0<|jw (Za.sc Ad)<|jw (Za.sc Za.z0)<|cx (Ay 1 20) 4 IN
theorem Zz2 {x0 r} {Ad A2 AI}:lJ x0 Ad A2 AI=some r->CS (Q3 x0 r) Tryz.f98 [1,1,1,1,1,1,1,1,1,1,1,1,1] [(1,pt 1),(2,pt 10),(5,pt 19),(7,pt 20)] (Za.bk Ad 2++[bx 1 (Za.rl Ad 2)]++Za.bk Za.z0 11++[bx 10 (Za.rl Za.z0 11),bx 19 (Zi.enc A2),bx 20 (Zg.enc AI)]):=
 st<|br Yvt λ{r1}=>bn λD1=>bn λ{y1} Cy=>jw (xq Zg.enc D1 y1)<|jk 9<|je Zk.enc r1.1.queue<|jo (KU Zg.enc Cy)<|je Ze.enc Ad.Ae.Ab<|jo (J0 Zg.enc Cy)<|je Zj.enc Ad.buckets<|je Zc Ad.splits<|jw (Zf.so Ad.model)<|je Zt.enc Ad.log<|rt
theorem Zru {x0 r} {Ad A2 AI v3}:ZB x0 Ad A2 AI v3=some r->CS (Q3 x0 r) Tryz.f98 [1,1,1,1,1,1,1,1,1,1,1,1,0,1] [(1,pt 1),(2,pt 10),(5,pt 19),(7,pt 20),(165,bl v3)] (Za.bk Ad 2++[bx 1 (Za.rl Ad 2)]++Za.bk Za.z0 11++[bx 10 (Za.rl Za.z0 11),bx 19 (Zi.enc A2),bx 20 (Zg.enc AI)]):=
 st<|it (jw (Za.sc {Ad with Af:=A2.Aj,held:=0})<|jw (Za.sc Za.z0)<|cx (Ay 1 20) 4 Zz2)<|jw (Za.sc Ad)<|jw (Za.sc Za.z0)<|cx (Ay 1 20) 2 Zz2
theorem Z2q {x0 r} {Ad A2 AI}:ZC x0 Ad A2 AI=some r->CS (Q3 x0 r) Tryz.f98 [1,1,1,1,1,1,1,1,1,1,1,1] [(1,pt 1),(2,pt 10),(5,pt 19),(7,pt 20)] (Za.bk Ad 2++[bx 1 (Za.rl Ad 2)]++Za.bk Za.z0 11++[bx 10 (Za.rl Za.z0 11),bx 19 (Zi.enc A2),bx 20 (Zg.enc AI)]):=
 st<|bb Zk.enc<|it (jk 3<|it (jk 3<|jw (Za.sc Ad)<|jw (Za.sc Za.z0)<|cx (Ay 1 20) 3 Zru)<|jk 3<|jw (Za.sc Ad)<|jw (Za.sc Za.z0)<|cx (Ay 1 20) 3 Zru)<|jk 7<|jw (Za.sc Ad)<|jw (Za.sc Za.z0)<|cx (Ay 1 20) 3 Zru
theorem Z1q {x0 r} {Ad A2}:NZ x0 Ad A2=some r->CS (Q3 x0 r) Tryz.f98 [1,1,1,1,1,1,1] [(1,pt 1),(2,pt 10),(5,pt 19)] (Za.bk Ad 2++[bx 1 (Za.rl Ad 2)]++Za.bk Za.z0 11++[bx 10 (Za.rl Za.z0 11),bx 19 (Zi.enc A2)]):=
 st<|it (jk 8<|jw (Za.so Ad)<|rt)<|bd Zg.enc<|it (jk 5<|jw (Za.sc Ad)<|jw (Za.sc Za.z0)<|cx (Ay 1 19++fz 20 3 6144) 13 Z2q)<|jk 5<|jw (Za.sc Ad)<|jw (Za.sc Za.z0)<|cx (Ay 1 19++fz 20 3 6144) 13 Z2q
theorem Z25 {x0 r} {Ad A2 v0 v4}:ZD x0 Ad A2 v0 v4=some r->CS (Q3 x0 r) Tryz.f98 [1,1,1,1,1,1,0,1] [(1,pt 1),(2,pt 10),(3,sq 20 (v0.map Z8).length),(5,pt 19),(113,bl v4)] (Za.bk Ad 2++[bx 1 (Za.rl Ad 2)]++Za.bk Za.z0 11++[bx 10 (Za.rl Za.z0 11),bx 19 (Zi.enc A2),rx 20 4 (v0.map Z8)]):=
 st<|it (jk 2<|je Ze.enc Ad.Ae.Ab<|je Z8 v0<|br Y0e λ{r2}=>jw (Za.sc {Ad with Bm:=r2.1})<|jw (Za.sc Za.z0)<|cx (Ay 1 19) 4 Z1q)<|jw (Za.sc Ad)<|jw (Za.sc Za.z0)<|cx (Ay 1 19) 2 Z1q
theorem Z1k {x0 r} {DE:Za->Zi->(List Bool)->Int->Option Za} (IN:∀{Ad A2 v0 v1},DE Ad A2 v0 v1=some r->CS (Q3 x0 r) Tryz.f98 [1,1,1,1,1,0,1,0] [(1,pt 1),(2,pt 10),(3,sq 20 (v0.map Z8).length),(5,pt 19),(6,il v1)] (Za.bk Ad 2++[bx 1 (Za.rl Ad 2)]++Za.bk Za.z0 11++[bx 10 (Za.rl Za.z0 11),bx 19 (Zi.enc A2),rx 20 4 (v0.map Z8)])) {Ad A2 v0 v1 v5}:Tv x0 DE Ad A2 v0 v1 v5=some r->CS (Q3 x0 r) Tryz.f98 [1,1,1,1,1,0,1,0,0,0,1] [(1,pt 1),(2,pt 10),(3,sq 20 (v0.map Z8).length),(5,pt 19),(6,il v1),(69,bl v5)] (Za.bk Ad 2++[bx 1 (Za.rl Ad 2)]++Za.bk Za.z0 11++[bx 10 (Za.rl Za.z0 11),bx 19 (Zi.enc A2),rx 20 4 (v0.map Z8)]):=
 st<|it (bd Z8<|it (jk 3<|bn λ{a6} qG=>jp (.row (v1:Int).toNat (Zj.enc a6))<|jk 2<|jp (.cell (Zj.enc a6))<|jk 2<|jp (.num (v0.map Z8).length 0 0 [])<|jo (Hl qG)<|jo (HE Zj.enc qG)<|jo (Dl Zj.enc qG)<|jo (Dl Zj.enc qG)<|je Z8 v0<|jw (Za.sc Ad)<|jw (Za.sc Za.z0)<|cx (Ay 1 20) 6 (Z20 IN))<|jk 7<|jn Z8 v0<|jw (Za.sc Ad)<|jw (Za.sc Za.z0)<|cx (Ay 1 20) 6 (Z20 IN))<|it (jk 3<|jn Z8 v0<|jw (Za.sc Ad)<|jw (Za.sc Za.z0)<|cx (Ay 1 20) 8 Z25)<|jk 3<|jn Z8 v0<|jw (Za.sc Ad)<|jw (Za.sc Za.z0)<|cx (Ay 1 20) 8 Z25
theorem Yjd {x0 r}:∀{m Ad A2 v0 v1},Rh x0 m Ad A2 v0 v1=some r->CS (Q3 x0 r) Tryz.f98 [1,1,1,1,1,0,1,0] [(1,pt 1),(2,pt 10),(3,sq 20 (v0.map Z8).length),(5,pt 19),(6,il v1)] (Za.bk Ad 2++[bx 1 (Za.rl Ad 2)]++Za.bk Za.z0 11++[bx 10 (Za.rl Za.z0 11),bx 19 (Zi.enc A2),rx 20 4 (v0.map Z8)]):=by
 intro m
 induction m with
 | zero=>intro Ad A2 v0 v1 h;cases h
 | succ m ih=>exactλ{Ad} {A2} {v0} {v1}=>st<|js Zg.enc Ad.m<|it (jk 3<|jn Z8 v0<|jw (Za.sc Ad)<|jw (Za.sc Za.z0)<|cx (Ay 1 20) 4 (Z1k ih))<|jk 3<|jn Z8 v0<|jw (Za.sc Ad)<|jw (Za.sc Za.z0)<|cx (Ay 1 20) 4 (Z1k ih)
theorem Z1i {x0 r} {A2 v0}:lK x0 A2 v0=some r->CS (Q3 x0 r) Tryz.f98 [1,1,1,1,1] [(1,pt 1),(2,pt 10),(3,sq 20 (v0.map Z8).length),(5,pt 19)] (Za.bk x0 2++[bx 1 (Za.rl x0 2)]++Za.bk Za.z0 11++[bx 10 (Za.rl Za.z0 11),bx 19 (Zi.enc A2),rx 20 4 (v0.map Z8)]):=
 st<|jn Z8 v0<|jw (Za.sc x0)<|jw (Za.sc Za.z0)<|cx (Ay 1 20) 4 Yjd
theorem Z3l {x0 r} {v0 v6}:lL x0 v0 v6=some r->CS (Q3 x0 r) Tryz.f98 [1,1,1,1,0,1] [(1,pt 1),(2,pt 10),(3,sq 20 (v0.map Z8).length),(5,pt 19),(56,bl v6)] (Za.bk x0 2++[bx 1 (Za.rl x0 2)]++Za.bk Za.z0 11++[bx 10 (Za.rl Za.z0 11),bx 19 (Zi.enc (Zi.mk false (-1) 0 false 0 0 0 false)),rx 20 4 (v0.map Z8)]):=
 st<|it (jn Z8 v0<|jw (Za.sc x0)<|jw (Za.sc Za.z0)<|cx (Ay 1 20) 2 Z1i)<|jn Z8 v0<|jw (Za.sc x0)<|jw (Za.sc Za.z0)<|cx (Ay 1 20) 2 Z1i
theorem Yiq {x0 r}:∀{m v0 v7},lN x0 m v0 v7=some r->CS (Q3 x0 r) Tryz.f98 [1,1,0,1,0] [(1,pt 1),(2,pt 10),(3,sq 19 (v0.map Z8).length),(4,il v7)] (Za.bk x0 2++[bx 1 (Za.rl x0 2)]++Za.bk Za.z0 11++[bx 10 (Za.rl Za.z0 11),rx 19 4 (v0.map Z8)]):=by
 intro m
 induction m with
 | zero=>intro v0 v7 h;cases h
 | succ m ih=>exactλ{v0} {v7}=>st<|js Zg.enc x0.m<|it (bd Zg.enc<|br Ydc<|it (jk 3<|bn λ{a8} HI=>jp (.row (v7:Int).toNat (Zc a8))<|jk 1<|jp (.cell (Zc a8))<|jk 2<|ig (λg3=>jp (.t true)<|jk 3<|ig (λg4=>jp (.t true)<|jk 6<|bn λ{z0} Xf=>jt Z8 [true] z0<|jk 1<|jp (.num (z0.map Z8).length 0 0 [])<|jo (Hl HI)<|jo (HE Zc HI)<|jo (Dl Zc HI)<|jo (Dl Zc HI)<|jo g3<|jo g4<|ja 1 NS true<|jx Z8 Xf<|je Z8 z0<|je Z8 z0<|jw (Za.sc x0)<|jw (Za.sc Za.z0)<|cx (Ay 1 18++fz 19 3 27648) 11 ih) λg4=>jp (.t false)<|jk 6<|bn λ{z0} Xf=>jt Z8 [decide (x0.Af=v7)] z0<|jk 1<|jp (.num (z0.map Z8).length 0 0 [])<|jo (Hl HI)<|jo (HE Zc HI)<|jo (Dl Zc HI)<|jo (Dl Zc HI)<|jo g3<|jo g4<|ja 1 NS (decide (x0.Af=v7))<|jx Z8 Xf<|je Z8 z0<|je Z8 z0<|jw (Za.sc x0)<|jw (Za.sc Za.z0)<|cx (Ay 1 18++fz 19 3 27648) 11 ih) λg3=>jp (.t false)<|jk 5<|bn λ{z0} Xf=>jt Z8 [false] z0<|jk 1<|jp (.num (z0.map Z8).length 0 0 [])<|jo (Hl HI)<|jo (HE Zc HI)<|jo (Dl Zc HI)<|jo (Dl Zc HI)<|jo g3<|ja 1 NS false<|jx Z8 Xf<|je Z8 z0<|je Z8 z0<|jw (Za.sc x0)<|jw (Za.sc Za.z0)<|cx (Ay 1 18++fz 19 3 27648) 11 ih)<|jk 12<|bn λ{z0} Xf=>jt Z8 [false] z0<|jk 1<|ja 1 NS false<|jx Z8 Xf<|jn Z8 z0<|je Z8 z0<|jw (Za.sc x0)<|jw (Za.sc Za.z0)<|cx (Ay 1 18++fz 19 3 27648) 11 ih)<|it (jk 3<|bn λ{a9} qH=>jp (.row (x0.Af:Int).toNat (Z8 a9))<|jk 1<|jp (.cell (Z8 a9))<|jk 1<|jp (.num (v0.map Z8).length 0 0 [])<|jo (Hl qH)<|jo (HE Z8 qH)<|jo (Dl Z8 qH)<|jo (Dl Z8 qH)<|je Z8 v0<|jw (Za.sc x0)<|jw (Za.sc Za.z0)<|cx (Ay 1 18++fz 19 3 1024++fz 20 1 19) 14 Z3l)<|jk 5<|jn Z8 v0<|jw (Za.sc x0)<|jw (Za.sc Za.z0)<|cx (Ay 1 18++fz 19 3 1024++fz 20 1 19) 14 Z3l
theorem Yu2 {x0 r}  : lO x0=some r->Zr Tryz.prog Mo (Q3 x0 r):=
 fK Tryz.func98<|jp (.num ([].map Z8).length 0 0 [])<|jo (show 0=([].map Z8).length from rfl)<|jw (Za.sc x0)<|cx (fz 1 1 0++Za.ff 2 0 0++fz 10 1 1024++fz 19 2 0) 8 Yiq
abbrev Lj (x0:Za) (x1:Zb) (r:Za×Zq):Y:=(49,[.agg (Za.enc x0),.agg (Zb.enc x1)],.AW [.agg (Za.ow r.1),.agg (Zq.enc r.2)],un 2)
theorem Zuq {x0 x1 r} {Ad A2}:Tw x0 x1 Ad A2=some r->CS (Lj x0 x1 r) Tryz.f49 [1,1,1,1,1,1,1,1,1] [(2,pt 1),(4,pt 10),(5,pt 19),(6,pt 20)] (Za.bk Ad 2++[bx 1 (Za.rl Ad 2)]++Za.bk Za.z0 11++[bx 10 (Za.rl Za.z0 11),bx 19 (Zq.enc Zq.z0),bx 20 (Zq.enc A2)]):=
 st<|jk 8<|jw (Za.so Ad)<|rt
theorem Z34 {x0 x1 r} {Ad AI}:Tx x0 x1 Ad AI=some r->CS (Lj x0 x1 r) Tryz.f49 [1,1,1,1,1,1,1,1,0,1,0,1] [(2,pt 1),(3,pt 10),(4,pt 11),(5,pt 20),(6,pt 21)] (Za.bk Ad 2++[bx 1 (Za.rl Ad 2),bx 10 (Zb.enc x1)]++Za.bk Za.z0 12++[bx 11 (Za.rl Za.z0 12),bx 20 (Zq.enc Zq.z0),bx 21 (Zq.enc AI)]):=
 st<|jk 8<|jw (Za.so Ad)<|br Yss λ{r0}=>jk 8<|jw (Za.so r0)<|br Yu2 λ{r1}=>it (jw (Za.sc r1)<|jw (Za.sc Za.z0)<|cx (Ay 1 1++Za.ff 2 2 3072++fz 10 1 11++fz 11 1 12++fz 12 1 13++fz 13 1 14++fz 14 1 15++fz 15 1 16++fz 16 1 17++fz 17 1 18++fz 18 1 19++fz 19 1 20++fz 20 1 21) 6 Zuq)<|jw (Za.sc r1)<|jw (Za.sc Za.z0)<|cx (Ay 1 1++Za.ff 2 2 3072++fz 10 1 11++fz 11 1 12++fz 12 1 13++fz 13 1 14++fz 14 1 15++fz 15 1 16++fz 16 1 17++fz 17 1 18++fz 18 1 19++fz 19 1 20++fz 20 1 21) 6 Zuq
theorem Z3x {x0 x1 r} {Ad AI v0}:Oa x0 x1 Ad AI v0=some r->CS (Lj x0 x1 r) Tryz.f49 [1,1,1,1,1,1,1,1,0,1,0,0,1] [(2,pt 1),(3,pt 10),(4,pt 11),(5,pt 20),(6,pt 21),(182,bl v0)] (Za.bk Ad 2++[bx 1 (Za.rl Ad 2),bx 10 (Zb.enc x1)]++Za.bk Za.z0 12++[bx 11 (Za.rl Za.z0 12),bx 20 (Zq.enc Zq.z0),bx 21 (Zq.enc AI)]):=
 st<|it (bn λQe=>bn λ{y0} K4=>jw (xp Zg.enc Qe K4)<|jw (tq (Za.nm {Ad with m:=y0,Af:=(-1),held:=0}))<|je Ze.enc Ad.Ae.Ab<|jo (J0 Zg.enc K4)<|je Zj.enc Ad.buckets<|je Zc Ad.splits<|jw (Zf.so Ad.model)<|je Zt.enc Ad.log<|jw (Za.sc Za.z0)<|cx (Ay 1 21) 6 Z34)<|jw (Za.sc Ad)<|jw (Za.sc Za.z0)<|cx (Ay 1 21) 2 Z34
theorem bV {x0 x1 r} {Ad AI}:Kw x0 x1 Ad AI=some r->CS (Lj x0 x1 r) Tryz.f49 [1,1,1,1,1,1,1,1] [(2,pt 1),(3,pt 10),(4,pt 11),(5,pt 20),(6,pt 21)] (Za.bk Ad 2++[bx 1 (Za.rl Ad 2),bx 10 (Zb.enc x1)]++Za.bk Za.z0 12++[bx 11 (Za.rl Za.z0 12),bx 20 (Zq.enc Zq.z0),bx 21 (Zq.enc AI)]):=
 st<|it (it (jk 6<|jw (Za.sc Ad)<|jw (Za.sc Za.z0)<|cx (Ay 1 21) 7 Z3x)<|jk 6<|jw (Za.sc Ad)<|jw (Za.sc Za.z0)<|cx (Ay 1 21) 7 Z3x)<|jw (Za.sc Ad)<|jw (Za.sc Za.z0)<|cx (Ay 1 9++fz 10 1 11++fz 11 1 12++fz 12 1 13++fz 13 1 14++fz 14 1 15++fz 15 1 16++fz 16 1 17++fz 17 1 18++fz 18 1 19++fz 19 1 20++fz 20 1 21) 5 Zuq
theorem Zvc {x0 x1 r} {Ad AI v1}:Ob x0 x1 Ad AI v1=some r->CS (Lj x0 x1 r) Tryz.f49 [1,1,1,1,1,1,1,0,0,1,1,1] [(2,pt 1),(3,pt 10),(4,pt 11),(5,pt 20),(6,pt 21),(126,bl v1)] (Za.bk Ad 2++[bx 1 (Za.rl Ad 2),bx 10 (Zb.enc x1)]++Za.bk Za.z0 12++[bx 11 (Za.rl Za.z0 12),bx 20 (Zq.enc Zq.z0),bx 21 (Zq.enc AI)]):=
 st<|it (it (jk 8<|jw (Za.so Ad)<|br Z50 λ{r2}=>jw (Za.sc r2)<|jw (Za.sc Za.z0)<|cx (Ay 1 1++Za.ff 2 8 2048++Ay 10 12) 16 bV)<|jw (Za.sc {Ad with Aa:={Ad.Aa with second:=true}})<|jw (Za.sc Za.z0)<|cx (Ay 1 21) 12 bV)<|it (jk 8<|jw (Za.so Ad)<|br Yr6 λ{r3}=>jw (Za.sc r3)<|jw (Za.sc Za.z0)<|cx (Ay 1 1++Za.ff 2 4 2048++Ay 10 12) 8 bV)<|jw (Za.sc Ad)<|jw (Za.sc Za.z0)<|cx (Ay 1 21) 6 bV
theorem Z37 {x0 x1 r} {Ad AI v2}:lP x0 x1 Ad AI v2=some r->CS (Lj x0 x1 r) Tryz.f49 [1,1,1,1,1,1,1,0,0,1] [(2,pt 1),(3,pt 10),(4,pt 11),(5,pt 20),(6,pt 21),(109,bl v2)] (Za.bk Ad 2++[bx 1 (Za.rl Ad 2),bx 10 (Zb.enc x1)]++Za.bk Za.z0 12++[bx 11 (Za.rl Za.z0 12),bx 20 (Zq.enc Zq.z0),bx 21 (Zq.enc AI)]):=
 st<|it (jw (Za.sc {Ad with Aa:={Ad.Aa with left:=(Xd Ad.Aa.left 1)}})<|jw (Za.sc Za.z0)<|cx (Ay 1 21) 5 bV)<|it (jk 4<|it (jk 4<|jw (Za.sc Ad)<|jw (Za.sc Za.z0)<|cx (Ay 1 21) 3 Zvc)<|jk 4<|jw (Za.sc Ad)<|jw (Za.sc Za.z0)<|cx (Ay 1 21) 3 Zvc)<|jk 9<|jw (Za.sc Ad)<|jw (Za.sc Za.z0)<|cx (Ay 1 21) 3 Zvc
theorem Z5d {x0 x1 r} {Ad AI}:Oc x0 x1 Ad AI=some r->CS (Lj x0 x1 r) Tryz.f49 [1,1,1,1,1,1,1] [(2,pt 1),(3,pt 10),(4,pt 11),(5,pt 20),(6,pt 21)] (Za.bk Ad 2++[bx 1 (Za.rl Ad 2),bx 10 (Zb.enc x1)]++Za.bk Za.z0 12++[bx 11 (Za.rl Za.z0 12),bx 20 (Zq.enc Zq.z0),bx 21 (Zq.enc AI)]):=
 st<|it (jk 4<|jw (Za.sc Ad)<|jw (Za.sc Za.z0)<|cx (Ay 1 21) 4 Z37)<|jk 4<|jw (Za.sc Ad)<|jw (Za.sc Za.z0)<|cx (Ay 1 21) 4 Z37
theorem Yl5 {x0 x1 r}:∀{m Ad AI v3},Ri x0 x1 m Ad AI v3=some r->CS (Lj x0 x1 r) Tryz.f49 [1,1,1,1,1,0,1,0] [(2,pt 1),(3,pt 10),(4,pt 11),(5,pt 20),(6,pt 21),(11,il v3)] (Za.bk Ad 2++[bx 1 (Za.rl Ad 2),bx 10 (Zb.enc x1)]++Za.bk Za.z0 12++[bx 11 (Za.rl Za.z0 12),bx 20 (Zq.enc Zq.z0),bx 21 (Zq.enc AI)]):=by
 intro m
 induction m with
 | zero=>intro Ad AI v3 h;cases h
 | succ m ih=>exactλ{Ad} {AI} {v3}=>st<|js Zg.enc Ad.m<|it (bn λCz=>jw (xd Zc Cz)<|bn λ{y1} Cy=>jw (xp Zc Cz Cy)<|bn λD1=>jw (xd Zj.enc D1)<|bd Ze.enc<|br Yn9<|bn λ{y2} DJ=>jw (xp Zj.enc D1 DJ)<|jw (tq (Za.nm {Ad with buckets:=y2,splits:=y1}))<|je Ze.enc Ad.Ae.Ab<|je Zg.enc Ad.m<|jo (J0 Zj.enc DJ)<|jo (J0 Zc Cy)<|jw (Zf.so Ad.model)<|je Zt.enc Ad.log<|jw (Za.sc Za.z0)<|cx (Ay 1 21) 13 ih)<|it (jw (Za.sc {Ad with held:=(D3 Ad.Ae.Am (Zo Ad.held 1))})<|jw (Za.sc Za.z0)<|cx (Ay 1 21) 14 Z5d)<|jw (Za.sc Ad)<|jw (Za.sc Za.z0)<|cx (Ay 1 21) 14 Z5d
theorem Yk6 {x0 x1 r}:∀{m Ad AI v4 v5},ZE x0 x1 m Ad AI v4 v5=some r->CS (Lj x0 x1 r) Tryz.f49 [1,1,1,1,0,1,0] [(2,pt 1),(3,pt 10),(4,pt 11),(5,pt 20),(6,pt 21),(7,sq 22 (v4.map Zl.enc).length),(8,il v5)] (Za.bk Ad 2++[bx 1 (Za.rl Ad 2),bx 10 (Zb.enc x1)]++Za.bk Za.z0 12++[bx 11 (Za.rl Za.z0 12),bx 20 (Zq.enc Zq.z0),bx 21 (Zq.enc AI),rx 22 60 (v4.map Zl.enc)]):=by
 intro m
 induction m with
 | zero=>intro Ad AI v4 v5 h;cases h
 | succ m ih=>exactλ{Ad} {AI} {v4} {v5}=>st<|js Zl.enc v4<|it (bn λFz=>jw (xd Zl.enc Fz)<|js Zg.enc Ad.m<|br Ye<|it (jw (xd Zl.enc Fz)<|bn λLk=>jw (xd Zg.enc Lk)<|jw (xd Zl.enc Fz)<|br Yzh λ{r6}=>jw (xd Zl.enc Fz)<|bn λ{y3} G3=>jw (xq Zg.enc Lk y3)<|jk 1<|je Zk.enc r6.1.queue<|jo (KU Zg.enc G3)<|jn Zl.enc v4<|jw (tq (Za.nm {Ad with m:=y3}))<|je Ze.enc Ad.Ae.Ab<|jo (J0 Zg.enc G3)<|je Zj.enc Ad.buckets<|je Zc Ad.splits<|jw (Zf.so Ad.model)<|je Zt.enc Ad.log<|jw (Za.sc Za.z0)<|cx (Ay 1 22) 16 ih)<|jn Zl.enc v4<|jw (Za.sc Ad)<|jw (Za.sc Za.z0)<|cx (Ay 1 22) 14 ih)<|jw (Za.sc Ad)<|jw (Za.sc Za.z0)<|cx (Ay 1 21) 13 Yl5
theorem Yhm {x0 x1 r}  : ZF x0 x1=some r->Zr Tryz.prog Mo (Lj x0 x1 r):=
 fK Tryz.func49<|br Z6p λ{r7}=>jk 8<|jw (Za.so r7)<|br Yzn<|br Yzf λ{r9}=>jn Zl.enc r9<|jw (Za.sc r7)<|cx (fz 1 1 0++Za.ff 2 2 1024++fz 10 1 1024++fz 11 1 2048++fz 20 1 3072++fz 21 3 2048++fz 22 4 3072) 12 Yk6
abbrev Yhn (x0:Za) (x1:Zb) (r:Za×Zq):Y:=(167,[.agg (Za.enc x0),.agg (Zb.enc x1)],.AW [.agg (Za.ow r.1),.agg (Zq.enc r.2)],un 2)
theorem Z31 {x0 x1 r} {v0}:lS x0 x1 v0=some r->CS (Yhn x0 x1 r) Tryz.f167 [1,0,1] [(2,pt 1),(3,pt 2),(4,pt 3),(5,pt 12),(15,bl v0)] ([bx 1 (Za.enc x0),bx 2 (Zb.enc x1)]++Za.bk Za.z0 4++[bx 3 (Za.rl Za.z0 4),bx 12 (Zq.enc Zq.z0)]):=
 st<|it (br Z6p λ{r0}=>jk 8<|jw (Za.so r0)<|rt)<|br Yhm λ{r1}=>jk 8<|jw (Za.so r1.1)<|rt
theorem Yzg {x0 x1 r}  : lT x0 x1=some r->Zr Tryz.prog Mo (Yhn x0 x1 r):=
 fK Tryz.func167<|br zZ<|it (jk 3<|cx (fz 1 1 0++fz 2 1 1024++fz 3 1 2048++fz 12 1 3072) 5 Z31)<|jk 3<|cx (fz 1 1 0++fz 2 1 1024++fz 3 1 2048++fz 12 1 3072) 5 Z31
abbrev Yvs (x0:Int) (r:ByteArray):Y:=(220,[il x0],ss r,un 1)
theorem Yuu {x0 r}  : lU x0=some r->Zr Tryz.prog Mo (Yvs x0 r):=
 fK Tryz.func220<|it rt<|it rt<|it rt<|rt
abbrev Y2k (x0:Int) (r:ByteArray):Y:=(171,[il x0],ss r,un 1)
theorem Ua {x0 r}  : M3 x0=some r->Zr Tryz.prog Mo (Y2k x0 r):=
 fK Tryz.func171<|it rt<|br K6<|rt
abbrev Yc0 (x0:Zq) (r:ByteArray):Y:=(168,[.agg (Zq.enc x0)],ss r,un 1)
theorem Z2m {x0 r} {v0}:ZG x0 v0=some r->CS (Yc0 x0 r) Tryz.f168 [1,1,1] [(1,pt 1),(3,ss v0)] [bx 1 (Zq.enc x0)]:=
 st<|br zU<|jl<|jl<|bo Yi<|bo Yi<|br Ua<|jl<|bo Yi<|rt
theorem Yuf {x0 r}  : lV x0=some r->Zr Tryz.prog Mo (Yc0 x0 r):=
 fK Tryz.func168<|br K6<|jl<|bo Yi<|br Yuu<|jl<|jl<|bo Yi<|bo Yi<|br Ua<|jl<|jl<|bo Yi<|bo Yi<|br Ua<|jl<|jl<|bo Yi<|bo Yi<|br Ua<|jl<|jl<|bo Yi<|bo Yi<|br Ua<|jl<|jl<|bo Yi<|bo Yi<|it (jl<|bo Yi<|cx (fz 1 1 0) 9 Z2m)<|jl<|bo Yi<|cx (fz 1 1 0) 9 Z2m
abbrev Ygb (x0:Za) (r:Bool):Y:=(47,[.agg (Za.enc x0)],bl r,un 1)
theorem Ykb {x0 r}:∀{m v0},lW x0 m v0=some r->CS (Ygb x0 r) Tryz.f47 [1,0,1,0] [(1,pt 1),(3,il v0)] [bx 1 (Za.enc x0)]:=by
 intro m
 induction m with
 | zero=>intro v0 h;cases h
 | succ m ih=>exact st<|js Zg.enc x0.m<|it (bb Zg.enc λ{a0}=>js Zk.enc a0.queue<|it rt<|cx (Ay 1 1) 14 ih)<|rt
theorem Yz1 {x0 r}  : lX x0=some r->Zr Tryz.prog Mo (Ygb x0 r):=
 fK Tryz.func47<|cx (fz 1 1 0) 6 Ykb
abbrev Yea (x0:Zb) (r:Int):Y:=(48,[.agg (Zb.enc x0)],il r,un 1)
theorem Yib {x0 r}:∀{m v0 v1},lY x0 m v0 v1=some r->CS (Yea x0 r) Tryz.f48 [1,1,0,1,0] [(1,pt 1),(3,il v0),(4,il v1)] [bx 1 (Zb.enc x0)]:=by
 intro m
 induction m with
 | zero=>intro v0 v1 h;cases h
 | succ m ih=>exact st<|js Zl.enc x0.Al<|it (bb Zl.enc<|cx (Ay 1 1) 11 ih)<|rt
theorem Ys5 {x0 r}  : lZ x0=some r->Zr Tryz.prog Mo (Yea x0 r):=
 fK Tryz.func48<|cx (fz 1 1 0) 8 Yib
abbrev qI (x0:Za) (x1:Zb) (r:Za×Int):Y:=(17,[.agg (Za.enc x0),.agg (Zb.enc x1)],.AW [.agg (Za.ow r.1),il r.2],un 2)
theorem Zxa {x0 x1 r} {AM:Za->Int->Option (Za×Int)} (By:∀{Ad v0},AM Ad v0=some r->CS (qI x0 x1 r) Tryz.f17 [1,1,1,1,0,0] [(3,pt 1),(4,pt 2),(6,pt 11),(7,il v0)] ([bx 1 (Zb.enc x1)]++Za.bk Za.z0 3++[bx 2 (Za.rl Za.z0 3)]++Za.bk Ad 12++[bx 11 (Za.rl Ad 12)])) {Ad v0 v1}:Ty x0 x1 AM Ad v0 v1=some r->CS (qI x0 x1 r) Tryz.f17 [1,1,1,1,0,0,0,0,1] [(3,pt 1),(4,pt 2),(6,pt 11),(7,il v0),(28,bl v1)] ([bx 1 (Zb.enc x1)]++Za.bk Za.z0 3++[bx 2 (Za.rl Za.z0 3)]++Za.bk Ad 12++[bx 11 (Za.rl Ad 12)]):=
 st<|it (jk 8<|jw (Za.so Ad)<|br Yhm λ{r0}=>jw (Za.sc Za.z0)<|jw (Za.sc r0.1)<|cx (Ay 1 11++Za.ff 12 2 2048) 7 By)<|jk 8<|jw (Za.so Ad)<|rt
theorem Ynu {x0 x1 r}:∀{m Ad v0},Rj x0 x1 m Ad v0=some r->CS (qI x0 x1 r) Tryz.f17 [1,1,1,1,0,0] [(3,pt 1),(4,pt 2),(6,pt 11),(7,il v0)] ([bx 1 (Zb.enc x1)]++Za.bk Za.z0 3++[bx 2 (Za.rl Za.z0 3)]++Za.bk Ad 12++[bx 11 (Za.rl Ad 12)]):=by
 intro m
 induction m with
 | zero=>intro Ad v0 h;cases h
 | succ m ih=>exactλ{Ad} {v0}=>st<|it (jk 9<|jw (Za.so Ad)<|br Yz1<|jk 2<|it (jk 7<|jw (Za.sc Za.z0)<|jw (Za.sc Ad)<|cx (Ay 1 19) 4 (Zxa ih))<|jk 3<|br Ys5<|jk 4<|jw (Za.sc Za.z0)<|jw (Za.sc Ad)<|cx (Ay 1 19) 4 (Zxa ih))<|jk 5<|jw (Za.sc Za.z0)<|jw (Za.sc Ad)<|cx (Ay 1 19) 4 (Zxa ih)
theorem Y1v {x0 x1 r}  : l5 x0 x1=some r->Zr Tryz.prog Mo (qI x0 x1 r):=
 fK Tryz.func17<|br Z6p λ{r3}=>br zZ<|it (jk 8<|jw (Za.so r3)<|rt)<|jw (Za.sc r3)<|cx (fz 1 1 1024++fz 2 1 2048++fz 11 2 2048++Za.ff 12 2 1024) 13 Ynu
abbrev Yhd (x0:Za) (r:Bool):Y:=(169,[.agg (Za.enc x0)],bl r,un 1)
theorem Ykv {x0 r}:∀{m v0},l6 x0 m v0=some r->CS (Yhd x0 r) Tryz.f169 [1,0,1,0] [(1,pt 1),(3,il v0)] [bx 1 (Za.enc x0)]:=by
 intro m
 induction m with
 | zero=>intro v0 h;cases h
 | succ m ih=>exact st<|js Zg.enc x0.m<|it (bb Zg.enc λ{a0}=>js Zk.enc a0.queue<|it rt<|cx (Ay 1 1) 14 ih)<|br zZ<|rt
theorem Yyb {x0 r}  : l7 x0=some r->Zr Tryz.prog Mo (Yhd x0 r):=
 fK Tryz.func169<|cx (fz 1 1 0) 6 Ykv
abbrev qJ (x0:List Zt) (r:Zf×Int):Y:=(170,[.tr (x0.map Zt.enc)],.AW [.agg (Zf.ow r.1),il r.2],un 1)
theorem Z7p {x0 r} {AM:Zf->Int->Option (Zf×Int)} (By:∀{Ad v0},AM Ad v0=some r->CS (qJ x0 r) Tryz.f170 [1,1,0,1,0] [(0,.tr (x0.map Zt.enc)),(2,pt 1),(4,pt 5),(5,il v0)] (Zf.bk Zf.z0 2++[bx 1 (Zf.rl Zf.z0 2)]++Zf.bk Ad 6++[bx 5 (Zf.rl Ad 6)])) {Ad A2 v0 v1}:l8 x0 AM Ad A2 v0 v1=some r->CS (qJ x0 r) Tryz.f170 [1,1,0,1,0,0,1,0,0,1,1,0,1] [(0,.tr (x0.map Zt.enc)),(2,pt 1),(4,pt 5),(5,il v0),(6,pt 9),(63,bl v1)] (Zf.bk Zf.z0 2++[bx 1 (Zf.rl Zf.z0 2)]++Zf.bk Ad 6++[bx 5 (Zf.rl Ad 6)]++Zf.bk A2 10++[bx 9 (Zf.rl A2 10)]):=
 st<|it (jk 3<|jw (Zf.so Ad)<|rt)<|jw (Zf.sc Zf.z0)<|jw (Zf.sc A2)<|cx (Ay 1 5++fz 6 1 10++fz 7 1 11++fz 8 1 12) 5 By
theorem Yo3 {x0 r}:∀{m Ad v0},ZI x0 m Ad v0=some r->CS (qJ x0 r) Tryz.f170 [1,1,0,1,0] [(0,.tr (x0.map Zt.enc)),(2,pt 1),(4,pt 5),(5,il v0)] (Zf.bk Zf.z0 2++[bx 1 (Zf.rl Zf.z0 2)]++Zf.bk Ad 6++[bx 5 (Zf.rl Ad 6)]):=by
 intro m
 induction m with
 | zero=>intro Ad v0 h;cases h
 | succ m ih=>exactλ{Ad} {v0}=>st<|js Zt.enc x0<|it (bn λQe=>jb Zt.enc Qe<|it (jw (Zf.sc Zf.z0)<|jw (Zf.sc Ad)<|cx (Ay 1 8) 16 ih)<|jb Zt.enc Qe<|jb Zt.enc Qe<|jb Zt.enc Qe<|jb Zt.enc Qe<|jk 3<|jw (Zf.so Ad)<|br Z6j λ{r0}=>jb Zt.enc Qe<|it (jk 7<|jw (Zf.sc Zf.z0)<|jw (Zf.sc Ad)<|jw (Zf.sc r0.1)<|cx (Ay 1 8++fz 9 4 26624++Zf.ff 10 4 21504) 18 (Z7p ih))<|jk 3<|jb Zt.enc Qe<|jk 4<|jw (Zf.sc Zf.z0)<|jw (Zf.sc Ad)<|jw (Zf.sc r0.1)<|cx (Ay 1 8++fz 9 4 26624++Zf.ff 10 4 21504) 18 (Z7p ih))<|jk 3<|jw (Zf.so Ad)<|rt
theorem Y2a {x0 r}  : l9 x0=some r->Zr Tryz.prog Mo (qJ x0 r):=
 fK Tryz.func170<|br Ybt λ{r1}=>jw (Zf.sc r1)<|cx (fz 1 1 0++fz 5 2 1024++Zf.ff 6 2 0) 8 Yo3
abbrev Yd7 (x0:Zt) (r:ByteArray):Y:=(172,[.agg (Zt.enc x0)],ss r,un 1)
theorem Z19 {x0 r} {v0}:ZJ x0 v0=some r->CS (Yd7 x0 r) Tryz.f172 [1,1,1] [(1,pt 1),(3,ss v0)] [bx 1 (Zt.enc x0)]:=
 st<|br K6<|jl<|bo Yi<|br K6<|jl<|jl<|jl<|bo Yi<|bo Yi<|bo Yi<|br K6<|jl<|jl<|bo Yi<|bo Yi<|br K6<|jl<|jl<|bo Yi<|bo Yi<|br zU<|jl<|bo Yi<|rt
theorem Ytp {x0 r}  : mA x0=some r->Zr Tryz.prog Mo (Yd7 x0 r):=
 fK Tryz.func172<|it (cx (fz 1 1 0) 9 Z19)<|cx (fz 1 1 0) 9 Z19
abbrev Y19 (x0:Zx) (x1:ByteArray) (r:Zx×ByteArray):Y:=(106,[.agg (Zx.ow x0),ss x1],.AW [.agg (Zx.ow r.1),ss r.2],un 2)
theorem Y15 {x0 x1 r}  : mB x0 x1=some r->Zr Tryz.prog Mo (Y19 x0 x1 r):=
 fK Tryz.func106<|it (jk 1<|je Ze.enc x0.c.Ab<|br Y3x λ{r0}=>it (jk 12<|jw (Zx.so x0)<|rt)<|jk 12<|je Ze.enc x0.c.Ab<|jw (Zb.so x0.s)<|jw (Za.so r0.1)<|rt)<|it (jk 1<|je Ze.enc x0.c.Ab<|br Yci<|it (jk 12<|jw (Zx.so x0)<|rt)<|jk 12<|jw (Zx.so x0)<|rt)<|jk 1<|jo (show 5=([(Zd [115,116,101,112]),(Zd [111,117,116]),(Zd [108,111,103]),(Zd [105,100,108,101]),(Zd [111,107])].map Zp).length from rfl)<|br zM<|it (jk 12<|jw (Zx.so x0)<|rt)<|it (jk 12<|jw (Zx.so x0)<|rt)<|it (jk 11<|jw (Za.so x0.b)<|jw (Zb.so x0.s)<|br Yzg λ{r3}=>it (jk 12<|jw (Zx.so x0)<|rt)<|br Yuf<|jk 12<|je Ze.enc x0.c.Ab<|jw (Zb.so x0.s)<|jw (Za.so r3.1)<|rt)<|it (jk 11<|jw (Za.so x0.b)<|jw (Zb.so x0.s)<|br Y1v λ{r5}=>br K6<|jk 12<|je Ze.enc x0.c.Ab<|jw (Zb.so x0.s)<|jw (Za.so r5.1)<|rt)<|it (jk 8<|jw (Za.so x0.b)<|br Yyb<|it (jk 12<|jw (Zx.so x0)<|rt)<|jk 12<|jw (Zx.so x0)<|rt)<|it (jk 1<|je Zt.enc x0.b.log<|br Y2a<|br Ua<|jk 12<|jw (Zx.so x0)<|rt)<|js Zt.enc x0.b.log<|it (jk 12<|jw (Zx.so x0)<|rt)<|js Zt.enc x0.b.log<|bd Zt.enc<|br Ytp<|jl<|bo Yi<|js Zt.enc x0.b.log<|br K6<|jl<|jk 12<|bo Yi<|jw (Zx.so x0)<|rt
abbrev Ox (x0:ByteArray) (r:Int×Bool):Y:=(39,[ss x0],.AW [il r.1,bl r.2],un 1)
theorem Z4f {x0 r} {AM:Int->Int->Int->Option (Int×Bool)} (By:∀{v0 v1 v2},AM v0 v1 v2=some r->CS (Ox x0 r) Tryz.f39 [1,1,1,0,1,0] [(0,ss x0),(4,il v0),(5,il v1),(6,il v2)] []) {v0 v1 v2 v3}:ZK x0 AM v0 v1 v2 v3=some r->CS (Ox x0 r) Tryz.f39 [1,1,1,0,1,0,0,1,0,0,1] [(0,ss x0),(4,il v0),(5,il v1),(6,il v2),(26,bl v3)] []:=
 st<|it (bn λ{a0} Qe=>jp (.val (.lit (.int .u8 a0)))<|jo (Mu Qe)<|cx [] 6 By)<|cx [] 4 By
theorem Z40 {x0 r} {v0 v1}:Rk x0 v0 v1=some r->CS (Ox x0 r) Tryz.f39 [1,1,1,1,1] [(0,ss x0),(4,il v0),(5,il v1)] []:=
 st<|it (jk 9<|rt)<|jk 3<|it (jk 5<|rt)<|jk 1<|br K6<|jk 3<|it rt<|rt
theorem Z4t {x0 r} {v0 v1 v4}:Wj x0 v0 v1 v4=some r->CS (Ox x0 r) Tryz.f39 [1,1,1,1,0,1] [(0,ss x0),(4,il v0),(5,il v1),(44,bl v4)] []:=
 st<|it (cx [] 2 Z40)<|cx [] 2 Z40
theorem Z4q {x0 r} {AM:Int->Int->Int->Option (Int×Bool)} (By:∀{v0 v1 v2},AM v0 v1 v2=some r->CS (Ox x0 r) Tryz.f39 [1,1,1,0,1,0] [(0,ss x0),(4,il v0),(5,il v1),(6,il v2)] []) {v0 v1 v2 v5}:Tz x0 AM v0 v1 v2 v5=some r->CS (Ox x0 r) Tryz.f39 [1,1,1,0,1,0,0,0,1] [(0,ss x0),(4,il v0),(5,il v1),(6,il v2),(14,bl v5)] []:=
 st<|it (bn λ{a1} Cz=>jp (.val (.lit (.int .u8 a1)))<|jo (Mu Cz)<|it (jk 2<|jp (.val (.lit (.int .u8 a1)))<|jk 2<|jo (Mu Cz)<|cx [] 6 (Z4f By))<|jk 4<|cx [] 6 (Z4f By))<|it (jk 1<|bn λ{a2} D1=>jp (.val (.lit (.int .u8 a2)))<|jk 2<|jo (Mu D1)<|cx [] 8 Z4t)<|jk 3<|cx [] 8 Z4t
theorem Yl4 {x0 r}:∀{m v0 v1 v2},mD x0 m v0 v1 v2=some r->CS (Ox x0 r) Tryz.f39 [1,1,1,0,1,0] [(0,ss x0),(4,il v0),(5,il v1),(6,il v2)] []:=by
 intro m
 induction m with
 | zero=>intro v0 v1 v2 h;cases h
 | succ m ih=>exact st<|it (jk 2<|cx [] 4 (Z4q ih))<|jk 2<|cx [] 4 (Z4q ih)
theorem Oy {x0 r}  : Jr x0=some r->Zr Tryz.prog Mo (Ox x0 r):=
 fK Tryz.func39<|cx [] 10 Yl4
abbrev qK (x0:ByteArray) (r:Zh×Bool):Y:=(15,[ss x0],.AW [.agg [.own 83 (r.1.Ab.map Ze.enc),il r.1.Av,il r.1.As,il r.1.An,il r.1.Ap,il r.1.Am],bl r.2],un 1)
theorem Z2u {x0 r} {AM:Zh->(List ByteArray)->Int->Option (Zh×Bool)} (By:∀{Ad v0 v1},AM Ad v0 v1=some r->CS (qK x0 r) Tryz.f15 [1,1,1,1,1,1,1,1,1,0,1,0] [(0,ss x0),(2,pt 1),(4,.tr (v0.map Zp)),(5,pt 3),(6,il v1)] [rx 2 83 ([].map Ze.enc),bx 1 [sq 2 ([].map Ze.enc).length,il 0,il 0,il 0,il 0,il 0],rx 4 83 (Ad.Ab.map Ze.enc),bx 3 [sq 4 (Ad.Ab.map Ze.enc).length,il Ad.Av,il Ad.As,il Ad.An,il Ad.Ap,il Ad.Am]]) {Ad A2 v0 v1}:Rl x0 AM Ad A2 v0 v1=some r->CS (qK x0 r) Tryz.f15 [1,1,1,1,1,1,1,1,1,0,1,0,0,1,0,0,1,1,1,1] [(0,ss x0),(2,pt 1),(4,.tr (v0.map Zp)),(5,pt 3),(6,il v1),(8,pt 5)] [rx 2 83 ([].map Ze.enc),bx 1 [sq 2 ([].map Ze.enc).length,il 0,il 0,il 0,il 0,il 0],rx 4 83 (Ad.Ab.map Ze.enc),bx 3 [sq 4 (Ad.Ab.map Ze.enc).length,il Ad.Av,il Ad.As,il Ad.An,il Ad.Ap,il Ad.Am],bx 5 (Ze.enc A2)]:=
 st<|bn λ{z0} Xf=>jt Ze.enc [A2] z0<|jk 1<|ja 4 Ze.A8 A2<|jx Ze.enc Xf<|je Ze.enc z0<|jn Ze.enc []<|jn Ze.enc z0<|cx (Ay 1 3++fz 4 2 4096) 3 By
theorem Yi8 {x0 r}:∀{m Ad v0 v1},Jj x0 m Ad v0 v1=some r->CS (qK x0 r) Tryz.f15 [1,1,1,1,1,1,1,1,1,0,1,0] [(0,ss x0),(2,pt 1),(4,.tr (v0.map Zp)),(5,pt 3),(6,il v1)] [rx 2 83 ([].map Ze.enc),bx 1 [sq 2 ([].map Ze.enc).length,il 0,il 0,il 0,il 0,il 0],rx 4 83 (Ad.Ab.map Ze.enc),bx 3 [sq 4 (Ad.Ab.map Ze.enc).length,il Ad.Av,il Ad.As,il Ad.An,il Ad.Ap,il Ad.Am]]:=by
 intro m
 induction m with
 | zero=>intro Ad v0 v1 h;cases h
 | succ m ih=>exactλ{Ad} {v0} {v1}=>st<|js Zp v0<|it (bb Zp<|br RG λ{r0}=>bb Zp<|br Oy<|js Zp r0<|it (bb Zp<|br Oy<|bb Zp<|br Oy<|jn Ze.enc []<|jn Ze.enc Ad.Ab<|cx (Ay 1 4++fz 5 4 1024) 23 (Z2u ih))<|jn Ze.enc []<|jn Ze.enc Ad.Ab<|cx (Ay 1 4++fz 5 4 1024) 19 (Z2u ih))<|jk 1<|je Ze.enc Ad.Ab<|br Yci<|it (jk 3<|rt)<|jk 2<|it rt<|jk 1<|je Ze.enc Ad.Ab<|rt
theorem Ywh {x0 r}  : Od x0=some r->Zr Tryz.prog Mo (qK x0 r):=
 fK Tryz.func15<|br RG λ{r5}=>js Zp r5<|it rt<|bb Zp<|br Oy<|bb Zp<|br Oy<|bb Zp<|br Oy<|bb Zp<|br Oy<|bb Zp<|br Oy<|cx (fz 1 1 0++fz 3 4 1024) 25 Yi8
abbrev Ub (x0:ByteArray) (r:Int):Y:=(61,[ss x0],il r,un 1)
theorem Zzy {x0 r} {AM:ByteArray->Int->Int->Int->Option Int} (By:∀{v0 v1 v2 v3},AM v0 v1 v2 v3=some r->CS (Ub x0 r) Tryz.f61 [1,1,1,1,0,1,0] [(0,ss v0),(3,il v1),(4,il v2),(5,il v3)] []) {v0 v1 v2 v3 v4}:Oe x0 AM v0 v1 v2 v3 v4=some r->CS (Ub x0 r) Tryz.f61 [1,1,1,1,0,1,0,0,1,0,0,0,1] [(0,ss v0),(3,il v1),(4,il v2),(5,il v3),(36,bl v4)] []:=
 st<|it rt<|bn λ{a0} Qe=>jp (.val (.lit (.int .u8 a0)))<|jo (Mu Qe)<|cx [] 5 By
theorem Yrt {x0 r}:∀{m v0 v1 v2 v3},Of x0 m v0 v1 v2 v3=some r->CS (Ub x0 r) Tryz.f61 [1,1,1,1,0,1,0] [(0,ss v0),(3,il v1),(4,il v2),(5,il v3)] []:=by
 intro m
 induction m with
 | zero=>intro v0 v1 v2 v3 h;cases h
 | succ m ih=>exact st<|it (bn λ{a1} Cz=>jp (.val (.lit (.int .u8 a1)))<|jo (Mu Cz)<|it (jk 8<|cx [] 11 (Zzy ih))<|jk 2<|jp (.val (.lit (.int .u8 a1)))<|jk 2<|jo (Mu Cz)<|it (jk 3<|cx [] 11 (Zzy ih))<|jk 3<|cx [] 11 (Zzy ih))<|rt
theorem Yao {x0 r} {v0 v1}:Rm x0 v0 v1=some r->CS (Ub x0 r) Tryz.f61 [1,1,1] [(0,ss v0),(3,il v1)] []:=
 st<|cx [] 6 Yrt
theorem Ya1 {x0 r} {v5}:M4 x0 v5=some r->CS (Ub x0 r) Tryz.f61 [1,1,0,1] [(0,ss x0),(3,il 1),(13,bl v5)] []:=
 st<|it (bn λ{s0} Qu=>jp (.val (.lit (.string s0)))<|jo (Mv Qu)<|cx [] 4 Yao)<|cx [] 2 Yao
theorem Yc4 {x0 r}  : Og x0=some r->Zr Tryz.prog Mo (Ub x0 r):=
 fK Tryz.func61<|it (jk 1<|bn λ{a2} D1=>jp (.val (.lit (.int .u8 a2)))<|jk 2<|jo (Mu D1)<|cx [] 7 Ya1)<|jk 3<|cx [] 7 Ya1
abbrev Yhg (x0:List ByteArray) (r:List Int):Y:=(24,[.tr (x0.map Zp)],.own 3 (r.map Zc),un 1)
end Go.Proofs.YthdljdelfgofdaaGreatDoor.Ev
