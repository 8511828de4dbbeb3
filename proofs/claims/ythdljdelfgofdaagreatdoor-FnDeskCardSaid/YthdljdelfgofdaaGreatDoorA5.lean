/- A part of the proof of FnDesk: see the text YthdljdelfgofdaaGreatDoorLawFnDesk for what is proved and its conditions. Conditions here: those in each line. -/
import Derived.Test.YthdljdelfgofdaaGreatDoorA4
set_option linter.unusedSimpArgs false
set_option linter.unusedVariables false
set_option linter.unusedSectionVars false
namespace Go.Proofs.YthdljdelfgofdaaGreatDoor.Ev
open Go Go.Proofs
variable [Anchor] [BG]
abbrev Yiq (x0:ByteArray) (x1:Int) (r:List ByteArray):Y:=(23,[ss x0,iu x1],.own 9 (r.map Zp),un 2)
theorem Ytl {x0 x1 r}:∀{m v0 v1 v2},ZP x0 x1 m v0 v1 v2=some r->CS (Yiq x0 x1 r) Tryz.f23 [1,1,1,0,1,0] [(0,ss x0),(1,iu x1),(5,sq 1 (v0.map Zp).length),(6,il v1),(7,il v2)] [rx 1 9 (v0.map Zp)]:=by
 intro m
 induction m with
 | zero=>intro v0 v1 v2 h;cases h
 | succ m ih=>exactλ{v0} {v1} {v2}=>st<|it (bn λ{a0} W9=>jp (.val (.lit (.int .u8 a0)))<|jo (Ic W9)<|it (bn λ{s0} Qr=>jp (.val (.lit (.string s0)))<|bn λ{z0} Xe=>jt Zp [s0] z0<|jk 1<|jo (ssx Qr)<|ja 1 Q8 s0<|jx Zp Xe<|jn Zp z0<|je Zp z0<|cx (fz 1 4 6144) 16 ih)<|jn Zp v0<|cx (A1 1 1) 14 ih)<|bn λ{s1} Ch=>jp (.val (.lit (.string s1)))<|bn λ{z1} DX=>jt Zp [s1] z1<|jk 2<|jo (MK Ch)<|ja 1 Q8 s1<|jx Zp DX<|je Zp z1<|je Zp z1<|rt
theorem Y2l {x0 x1 r}  : W0 x0 x1=some r->Zq Tryz.prog Mo (Yiq x0 x1 r):=
 fK Tryz.func23<|jp (.num ([].map Zp).length 0 0 [])<|jo (show 0=([].map Zp).length from rfl)<|cx (fz 1 2 0) 10 Ytl
abbrev Y87 (x0:ByteArray) (x1:Int) (r:List ByteArray):Y:=(23,[ss x0,iu x1],.tr (r.map Zp),un 2)
theorem Sq {x0:ByteArray} {x1:Int} {r:List ByteArray} (h:W0 x0 x1=some r):Zq Tryz.prog Mo (Y87 x0 x1 r):=Xc8 (by kernel_rfl) (Y2l h)
abbrev Xcz (x0:Int) (x1:Int) (x2:Int) (r:Bool):Y:=(78,[il x0,il x1,il x2],bl r,un 3)
theorem Yk {x0 x1 x2 r}  : Z4 x0 x1 x2=some r->Zq Tryz.prog Mo (Xcz x0 x1 x2 r):=
 fK Tryz.func78<|it (jk 3<|rt)<|jk 3<|rt
abbrev Yns (x0:Zg) (r:Int):Y:=(130,[.agg (Zg.enc x0)],il r,un 1)
theorem Z9c {x0 r} {v0}:lE x0 v0=some r->CS (Yns x0 r) Tryz.f130 [1,0,1] [(1,pt 1),(12,bl v0)] [bx 1 (Zg.enc x0)]:=
 st<|it rt<|rt
theorem Ya7 {x0 r}  : R2 x0=some r->Zq Tryz.prog Mo (Yns x0 r):=
 fK Tryz.func130<|br Yk<|it (jk 4<|cx (fz 1 1 0) 5 Z9c)<|jk 2<|br Yk<|jk 2<|cx (fz 1 1 0) 5 Z9c
abbrev Y5j (x0:Zg) (r:Int):Y:=(79,[.agg (Zg.enc x0)],il r,un 1)
theorem Ybc {x0 r}  : MM x0=some r->Zq Tryz.prog Mo (Y5j x0 r):=
 fK Tryz.func79<|br Ya7<|it (jk 5<|rt)<|jk 2<|br Yk<|jk 2<|it rt<|br Ya7<|rt
abbrev Yxc (x0:Zg) (r:Bool):Y:=(80,[.agg (Zg.enc x0)],bl r,un 1)
theorem Ywp {x0 r}  : lF x0=some r->Zq Tryz.prog Mo (Yxc x0 r):=
 fK Tryz.func80<|br Yk<|it (jk 1<|br Ya7<|jk 2<|it (jk 2<|br Yk<|jk 1<|it (jk 2<|br Yk<|jk 1<|rt)<|jk 3<|rt)<|jk 7<|rt)<|jk 11<|rt
abbrev Ybn (x0:Zg) (r:Bool):Y:=(41,[.agg (Zg.enc x0)],bl r,un 1)
theorem Yqb {x0 r}:∀{m v0 v1},Oz x0 m v0 v1=some r->CS (Ybn x0 r) Tryz.f41 [1,1,1,0,1,0] [(1,pt 1),(3,il v0),(5,il v1)] [bx 1 (Zg.enc x0)]:=by
 intro m
 induction m with
 | zero=>intro v0 v1 h;cases h
 | succ m ih=>exact st<|js Zd.enc x0.Ab<|it (bb Zd.enc<|br Yk<|it (jk 11<|rt)<|jk 3<|it (jk 3<|it (jk 13<|rt)<|jk 7<|it (jk 5<|rt)<|jk 2<|it (jk 5<|br Ybc<|jk 2<|br Yk<|jk 2<|it (jk 9<|rt)<|jk 2<|br Yk<|jk 6<|it rt<|cx (A1 1 1) 16 ih)<|jk 14<|cx (A1 1 1) 16 ih)<|jk 10<|it (jk 5<|br Ybc<|jk 2<|br Yk<|jk 2<|it (jk 9<|rt)<|jk 2<|br Yk<|jk 6<|it rt<|cx (A1 1 1) 16 ih)<|jk 14<|cx (A1 1 1) 16 ih)<|js Zd.enc x0.Ab<|br Yk<|it (jk 1<|br Ywp<|jk 1<|rt)<|jk 2<|rt
theorem Yqq {x0 r}:∀{m v0 v2},lG x0 m v0 v2=some r->CS (Ybn x0 r) Tryz.f41 [1,1,0,1,0] [(1,pt 1),(3,il v0),(4,il v2)] [bx 1 (Zg.enc x0)]:=by
 intro m
 induction m with
 | zero=>intro v0 v2 h;cases h
 | succ m ih=>exact st<|js Zd.enc x0.Ab<|it (bb Zd.enc<|it (cx (A1 1 1) 14 ih)<|cx (A1 1 1) 14 ih)<|cx (A1 1 1) 13 Yqb
theorem UI {x0 r}  : MN x0=some r->Zq Tryz.prog Mo (Ybn x0 r):=
 fK Tryz.func41<|cx (fz 1 1 0) 8 Yqq
abbrev Y5k (x0:Zg) (r:Zg):Y:=(42,[.agg (Zg.enc x0)],.agg [.own 83 (r.Ab.map Zd.enc),il r.Av,il r.As,il r.An,il r.Ap,il r.Al],un 1)
theorem Ymn {x0 r}  : ZQ x0=some r->Zq Tryz.prog Mo (Y5k x0 r):=
 fK Tryz.func42<|bn λ{z0} Xe=>jt Zd.enc x0.Ab z0<|jk 1<|jw (ol 4 Zd.A9 Zd.Cd x0.Ab)<|jo (FI Zd.enc Xe)<|jo (Hd Zd.enc Xe)<|je Zd.enc z0<|je Zd.enc z0<|rt
abbrev Y45  (r:Zn):Y:=(81,[],.agg (Zn.ow r),[])
theorem Y5z {r}  : Yar  = some r->Zq Tryz.prog Mo (Y45  r):=
 fK Tryz.func81<|bn λ{m0} Dy=>jp (.mk (4:Int).toNat (m0.map Zc))<|jk 1<|jo (Lx Dy)<|jo (Lx Dy)<|jo (ZM Dy)<|jo (ZN Zc Dy)<|je Zc m0<|rt
abbrev Yx1  (r:Zf):Y:=(43,[],.agg (Zf.ow r),[])
theorem Yfm {r}  : ZR  = some r->Zq Tryz.prog Mo (Yx1  r):=
 fK Tryz.func43<|bn λ{m0} Dy=>jp (.mk (192:Int).toNat (m0.map Zc))<|jo (Lx Dy)<|jo (Lx Dy)<|jo (ZM Dy)<|jo (ZN Zc Dy)<|br Y5z λ{r0}=>jk 3<|je Zc m0<|jw (Zn.so r0)<|rt
abbrev Ytn (x0:Zd) (r:Zk):Y:=(44,[.agg (Zd.enc x0)],.agg (Zk.enc r),un 1)
theorem Ytt {x0 r}  : lH x0=some r->Zq Tryz.prog Mo (Ytn x0 r):=
 fK Tryz.func44<|it rt<|rt
abbrev Ym0 (x0:Zg) (r:Za×Bool):Y:=(16,[.agg (Zg.enc x0)],.AX [.agg (Za.ow r.1),bl r.2],un 1)
theorem Yrb {x0 r}:∀{m Ad v0},lJ x0 m Ad v0=some r->CS (Ym0 x0 r) Tryz.f16 [1,1,1,0,1,0] [(1,pt 1),(2,pt 2),(4,pt 11),(5,il v0)] ([bx 1 (Zg.enc x0)]++Za.bk Za.z0 3++[bx 2 (Za.rl Za.z0 3)]++Za.bk Ad 12++[bx 11 (Za.rl Ad 12)]):=by
 intro m
 induction m with
 | zero=>intro Ad v0 h;cases h
 | succ m ih=>exactλ{Ad} {v0}=>st<|js Zd.enc x0.Ab<|it (bn λ{z0} Xe=>jt Zh.enc [Zh.z0] z0<|jk 1<|ja 6 Zh.A9 Zh.z0<|jx Zh.enc Xe<|je Zh.enc z0<|bb Zd.enc<|br Ytt λ{r0}=>bn λ{z1} DX=>jt Zk.enc [r0] z1<|jk 1<|bn λ{z2} OS=>jt Zc [0] z2<|jk 1<|ja 2 Zk.A9 r0<|jx Zk.enc DX<|je Zk.enc z1<|ja 1 Jo 0<|jx Zc OS<|je Zc z2<|jw (Za.sc Za.z0)<|jw (Za.sc {Ad with m:=z0,buckets:=z1,splits:=z2})<|cx (A1 1 12++fz 13 3 4096++fz 14 4 9216++fz 15 5 3072++A1 16 4) 15 ih)<|jk 8<|jw (Za.so Ad)<|rt
theorem Y4v {x0 r}  : lK x0=some r->Zq Tryz.prog Mo (Ym0 x0 r):=
 fK Tryz.func16<|br UI<|it rt<|br Ymn λ{r2}=>br Yfm λ{r3}=>jn Zd.enc r2.Ab<|jp (.num (r3.mem.map Zc).length 0 0 [])<|jp (.num (r3.dev.AD.map Zc).length 0 0 [])<|jp (.num (r3.dev.A2.map Zc).length 0 0 [])<|jw (Zf.so r3)<|cx (fz 1 1 0++fz 2 1 1024++fz 11 3 4096++fz 12 3 1024++fz 16 3 2048++fz 17 3 2049++fz 18 3 2051) 13 Yrb
abbrev sJ (x0:Int) (r:ByteArray):Y:=(13,[il x0],ss r,un 1)
theorem Yic {x0 r} {A4:Int->ByteArray->Option ByteArray} (AW:∀{v0 v1},A4 v0 v1=some r->CS (sJ x0 r) Tryz.f13 [1,1,1,1,0,0] [(0,il v0),(3,ss v1),(4,bl (decide (x0 < 0)))] []) {v0 v1 v2}:ZS x0 A4 v0 v1 v2=some r->CS (sJ x0 r) Tryz.f13 [1,1,1,1,0,0,0,1,0,1,1] [(0,il v0),(3,ss v1),(4,bl (decide (x0 < 0))),(5,il v2)] []:=
 st<|jk 1<|jp (.val (.lit (.string (JM [(w8 (Zl 48 v2))]))))<|jl<|jk 1<|jo (show 1=([(w8 (Zl 48 v2))].map CC).length from rfl)<|jo (stx [(w8 (Zl 48 v2))])<|bo Yd<|cx [] 4 AW
theorem Y2m {x0 r}:∀{m v0 v1},TO x0 m v0 v1=some r->CS (sJ x0 r) Tryz.f13 [1,1,1,1,0,0] [(0,il v0),(3,ss v1),(4,bl (decide (x0 < 0)))] []:=by
 intro m
 induction m with
 | zero=>intro v0 v1 h;cases h
 | succ m ih=>exact st<|it (jk 1<|it (cx [] 14 (Yic ih))<|cx [] 14 (Yic ih))<|it (jl<|bo Yd<|rt)<|rt
theorem Ks {x0 r}  : Qs x0=some r->Zq Tryz.prog Mo (sJ x0 r):=
 fK Tryz.func13<|it rt<|cx [] 13 Y2m
abbrev Yfc (x0:Zg) (r:ByteArray):Y:=(40,[.agg (Zg.enc x0)],ss r,un 1)
theorem Yld {x0 r}:∀{m v0 v1},ZT x0 m v0 v1=some r->CS (Yfc x0 r) Tryz.f40 [1,1,1,0,1,0] [(1,pt 1),(3,ss v0),(4,il v1)] [bx 1 (Zg.enc x0)]:=by
 intro m
 induction m with
 | zero=>intro v0 v1 h;cases h
 | succ m ih=>exact st<|js Zd.enc x0.Ab<|it (bb Zd.enc<|jl<|bo Yd<|br Ks<|jl<|bo Yd<|it (jl<|bo Yd<|br Ks<|jl<|jl<|bo Yd<|bo Yd<|br Ks<|jl<|bo Yd<|cx (A1 1 1) 18 ih)<|cx (A1 1 1) 18 ih)<|rt
theorem Z49 {x0 r}  : R3 x0=some r->Zq Tryz.prog Mo (Yfc x0 r):=
 fK Tryz.func40<|br UI<|it rt<|br Ks<|jl<|bo Yd<|br Ks<|jl<|jl<|bo Yd<|bo Yd<|br Ks<|jl<|jl<|bo Yd<|bo Yd<|br Ks<|jl<|jl<|bo Yd<|bo Yd<|br Ks<|jl<|bo Yd<|cx (fz 1 1 0) 13 Yld
abbrev Ymf (x0:List ByteArray) (x1:ByteArray) (r:Int):Y:=(62,[.tr (x0.map Zp),ss x1],il r,un 2)
theorem Yq2 {x0 x1 r}:∀{m v0},O1 x0 x1 m v0=some r->CS (Ymf x0 x1 r) Tryz.f62 [1,0,1,0] [(0,.tr (x0.map Zp)),(1,ss x1),(5,il v0)] []:=by
 intro m
 induction m with
 | zero=>intro v0 h;cases h
 | succ m ih=>exact st<|js Zp x0<|it (bb Zp<|it rt<|cx [] 14 ih)<|rt
theorem Yac {x0 x1 r}  : Ly x0 x1=some r->Zq Tryz.prog Mo (Ymf x0 x1 r):=
 fK Tryz.func62<|cx [] 6 Yq2
abbrev Yof (x0:Zg) (x1:Int) (r:Int):Y:=(133,[.agg (Zg.enc x0),il x1],il r,un 2)
theorem Z9w {x0 x1 r} {v0}:lL x0 x1 v0=some r->CS (Yof x0 x1 r) Tryz.f133 [1,0,1] [(1,il x1),(2,pt 1),(16,bl v0)] [bx 1 (Zg.enc x0)]:=
 st<|it rt<|bb Zd.enc<|rt
theorem Yb2 {x0 x1 r}  : R4 x0 x1=some r->Zq Tryz.prog Mo (Yof x0 x1 r):=
 fK Tryz.func133<|br UI<|it (jk 7<|cx (fz 1 1 0) 5 Z9w)<|jk 3<|js Zd.enc x0.Ab<|jk 2<|br Yk<|jk 2<|cx (fz 1 1 0) 5 Z9w
abbrev Y8r (x0:Yg) (x1:Zg) (r:Bool):Y:=(84,[.agg (Yg.enc x0),.agg (Zg.enc x1)],bl r,un 2)
theorem Ydv {x0 x1 r}  : TP x0 x1=some r->Zq Tryz.prog Mo (Y8r x0 x1 r):=
 fK Tryz.func84<|br UI<|it (jk 4<|js Zd.enc x1.Ab<|jk 2<|br Yk<|jk 1<|it (jk 5<|br Yb2<|jk 1<|br Yk<|jk 1<|rt)<|jk 7<|rt)<|jk 15<|rt
abbrev Yi1 (x0:List Int) (r:Bool):Y:=(134,[.tr (x0.map Zc)],bl r,un 1)
theorem Yma {x0 r}:∀{m v0},lM x0 m v0=some r->CS (Yi1 x0 r) Tryz.f134 [1,0,1,0] [(0,.tr (x0.map Zc)),(3,il v0)] []:=by
 intro m
 induction m with
 | zero=>intro v0 h;cases h
 | succ m ih=>exact st<|js Zc x0<|it (bb Zc<|br Yk<|it rt<|cx [] 14 ih)<|js Zc x0<|rt
theorem Yjw {x0 r}  : ZU x0=some r->Zq Tryz.prog Mo (Yi1 x0 r):=
 fK Tryz.func134<|cx [] 6 Yma
abbrev Y1u (x0:Int) (r:Int):Y:=(110,[il x0],il r,un 1)
theorem Nh {x0 r}  : H8 x0=some r->Zq Tryz.prog Mo (Y1u x0 r):=
 fK Tryz.func110<|br Yk<|it rt<|jl<|bo TM<|rt
abbrev Y0a (x0:Int) (r:Int):Y:=(113,[il x0],il r,un 1)
theorem JS {x0 r}  : Qn x0=some r->Zq Tryz.prog Mo (Y0a x0 r):=
 fK Tryz.func113<|br Nh<|it rt<|br Nh<|jl<|bo TM<|rt
abbrev Yie (x0:List Int) (r:Bool):Y:=(187,[.tr (x0.map Zc)],bl r,un 1)
theorem Ylt {x0 r}:∀{m v0},lN x0 m v0=some r->CS (Yie x0 r) Tryz.f187 [1,0,1,0] [(0,.tr (x0.map Zc)),(3,il v0)] []:=by
 intro m
 induction m with
 | zero=>intro v0 h;cases h
 | succ m ih=>exact st<|js Zc x0<|it (bb Zc<|br JS<|br Yk<|it rt<|cx [] 14 ih)<|rt
theorem Yih {x0 r}  : ZV x0=some r->Zq Tryz.prog Mo (Yie x0 r):=
 fK Tryz.func187<|cx [] 6 Ylt
abbrev Y8t (x0:Zn) (r:Bool):Y:=(135,[.agg (Zn.enc x0)],bl r,un 1)
theorem Yro {x0 r}  : ZW x0=some r->Zq Tryz.prog Mo (Y8t x0 r):=
 fK Tryz.func135<|js Zc x0.AD<|it (jk 2<|br Yih<|jk 1<|it (jk 2<|br JS<|jk 2<|br Yk<|jk 1<|it (jk 2<|js Zc x0.A2<|jk 2<|it (jk 2<|br Yih<|jk 1<|rt)<|jk 3<|rt)<|jk 8<|rt)<|jk 14<|rt)<|jk 18<|rt
abbrev Y0b (x0:Zf) (r:Bool):Y:=(85,[.agg (Zf.enc x0)],bl r,un 1)
theorem Yi5 {x0 r}  : ZX x0=some r->Zq Tryz.prog Mo (Y0b x0 r):=
 fK Tryz.func85<|js Zc x0.mem<|it (jk 2<|br Yjw<|jk 1<|it (jk 2<|br Yro<|jk 1<|rt)<|jk 3<|rt)<|jk 7<|rt
abbrev Y07 (x0:Int) (r:Int):Y:=(112,[il x0],il r,un 1)
theorem Sr {x0 r}  : JO x0=some r->Zq Tryz.prog Mo (Y07 x0 r):=
 fK Tryz.func112<|br Yk<|it rt<|bd Zc<|rt
abbrev Y2u (x0:Int) (x1:Int) (r:Bool):Y:=(138,[il x0,il x1],bl r,un 2)
theorem dO {x0 x1 r}  : Lz x0 x1=some r->Zq Tryz.prog Mo (Y2u x0 x1 r):=
 fK Tryz.func138<|br Nh<|it (jk 2<|it (jk 2<|br Nh<|jk 1<|jl<|jk 2<|bo H7<|rt)<|jk 5<|rt)<|jk 8<|rt
abbrev Z33 (x0:Int) (x1:Int) (x2:Int) (r:Int):Y:=(221,[il x0,il x1,il x2],il r,un 3)
theorem Z44 {x0 x1 x2 r} {v0 v1}:lO x0 x1 x2 v0 v1=some r->CS (Z33 x0 x1 x2 r) Tryz.f221 [1,1,1,0,1] [(0,il x0),(7,il v0),(34,bl v1)] []:=
 st<|it rt<|rt
theorem Zu4 {x0 x1 x2 r} {v0 v2}:ZY x0 x1 x2 v0 v2=some r->CS (Z33 x0 x1 x2 r) Tryz.f221 [1,1,0,1] [(0,il x0),(2,il x2),(7,il v0),(23,bl v2)] []:=
 st<|it rt<|it (jk 5<|jl<|jk 2<|bo H7<|cx [] 5 Z44)<|jk 7<|cx [] 5 Z44
theorem Yd3 {x0 x1 x2 r}  : ZZ x0 x1 x2=some r->Zq Tryz.prog Mo (Z33 x0 x1 x2 r):=
 fK Tryz.func221<|br Nh<|br dO<|it (jk 7<|cx [] 7 Zu4)<|jk 1<|br Yk<|jk 2<|it (jk 3<|cx [] 7 Zu4)<|jk 1<|br Sr<|jk 2<|cx [] 7 Zu4
abbrev sK (x0:Int) (x1:Int) (x2:Int) (r:List Int):Y:=(173,[il x0,il x1,il x2],.own 3 (r.map Zc),un 3)
theorem Z0h {x0 x1 x2 r} {A4:Int->(List Int)->Option (List Int)} (AW:∀{v0 v1},A4 v0 v1=some r->CS (sK x0 x1 x2 r) Tryz.f173 [1,1,0,0] [(0,il v0),(1,il x1),(2,il x2),(7,sq 1 (v1.map Zc).length)] [rx 1 3 (v1.map Zc)]) {v0 v1 v2}:aA x0 x1 x2 A4 v0 v1 v2=some r->CS (sK x0 x1 x2 r) Tryz.f173 [1,1,0,0,0,0,1] [(0,il v0),(1,il x1),(2,il x2),(7,sq 1 (v1.map Zc).length),(20,bl v2)] [rx 1 3 (v1.map Zc)]:=
 st<|it (bn λ{z0} Xe=>jt Zc [v0] z0<|jk 1<|ja 1 Jo v0<|jx Zc Xe<|je Zc z0<|br Yd3<|jn Zc z0<|cx (fz 1 2 3072) 7 AW)<|js Zc v1<|br Sr<|it (jk 1<|jo (show 0=([].map Zc).length from rfl)<|rt)<|jk 1<|je Zc v1<|rt
theorem Yd5 {x0 x1 x2 r}:∀{m v0 v1},lP x0 x1 x2 m v0 v1=some r->CS (sK x0 x1 x2 r) Tryz.f173 [1,1,0,0] [(0,il v0),(1,il x1),(2,il x2),(7,sq 1 (v1.map Zc).length)] [rx 1 3 (v1.map Zc)]:=by
 intro m
 induction m with
 | zero=>intro v0 v1 h;cases h
 | succ m ih=>exactλ{v0} {v1}=>st<|js Zc v1<|br Sr<|it (jk 3<|br Yd3<|jk 2<|jn Zc v1<|cx (A1 1 1) 4 (Z0h ih))<|jk 5<|jn Zc v1<|cx (A1 1 1) 4 (Z0h ih)
theorem Z9x {x0 x1 x2 r}  : aC x0 x1 x2=some r->Zq Tryz.prog Mo (sK x0 x1 x2 r):=
 fK Tryz.func173<|jp (.num ([].map Zc).length 0 0 [])<|jo (show 0=([].map Zc).length from rfl)<|cx (fz 1 2 0) 6 Yd5
abbrev Yif (x0:Int) (x1:Int) (x2:Int) (r:Bool):Y:=(111,[il x0,il x1,il x2],bl r,un 3)
theorem Ynk {x0 x1 x2 r}:∀{m v0 v1},lQ x0 x1 x2 m v0 v1=some r->CS (Yif x0 x1 x2 r) Tryz.f111 [1,1,0,1,0] [(7,sq 1 (v0.map Zc).length),(8,il v1)] [rx 1 3 (v0.map Zc)]:=by
 intro m
 induction m with
 | zero=>intro v0 v1 h;cases h
 | succ m ih=>exactλ{v0} {v1}=>st<|js Zc v0<|it (bd Zc<|jk 1<|bd Zc<|jk 1<|it rt<|jn Zc v0<|cx (A1 1 1) 14 ih)<|js Zc v0<|rt
theorem Yjq {x0 x1 x2 r}  : aD x0 x1 x2=some r->Zq Tryz.prog Mo (Yif x0 x1 x2 r):=
 fK Tryz.func111<|br Z9x λ{r0}=>jn Zc r0<|cx (fz 1 2 3072) 8 Ynk
abbrev Ysj (x0:Zj) (r:Bool):Y:=(108,[.agg (Zj.enc x0)],bl r,un 1)
theorem Yum {x0 r}:∀{m v0},lR x0 m v0=some r->CS (Ysj x0 r) Tryz.f108 [1,1,0,1,0] [(1,pt 1),(3,il v0)] [bx 1 (Zj.enc x0)]:=by
 intro m
 induction m with
 | zero=>intro v0 h;cases h
 | succ m ih=>exact st<|js Zc x0.Aa<|it (bb Zc<|br JS<|br Yk<|it rt<|cx (A1 1 1) 14 ih)<|js Zc x0.Aa<|it (jk 3<|it (jk 9<|rt)<|jk 2<|js Zc x0.Aa<|jk 3<|br Sr<|jk 2<|it (jk 4<|rt)<|jk 4<|rt)<|jk 6<|js Zc x0.Aa<|jk 3<|br Sr<|jk 2<|it (jk 4<|rt)<|jk 4<|rt
theorem Yes {x0 r}  : TQ x0=some r->Zq Tryz.prog Mo (Ysj x0 r):=
 fK Tryz.func108<|br Yjq<|it rt<|cx (fz 1 1 0) 11 Yum
abbrev Yxi (x0:Zh) (r:Int):Y:=(188,[.agg (Zh.enc x0)],il r,un 1)
theorem dP {x0 r}  : O2 x0=some r->Zq Tryz.prog Mo (Yxi x0 r):=
 fK Tryz.func188<|js Zj.enc x0.queue<|it rt<|bb Zj.enc<|br Sr<|rt
abbrev Z3l (x0:Zh) (r:Bool):Y:=(136,[.agg (Zh.enc x0)],bl r,un 1)
theorem Z3y {x0 r} {v0}:R5 x0 v0=some r->CS (Z3l x0 r) Tryz.f136 [1,1,0,1] [(1,pt 1),(26,bl v0)] [bx 1 (Zh.enc x0)]:=
 st<|it rt<|js Zj.enc x0.queue<|it (it (jk 3<|it (jk 3<|it (jk 3<|it (jk 3<|rt)<|jk 3<|rt)<|jk 7<|rt)<|jk 11<|rt)<|jk 15<|rt)<|br dP<|br Yk<|it (jk 8<|br dP<|jk 2<|br Yk<|jk 1<|rt)<|jk 11<|rt
theorem Ykq {x0 r}:∀{m v1},lS x0 m v1=some r->CS (Z3l x0 r) Tryz.f136 [1,0,1,0] [(1,pt 1),(3,il v1)] [bx 1 (Zh.enc x0)]:=by
 intro m
 induction m with
 | zero=>intro v1 h;cases h
 | succ m ih=>exact st<|js Zj.enc x0.queue<|it (bb Zj.enc<|br Yes<|it rt<|cx (A1 1 1) 14 ih)<|js Zj.enc x0.queue<|it (jk 3<|cx (A1 1 1) 12 Z3y)<|jk 3<|cx (A1 1 1) 12 Z3y
theorem UJ {x0 r}  : MO x0=some r->Zq Tryz.prog Mo (Z3l x0 r):=
 fK Tryz.func136<|cx (fz 1 1 0) 6 Ykq
abbrev Y75 (x0:Zh) (x1:Zg) (r:Bool):Y:=(86,[.agg (Zh.enc x0),.agg (Zg.enc x1)],bl r,un 2)
theorem Y81 {x0 x1 r}  : Yfb x0 x1=some r->Zq Tryz.prog Mo (Y75 x0 x1 r):=
 fK Tryz.func86<|br UI<|it (jk 1<|br UJ<|jk 1<|it (jk 5<|rt)<|jk 5<|rt)<|jk 8<|rt
abbrev Yxm (x0:Zk) (x1:Zd) (r:Bool):Y:=(87,[.agg (Zk.enc x0),.agg (Zd.enc x1)],bl r,un 2)
theorem sL {x0 x1 r}  : R6 x0 x1=some r->Zq Tryz.prog Mo (Yxm x0 x1 r):=
 fK Tryz.func87<|it rt<|br Yk<|it (jk 5<|br Yk<|jk 1<|rt)<|jk 6<|rt
abbrev Z8a (x0:Za) (x1:Int) (r:Int):Y:=(88,[.agg (Za.enc x0),il x1],il r,un 2)
theorem Z7g {x0 x1 r} {v0}:lT x0 x1 v0=some r->CS (Z8a x0 x1 r) Tryz.f88 [1,1,1] [(1,il x1),(2,pt 1),(5,il v0)] [bx 1 (Za.enc x0)]:=
 st<|it (jk 5<|it rt<|rt)<|jk 6<|rt
theorem Z7f {x0 x1 r} {v1}:lU x0 x1 v1=some r->CS (Z8a x0 x1 r) Tryz.f88 [1,1,0,1] [(1,il x1),(2,pt 1),(5,il 0),(15,bl v1)] [bx 1 (Za.enc x0)]:=
 st<|it (cx (A1 1 1) 2 Z7g)<|cx (A1 1 1) 2 Z7g
theorem Y1c {x0 x1 r}  : lV x0 x1=some r->Zq Tryz.prog Mo (Z8a x0 x1 r):=
 fK Tryz.func88<|it (jk 5<|cx (fz 1 1 0) 7 Z7f)<|jk 5<|cx (fz 1 1 0) 7 Z7f
abbrev Yxs (x0:Int) (r:ByteArray):Y:=(137,[il x0],ss r,un 1)
theorem Z3o {x0 r}  : MP x0=some r->Zq Tryz.prog Mo (Yxs x0 r):=
 fK Tryz.func137<|br Yk<|it rt<|bd Zp<|rt
abbrev Z7y (x0:Za) (x1:Zi) (x2:Bool) (r:Bool):Y:=(89,[.agg (Za.enc x0),.agg (Zi.enc x1),bl x2],bl r,un 3)
theorem W7 {x0 x1 x2 r} {Ad v0}:Yn x0 x1 x2 Ad v0=some r->CS (Z7y x0 x1 x2 r) Tryz.f89 [1,1,1,1,1,0,1] [(3,pt 1),(4,pt 2),(7,pt 3),(101,bl v0)] [bx 1 (Za.enc x0),bx 2 (Zi.enc x1),bx 3 (Zh.enc Ad)]:=
 st<|it rt<|it (jk 6<|br Yk<|jk 1<|it (jk 2<|br Z3o<|jk 2<|it (jk 3<|it (jk 7<|rt)<|jk 3<|it (jk 7<|rt)<|jk 7<|rt)<|jk 5<|rt)<|jk 10<|rt)<|jk 18<|rt
theorem Zw6 {x0 x1 x2 r} {v1}:K6 x0 x1 x2 v1=some r->CS (Z7y x0 x1 x2 r) Tryz.f89 [1,1,0,1] [(2,bl x2),(3,pt 1),(4,pt 2),(36,bl v1)] [bx 1 (Za.enc x0),bx 2 (Zi.enc x1)]:=
 st<|it rt<|bb Zh.enc<|it (it (jk 3<|it (jk 3<|it (jk 3<|rt)<|jk 3<|rt)<|jk 7<|rt)<|jk 11<|rt)<|it (jk 6<|it (jk 10<|cx (A1 1 2++fz 3 2 6144) 12 W7)<|jk 3<|it (jk 2<|it (jk 14<|cx (A1 1 2++fz 3 2 6144) 12 W7)<|jk 9<|it (jk 4<|cx (A1 1 2++fz 3 2 6144) 12 W7)<|jk 2<|it (jk 5<|cx (A1 1 2++fz 3 2 6144) 12 W7)<|jk 5<|cx (A1 1 2++fz 3 2 6144) 12 W7)<|jk 9<|it (jk 5<|cx (A1 1 2++fz 3 2 6144) 12 W7)<|jk 5<|cx (A1 1 2++fz 3 2 6144) 12 W7)<|jk 10<|it (jk 2<|it (jk 14<|cx (A1 1 2++fz 3 2 6144) 12 W7)<|jk 9<|it (jk 4<|cx (A1 1 2++fz 3 2 6144) 12 W7)<|jk 2<|it (jk 5<|cx (A1 1 2++fz 3 2 6144) 12 W7)<|jk 5<|cx (A1 1 2++fz 3 2 6144) 12 W7)<|jk 9<|it (jk 5<|cx (A1 1 2++fz 3 2 6144) 12 W7)<|jk 5<|cx (A1 1 2++fz 3 2 6144) 12 W7
theorem Yib {x0 x1 x2 r}  : MQ x0 x1 x2=some r->Zq Tryz.prog Mo (Z7y x0 x1 x2 r):=
 fK Tryz.func89<|it rt<|js Zh.enc x0.m<|br Yk<|it (jk 12<|cx (fz 1 1 0++fz 2 1 1024) 10 Zw6)<|jk 2<|br Yk<|jk 2<|it (jk 7<|cx (fz 1 1 0++fz 2 1 1024) 10 Zw6)<|jk 4<|bb Zc<|jk 3<|cx (fz 1 1 0++fz 2 1 1024) 10 Zw6
abbrev Z8b (x0:Za) (r:Bool):Y:=(90,[.agg (Za.enc x0)],bl r,un 1)
theorem Z58 {x0 r} {v0}:R7 x0 v0=some r->CS (Z8b x0 r) Tryz.f90 [1,1,1,0,1] [(1,pt 1),(67,bl v0)] [bx 1 (Za.enc x0)]:=
 st<|it rt<|bb Zh.enc λ{a0}=>js Zj.enc a0.queue<|it (jk 2<|bb Zj.enc<|jk 3<|it (jk 3<|it (jk 4<|bb Zc<|jk 3<|rt)<|jk 7<|rt)<|jk 11<|rt)<|jk 17<|rt
theorem Yom {x0 r}:∀{m v1},Zvs x0 m v1=some r->CS (Z8b x0 r) Tryz.f90 [1,0,1,0] [(1,pt 1),(3,il v1)] [bx 1 (Za.enc x0)]:=by
 intro m
 induction m with
 | zero=>intro v1 h;cases h
 | succ m ih=>exact st<|js Zh.enc x0.m<|it (bn λUK=>jb Zh.enc UK<|it (jk 3<|jb Zh.enc UK<|jk 3<|bb Zj.enc<|jk 3<|it (jk 3<|jb Zh.enc UK<|jk 4<|it (jk 4<|it rt<|cx (A1 1 1) 14 ih)<|jk 5<|cx (A1 1 1) 14 ih)<|jk 13<|cx (A1 1 1) 14 ih)<|jk 23<|cx (A1 1 1) 14 ih)<|it rt<|js Zh.enc x0.m<|br Yk<|it (jk 7<|cx (A1 1 1) 17 Z58)<|jk 5<|br Yk<|jk 2<|cx (A1 1 1) 17 Z58
theorem Y0m {x0 r}  : aE x0=some r->Zq Tryz.prog Mo (Z8b x0 r):=
 fK Tryz.func90<|cx (fz 1 1 0) 6 Yom
abbrev Ynd (x0:Za) (r:Bool):Y:=(91,[.agg (Za.enc x0)],bl r,un 1)
theorem Yp4 {x0 r}:∀{m v0},lY x0 m v0=some r->CS (Ynd x0 r) Tryz.f91 [1,0,1,0] [(1,pt 1),(3,il v0)] [bx 1 (Za.enc x0)]:=by
 intro m
 induction m with
 | zero=>intro v0 h;cases h
 | succ m ih=>exact st<|js Zt.enc x0.log<|it (bb Zt.enc<|br Yk<|it (jk 40<|rt)<|jk 2<|it (jk 6<|bb Zt.enc<|jk 6<|it (jk 35<|rt)<|jk 4<|js Zh.enc x0.m<|jk 2<|br Yk<|jk 2<|it (jk 26<|rt)<|jk 4<|br dO<|jk 2<|it (jk 19<|rt)<|jk 2<|br Yk<|jk 2<|it (jk 14<|rt)<|jk 4<|br JS<|jk 2<|br Yk<|jk 2<|it (jk 5<|rt)<|jk 2<|br Yk<|jk 2<|it rt<|cx (A1 1 1) 16 ih)<|jk 17<|js Zh.enc x0.m<|jk 2<|br Yk<|jk 2<|it (jk 26<|rt)<|jk 4<|br dO<|jk 2<|it (jk 19<|rt)<|jk 2<|br Yk<|jk 2<|it (jk 14<|rt)<|jk 4<|br JS<|jk 2<|br Yk<|jk 2<|it (jk 5<|rt)<|jk 2<|br Yk<|jk 2<|it rt<|cx (A1 1 1) 16 ih)<|rt
theorem Y7e {x0 r}  : aF x0=some r->Zq Tryz.prog Mo (Ynd x0 r):=
 fK Tryz.func91<|cx (fz 1 1 0) 6 Yp4
abbrev Yf7 (x0:Za) (r:Bool):Y:=(46,[.agg (Za.enc x0)],bl r,un 1)
theorem Yuf {x0 r}:∀{m v0},l5 x0 m v0=some r->CS (Yf7 x0 r) Tryz.f46 [1,1,1,0,1,0] [(1,pt 1),(3,il (x0.Ae.Ab.length:Int)),(4,il v0)] [bx 1 (Za.enc x0)]:=by
 intro m
 induction m with
 | zero=>intro v0 h;cases h
 | succ m ih=>exact st<|it (bn λW9=>jb Zh.enc W9<|br Y81<|it (jk 43<|rt)<|jk 3<|bb Zk.enc<|jk 6<|bb Zd.enc<|jk 2<|br sL<|jk 2<|it (jk 29<|rt)<|jk 3<|bb Zc<|jk 5<|br Yk<|jk 2<|it (jk 18<|rt)<|jk 3<|jb Zh.enc W9<|jk 6<|jb Zh.enc W9<|jk 6<|br Y1c<|jk 2<|it rt<|cx (A1 1 1) 14 ih)<|br Yib<|it (jk 3<|br Yib<|jk 1<|it (jk 1<|br Y0m<|jk 1<|it (jk 1<|br Y7e<|jk 1<|rt)<|jk 2<|rt)<|jk 5<|rt)<|jk 10<|rt
theorem LB {x0 r} {v1}:Qv x0 v1=some r->CS (Yf7 x0 r) Tryz.f46 [1,1,0,1] [(1,pt 1),(3,il (x0.Ae.Ab.length:Int)),(73,bl v1)] [bx 1 (Za.enc x0)]:=
 st<|it rt<|cx (A1 1 1) 6 Yuf
theorem Ye2 {x0 r}  : L0 x0=some r->Zq Tryz.prog Mo (Yf7 x0 r):=
 fK Tryz.func46<|js Zd.enc x0.Ae.Ab<|br UI<|it (jk 51<|cx (fz 1 1 0) 7 LB)<|jk 2<|br Yk<|jk 2<|it (jk 46<|cx (fz 1 1 0) 7 LB)<|jk 2<|js Zh.enc x0.m<|jk 3<|it (jk 40<|cx (fz 1 1 0) 7 LB)<|jk 2<|js Zk.enc x0.buckets<|jk 3<|it (jk 34<|cx (fz 1 1 0) 7 LB)<|jk 2<|js Zc x0.splits<|jk 3<|it (jk 28<|cx (fz 1 1 0) 7 LB)<|jk 4<|br Ydv<|jk 2<|it (jk 21<|cx (fz 1 1 0) 7 LB)<|jk 4<|br Yk<|jk 2<|it (jk 14<|cx (fz 1 1 0) 7 LB)<|jk 2<|br Yi5<|jk 2<|it (jk 9<|cx (fz 1 1 0) 7 LB)<|jk 3<|it (jk 5<|cx (fz 1 1 0) 7 LB)<|jk 5<|cx (fz 1 1 0) 7 LB
abbrev Y5d (x0:Zj) (r:Zj):Y:=(131,[.agg (Zj.enc x0)],.agg [bl r.write,il r.addr,il r.size,il r.Az,bl r.lock,.own 3 (r.Aa.map Zc)],un 1)
theorem Ybo {x0 r}  : R8 x0=some r->Zq Tryz.prog Mo (Y5d x0 r):=
 fK Tryz.func131<|bn λ{z0} Xe=>jt Zc x0.Aa z0<|jk 1<|jw (ol 1 Jo R1 x0.Aa)<|jo (FI Zc Xe)<|jo (Hd Zc Xe)<|je Zc z0<|je Zc z0<|rt
abbrev Yij (x0:Zh) (r:Zh):Y:=(82,[.agg (Zh.enc x0)],.agg [.own 41 (r.queue.map Zj.enc),il r.Ao,il r.done,il r.tries,bl r.Ay,bl r.broken],un 1)
theorem Yo0 {x0 r}:∀{m v0 v1},l6 x0 m v0 v1=some r->CS (Yij x0 r) Tryz.f82 [1,1,0,1,0] [(1,pt 1),(2,pt 2),(3,sq 4 (v0.map Zj.enc).length),(4,il v1)] [bx 1 (Zh.enc x0),rx 3 41 ([].map Zj.enc),bx 2 [sq 3 ([].map Zj.enc).length,il 0,il 0,il 0,bl false,bl false],rx 4 41 (v0.map Zj.enc)]:=by
 intro m
 induction m with
 | zero=>intro v0 v1 h;cases h
 | succ m ih=>exactλ{v0} {v1}=>st<|js Zj.enc x0.queue<|it (bb Zj.enc<|br Ybo λ{r0}=>jk 1<|bn λ{z0} Xe=>jt Zj.enc [r0] z0<|jk 1<|je Zc r0.Aa<|ja 6 Zj.A9 r0<|jx Zj.enc Xe<|jn Zj.enc z0<|je Zj.enc z0<|jn Zj.enc []<|cx (A1 1 3++fz 4 3 8192) 11 ih)<|jk 1<|je Zj.enc v0<|rt
theorem dQ {x0 r}  : O3 x0=some r->Zq Tryz.prog Mo (Yij x0 r):=
 fK Tryz.func82<|jp (.num ([].map Zj.enc).length 0 0 [])<|jo (show 0=([].map Zj.enc).length from rfl)<|cx (fz 1 1 0++fz 2 1 1024++fz 4 2 0) 8 Yo0
abbrev Y7f (x0:Zn) (r:Zn):Y:=(132,[.agg (Zn.enc x0)],.agg (Zn.ow r),un 1)
theorem Ynf {x0 r}  : aG x0=some r->Zq Tryz.prog Mo (Y7f x0 r):=
 fK Tryz.func132<|bn λ{z0} Xe=>jt Zc x0.AD z0<|bn λ{z1} DX=>jt Zc x0.A2 z1<|jk 2<|jw (ol 1 Jo R1 x0.AD)<|jo (FI Zc Xe)<|jo (Hd Zc Xe)<|je Zc z0<|jw (ol 1 Jo R1 x0.A2)<|jo (FI Zc DX)<|jo (Hd Zc DX)<|je Zc z1<|je Zc z0<|je Zc z1<|rt
abbrev Y6f (x0:Zf) (r:Zf):Y:=(83,[.agg (Zf.enc x0)],.agg (Zf.ow r),un 1)
theorem Ynv {x0 r}  : aH x0=some r->Zq Tryz.prog Mo (Y6f x0 r):=
 fK Tryz.func83<|bn λ{z0} Xe=>jt Zc x0.mem z0<|jw (ol 1 Jo R1 x0.mem)<|jo (FI Zc Xe)<|jo (Hd Zc Xe)<|je Zc z0<|br Ynf λ{r0}=>jk 3<|je Zc z0<|jw (Zn.so r0)<|rt
abbrev Yiy (x0:Za) (r:Za):Y:=(45,[.agg (Za.enc x0)],.agg (Za.ow r),un 1)
theorem Yn0 {x0 r}:∀{m Ad v0},aI x0 m Ad v0=some r->CS (Yiy x0 r) Tryz.f45 [1,1,1,1,0,1,0] [(1,pt 1),(2,pt 2),(3,pt 11),(4,il v0)] ([bx 1 (Za.enc x0)]++Za.bk Za.z0 3++[bx 2 (Za.rl Za.z0 3),rx 12 83 (Ad.Ae.Ab.map Zd.enc),rx 13 90 (Ad.m.map Zh.enc),bx 11 [sq 12 (Ad.Ae.Ab.map Zd.enc).length,il Ad.Ae.Av,il Ad.Ae.As,il Ad.Ae.An,il Ad.Ae.Ap,il Ad.Ae.Al,il Ad.now,sq 13 (Ad.m.map Zh.enc).length,il Ad.Bo.at_,il Ad.Bo.Bd,.tr (Ad.buckets.map Zk.enc),.tr (Ad.splits.map Zc),il Ad.Af,il Ad.held,il Ad.last,bl Ad.addr.live,il Ad.addr.Aj,il Ad.addr.Ao,bl Ad.addr.first,il Ad.addr.B5,il Ad.addr.left,il Ad.addr.Ar,bl Ad.addr.second,bl Ad.Aa.live,il Ad.Aa.Aj,il Ad.Aa.Ao,bl Ad.Aa.first,il Ad.Aa.B5,il Ad.Aa.left,il Ad.Aa.Ar,bl Ad.Aa.second,.tr (Ad.model.mem.map Zc),.tr (Ad.model.dev.AD.map Zc),il Ad.model.dev.timer,.tr (Ad.model.dev.A2.map Zc),il Ad.Aw,.tr (Ad.log.map Zt.enc)]]):=by
 intro m
 induction m with
 | zero=>intro Ad v0 h;cases h
 | succ m ih=>exactλ{Ad} {v0}=>st<|js Zh.enc x0.m<|it (bb Zh.enc<|br dQ λ{r0}=>jk 1<|bn λ{z0} Xe=>jt Zh.enc [r0] z0<|jk 1<|je Zj.enc r0.queue<|ja 6 Zh.A9 r0<|jx Zh.enc Xe<|je Zh.enc z0<|jw (Za.sc Za.z0)<|jn Zd.enc Ad.Ae.Ab<|jn Zh.enc z0<|cx (A1 1 12++fz 13 4 4096) 13 ih)<|bn λ{z1} DX=>jt Zk.enc x0.buckets z1<|bn λ{z2} OS=>jt Zc x0.splits z2<|jw (ol 2 Zk.A9 Zk.Cd x0.buckets)<|jo (FI Zk.enc DX)<|jo (Hd Zk.enc DX)<|je Zk.enc z1<|jw (ol 1 Jo R1 x0.splits)<|jo (FI Zc OS)<|jo (Hd Zc OS)<|je Zc z2<|br Ynv λ{r1}=>bn λ{z3} hz3=>jt Zt.enc x0.log z3<|jk 8<|jw (ol 7 Zt.A9 Zt.Cd x0.log)<|jo (FI Zt.enc hz3)<|jo (Hd Zt.enc hz3)<|je Zt.enc z3<|je Zd.enc Ad.Ae.Ab<|je Zh.enc Ad.m<|je Zk.enc z1<|je Zc z2<|jw (Zf.so r1)<|je Zt.enc z3<|rt
theorem Z77 {x0 r}  : TR x0=some r->Zq Tryz.prog Mo (Yiy x0 r):=
 fK Tryz.func45<|br Ymn λ{r2}=>jn Zd.enc r2.Ab<|jp (.num ([].map Zh.enc).length 0 0 [])<|jo (show 0=([].map Zh.enc).length from rfl)<|cx (fz 1 1 0++fz 2 1 1024++fz 11 2 1024++fz 12 3 2048++fz 13 4 0) 12 Yn0
abbrev Yh8 (x0:Zh) (x1:Int) (r:Int):Y:=(139,[.agg (Zh.enc x0),il x1],il r,un 2)
theorem Z6g {x0 x1 r} {v0}:l8 x0 x1 v0=some r->CS (Yh8 x0 x1 r) Tryz.f139 [1,0,1] [(1,il x1),(2,pt 1),(16,bl v0)] [bx 1 (Zh.enc x0)]:=
 st<|it rt<|bb Zj.enc<|br Z9x<|bd Zc<|rt
theorem sM {x0 x1 r}  : R9 x0 x1=some r->Zq Tryz.prog Mo (Yh8 x0 x1 r):=
 fK Tryz.func139<|br UJ<|it (jk 6<|cx (fz 1 1 0) 5 Z6g)<|jk 2<|br dP<|jk 2<|br Yk<|jk 2<|cx (fz 1 1 0) 5 Z6g
abbrev Yje (x0:Za) (r:Zr):Y:=(92,[.agg (Za.enc x0)],.agg (Zr.enc r),un 1)
theorem Zw1 {x0 r} {Ad}:aJ x0 Ad=some r->CS (Yje x0 r) Tryz.f92 [1,1,1] [(1,pt 1),(2,pt 2),(3,pt 3)] [bx 1 (Za.enc x0),bx 2 (Zr.enc Zr.z0),bx 3 (Zr.enc Ad)]:=
 st<|it (bb Zh.enc<|br sM<|rt)<|rt
theorem Y2w {x0 r}  : l9 x0=some r->Zq Tryz.prog Mo (Yje x0 r):=
 fK Tryz.func92<|it (bb Zh.enc<|br sM<|it (cx (fz 1 1 0++fz 2 1 1024++fz 3 2 3072) 18 Zw1)<|cx (fz 1 1 0++fz 2 1 1024++fz 3 2 3072) 18 Zw1)<|cx (fz 1 1 0++fz 2 1 1024++fz 3 2 3072) 9 Zw1
abbrev Yi4 (x0:Zb) (x1:Int) (r:List Zm):Y:=(93,[.agg (Zb.enc x0),il x1],.own 60 (r.map Zm.enc),un 2)
theorem Yl5 {x0 x1 r}:∀{m v0 v1},mB x0 x1 m v0 v1=some r->CS (Yi4 x0 x1 r) Tryz.f93 [1,1,0,1,0] [(1,il x1),(2,pt 1),(5,sq 2 (v0.map Zm.enc).length),(6,il v1)] [bx 1 (Zb.enc x0),rx 2 60 (v0.map Zm.enc)]:=by
 intro m
 induction m with
 | zero=>intro v0 v1 h;cases h
 | succ m ih=>exactλ{v0} {v1}=>st<|js Zm.enc x0.Am<|it (bn λ{a0} W9=>jb Zm.enc W9<|it (jb Zm.enc W9<|br Ybo λ{r0}=>jk 1<|bn λ{z0} Xe=>jt Zm.enc [{a0 with Bq:=r0}] z0<|jk 1<|je Zc r0.Aa<|ja 8 Zm.A9 {a0 with Bq:=r0}<|jx Zm.enc Xe<|jn Zm.enc z0<|je Zm.enc z0<|cx (A1 1 1++fz 2 6 3072) 18 ih)<|jn Zm.enc v0<|cx (A1 1 2) 14 ih)<|jk 1<|je Zm.enc v0<|rt
theorem Y08 {x0 x1 r}  : mC x0 x1=some r->Zq Tryz.prog Mo (Yi4 x0 x1 r):=
 fK Tryz.func93<|jp (.num ([].map Zm.enc).length 0 0 [])<|jo (show 0=([].map Zm.enc).length from rfl)<|cx (fz 1 1 0++fz 2 2 0) 8 Yl5
abbrev Yjr (x0:Zh) (x1:Zj) (r:Zh×Bool):Y:=(94,[.agg (Zh.enc x0),.agg (Zj.enc x1)],.AX [.agg [.own 41 (r.1.queue.map Zj.enc),il r.1.Ao,il r.1.done,il r.1.tries,bl r.1.Ay,bl r.1.broken],bl r.2],un 2)
theorem Zwf {x0 x1 r} {Ad v0}:aK x0 x1 Ad v0=some r->CS (Yjr x0 x1 r) Tryz.f94 [1,1,0,1] [(3,pt 1),(4,pt 2),(6,pt 4),(22,bl v0)] [bx 1 (Zj.enc x1),rx 3 41 ([].map Zj.enc),bx 2 [sq 3 ([].map Zj.enc).length,il 0,il 0,il 0,bl false,bl false],rx 5 41 (Ad.queue.map Zj.enc),bx 4 [sq 5 (Ad.queue.map Zj.enc).length,il Ad.Ao,il Ad.done,il Ad.tries,bl Ad.Ay,bl Ad.broken]]:=
 st<|it (jk 1<|je Zj.enc Ad.queue<|rt)<|br Ybo λ{r0}=>jk 1<|bn λ{z0} Xe=>jt Zj.enc [r0] z0<|jk 2<|je Zc r0.Aa<|ja 6 Zj.A9 r0<|jx Zj.enc Xe<|je Zj.enc z0<|je Zj.enc z0<|rt
theorem Y0l {x0 x1 r}  : mD x0 x1=some r->Zq Tryz.prog Mo (Yjr x0 x1 r):=
 fK Tryz.func94<|br dQ λ{r1}=>br UJ<|it (jk 8<|jn Zj.enc r1.queue<|cx (fz 1 1 1024++fz 2 1 2048++fz 4 2 2048++fz 5 2 1024) 7 Zwf)<|jk 1<|br Yes<|jk 2<|it (jk 4<|jn Zj.enc r1.queue<|cx (fz 1 1 1024++fz 2 1 2048++fz 4 2 2048++fz 5 2 1024) 7 Zwf)<|jk 2<|js Zj.enc x0.queue<|jk 2<|jn Zj.enc r1.queue<|cx (fz 1 1 1024++fz 2 1 2048++fz 4 2 2048++fz 5 2 1024) 7 Zwf
abbrev Z9q (x0:Zk) (x1:Zd) (r:Zk):Y:=(95,[.agg (Zk.enc x0),.agg (Zd.enc x1)],.agg (Zk.enc r),un 2)
theorem Z0e {x0 x1 r} {v0}:mE x0 x1 v0=some r->CS (Z9q x0 x1 r) Tryz.f95 [1,0,1] [(2,pt 1),(3,pt 2),(4,pt 3),(13,bl v0)] [bx 1 (Zk.enc x0),bx 2 (Zd.enc x1),bx 3 (Zk.enc Zk.z0)]:=
 st<|it rt<|it rt<|rt
theorem Ypy {x0 x1 r}  : mF x0 x1=some r->Zq Tryz.prog Mo (Z9q x0 x1 r):=
 fK Tryz.func95<|it (jk 4<|cx (fz 1 1 0++fz 2 1 1024++fz 3 1 2048) 5 Z0e)<|jk 2<|br sL<|jk 2<|cx (fz 1 1 0++fz 2 1 1024++fz 3 1 2048) 5 Z0e
abbrev Yi9 (x0:Zh) (r:Zh×Bool):Y:=(140,[.agg (Zh.enc x0)],.AX [.agg [.own 41 (r.1.queue.map Zj.enc),il r.1.Ao,il r.1.done,il r.1.tries,bl r.1.Ay,bl r.1.broken],bl r.2],un 1)
theorem Z6q {x0 r} {Ad v0}:mG x0 Ad v0=some r->CS (Yi9 x0 r) Tryz.f140 [1,1,0,1] [(2,pt 1),(4,pt 3),(16,bl v0)] [rx 2 41 ([].map Zj.enc),bx 1 [sq 2 ([].map Zj.enc).length,il 0,il 0,il 0,bl false,bl false],rx 4 41 (Ad.queue.map Zj.enc),bx 3 [sq 4 (Ad.queue.map Zj.enc).length,il Ad.Ao,il Ad.done,il Ad.tries,bl Ad.Ay,bl Ad.broken]]:=
 st<|it (jk 1<|je Zj.enc Ad.queue<|rt)<|jk 1<|je Zj.enc Ad.queue<|rt
theorem Yz7 {x0 r}  : mH x0=some r->Zq Tryz.prog Mo (Yi9 x0 r):=
 fK Tryz.func140<|br dQ λ{r0}=>br UJ<|it (jk 5<|jn Zj.enc r0.queue<|cx (fz 1 1 1024++fz 3 2 2048++fz 4 2 1024) 7 Z6q)<|jk 5<|jn Zj.enc r0.queue<|cx (fz 1 1 1024++fz 3 2 2048++fz 4 2 1024) 7 Z6q
abbrev Z8y (x0:Zk) (x1:Zd) (r:Zk):Y:=(141,[.agg (Zk.enc x0),.agg (Zd.enc x1)],.agg (Zk.enc r),un 2)
theorem Zz8 {x0 x1 r} {v0}:mI x0 x1 v0=some r->CS (Z8y x0 x1 r) Tryz.f141 [1,0,1] [(2,pt 1),(3,pt 2),(4,pt 3),(11,bl v0)] [bx 1 (Zk.enc x0),bx 2 (Zd.enc x1),bx 3 (Zk.enc Zk.z0)]:=
 st<|it rt<|rt
theorem Ypp {x0 x1 r}  : mJ x0 x1=some r->Zq Tryz.prog Mo (Z8y x0 x1 r):=
 fK Tryz.func141<|it (jk 2<|br sL<|jk 1<|cx (fz 1 1 0++fz 2 1 1024++fz 3 1 2048) 5 Zz8)<|jk 3<|cx (fz 1 1 0++fz 2 1 1024++fz 3 1 2048) 5 Zz8
abbrev Yjo (x0:Yg) (x1:Zg) (x2:Int) (r:Yg):Y:=(142,[.agg (Yg.enc x0),.agg (Zg.enc x1),il x2],.agg (Yg.enc r),un 3)
theorem Z5l {x0 x1 x2 r} {v0}:mK x0 x1 x2 v0=some r->CS (Yjo x0 x1 x2 r) Tryz.f142 [1,0,1] [(2,il x2),(3,pt 1),(4,pt 2),(6,pt 3),(15,bl v0)] [bx 1 (Yg.enc x0),bx 2 (Zg.enc x1),bx 3 (Yg.enc Yg.z0)]:=
 st<|it (br Yb2<|rt)<|rt
theorem Y1h {x0 x1 x2 r}  : mL x0 x1 x2=some r->Zq Tryz.prog Mo (Yjo x0 x1 x2 r):=
 fK Tryz.func142<|br Ydv<|it (jk 4<|cx (fz 1 1 0++fz 2 1 1024++fz 3 1 2048) 5 Z5l)<|jk 4<|cx (fz 1 1 0++fz 2 1 1024++fz 3 1 2048) 5 Z5l
abbrev Y10 (x0:Za) (x1:Zi) (r:Za):Y:=(96,[.agg (Za.ow x0),.agg (Zi.enc x1)],.agg (Za.ow r),un 2)
theorem Z7p {x0 x1 r}  : TS x0 x1=some r->Zq Tryz.prog Mo (Y10 x0 x1 r):=
 fK Tryz.func96<|bn λW9=>jw (xd Zh.enc W9)<|br Yz7 λ{r0}=>bn λ{y0} Kk=>jw (xq Zh.enc W9 y0)<|jk 1<|je Zj.enc r0.1.queue<|jo (Ie Zh.enc Kk)<|it (bn λBU=>jw (xd Zk.enc BU)<|bd Zd.enc<|br Ypp<|bn λCp=>jw (xp Zk.enc BU Cp)<|jk 8<|je Zd.enc x0.Ae.Ab<|jo (Kc Zh.enc Kk)<|jo (Kc Zk.enc Cp)<|je Zc x0.splits<|jw (Zf.so x0.model)<|je Zt.enc x0.log<|rt)<|it (jk 1<|je Zd.enc x0.Ae.Ab<|br Y1h<|jk 8<|je Zd.enc x0.Ae.Ab<|jo (Kc Zh.enc Kk)<|je Zk.enc x0.buckets<|je Zc x0.splits<|jw (Zf.so x0.model)<|je Zt.enc x0.log<|rt)<|jk 8<|je Zd.enc x0.Ae.Ab<|jo (Kc Zh.enc Kk)<|je Zk.enc x0.buckets<|je Zc x0.splits<|jw (Zf.so x0.model)<|je Zt.enc x0.log<|rt
abbrev Yyd (x0:List Int) (x1:Int) (r:Int):Y:=(189,[.tr (x0.map Zc),il x1],il r,un 2)
theorem Yd8 {x0 x1 r} {v0}:Z3a x0 x1 v0=some r->CS (Yyd x0 x1 r) Tryz.f189 [1,0,1] [(0,.tr (x0.map Zc)),(1,il x1),(11,bl v0)] []:=
 st<|it rt<|js Zc x0<|jl<|bo H7<|bb Zc<|rt
theorem Ylh {x0 x1 r}  : aL x0 x1=some r->Zq Tryz.prog Mo (Yyd x0 x1 r):=
 fK Tryz.func189<|js Zc x0<|it (jk 2<|cx [] 5 Yd8)<|jk 2<|cx [] 5 Yd8
abbrev Y1w (x0:Zg) (x1:Zb) (x2:Int) (r:Int):Y:=(143,[.agg (Zg.enc x0),.agg (Zb.enc x1),il x2],il r,un 3)
theorem Y1a {x0 x1 x2 r}  : mM x0 x1 x2=some r->Zq Tryz.prog Mo (Y1w x0 x1 x2 r):=
 fK Tryz.func143<|br Ylh<|rt
abbrev Yvk (x0:Zj) (x1:Int) (r:Int):Y:=(145,[.agg (Zj.enc x0),il x1],il r,un 2)
theorem Ye4 {x0 x1 r}  : aM x0 x1=some r->Zq Tryz.prog Mo (Yvk x0 x1 r):=
 fK Tryz.func145<|it rt<|bb Zc<|rt
abbrev Yiu (x0:Int) (r:Int):Y:=(151,[il x0],il r,un 1)
theorem Z53 {x0 r} {v0}:Zww x0 v0=some r->CS (Yiu x0 r) Tryz.f151 [1,0,0,1] [(0,il x0),(3,bl v0)] []:=
 st<|it rt<|it rt<|it rt<|rt
theorem Yi6 {x0 r}  : mN x0=some r->Zq Tryz.prog Mo (Yiu x0 r):=
 fK Tryz.func151<|it (jk 2<|cx [] 6 Z53)<|jk 2<|cx [] 6 Z53
abbrev Y5r (x0:List Int) (x1:Int) (x2:Int) (r:Bool):Y:=(232,[.tr (x0.map Zc),il x1,il x2],bl r,un 3)
theorem Ynt {x0 x1 x2 r}  : aN x0 x1 x2=some r->Zq Tryz.prog Mo (Y5r x0 x1 x2 r):=
 fK Tryz.func232<|br Yjw<|it (jk 2<|br dO<|jk 1<|it (jk 2<|js Zc x0<|jk 2<|br Nh<|jk 3<|rt)<|jk 7<|rt)<|jk 11<|rt
abbrev Ya3 (x0:List Int) (x1:Int) (x2:Int) (x3:Int) (r:List Int×Bool):Y:=(190,[.tr (x0.map Zc),il x1,il x2,il x3],.AX [.own 3 (r.1.map Zc),bl r.2],un 4)
theorem Ypj {x0 x1 x2 x3 r}:∀{m v0 v1 v2},mO x0 x1 x2 x3 m v0 v1 v2=some r->CS (Ya3 x0 x1 x2 x3 r) Tryz.f190 [1,1,1,0,1,0] [(1,il x1),(2,il x2),(3,il v0),(10,sq 1 (v1.map Zc).length),(11,il v2)] [rx 1 3 (v1.map Zc)]:=by
 intro m
 induction m with
 | zero=>intro v0 v1 v2 h;cases h
 | succ m ih=>exactλ{v0} {v1} {v2}=>st<|br Nh<|it (jk 1<|bn λW9=>bn λ{y0} Kk=>jw (xp Zc W9 Kk)<|jk 1<|jp (.num (y0.map Zc).length 0 0 [])<|jo (Kc Zc Kk)<|cx (A1 1 1) 13 ih)<|jk 1<|je Zc v1<|rt
theorem Z89 {x0 x1 x2 x3 r} {v1 v3}:mP x0 x1 x2 x3 v1 v3=some r->CS (Ya3 x0 x1 x2 x3 r) Tryz.f190 [1,1,0,1] [(1,il x1),(2,il x2),(3,il x3),(10,sq 1 (v1.map Zc).length),(27,bl v3)] [rx 1 3 (v1.map Zc)]:=
 st<|it (jk 1<|je Zc v1<|rt)<|jn Zc v1<|cx (A1 1 1) 6 Ypj
theorem Y67 {x0 x1 x2 x3 r}  : mQ x0 x1 x2 x3=some r->Zq Tryz.prog Mo (Ya3 x0 x1 x2 x3 r):=
 fK Tryz.func190<|bn λ{z0} Xe=>jt Zc x0 z0<|jw (ol 1 Jo R1 x0)<|jo (FI Zc Xe)<|jo (Hd Zc Xe)<|je Zc z0<|br Ynt<|it (jk 6<|jn Zc z0<|cx (fz 1 2 2048) 7 Z89)<|jk 2<|br JS<|jk 2<|br Yk<|jk 2<|jn Zc z0<|cx (fz 1 2 2048) 7 Z89
abbrev UL (x0:Zn) (x1:Bool) (x2:Int) (x3:Int) (r:Zn×Int×Bool):Y:=(192,[.agg (Zn.enc x0),bl x1,il x2,il x3],.AX [.agg (Zn.ow r.1),il r.2.1,bl r.2.2],un 4)
theorem Z02 {x0 x1 x2 x3 r} {Ad v0}:aP x0 x1 x2 x3 Ad v0=some r->CS (UL x0 x1 x2 x3 r) Tryz.f192 [1,1,1,0,0,1,1,1,1,1,1,1,1,1,1,1] [(8,pt 1),(11,pt 4),(101,bl v0)] (Zn.bk Zn.z0 2++[bx 1 (Zn.rl Zn.z0 2)]++Zn.bk Ad 5++[bx 4 (Zn.rl Ad 5)]):=
 st<|it (bd Zc<|jp (.num (1:Int).toNat ((Ad.A2.length:Int):Int).toNat (((Ad.A2.length:Int):Int).toNat - (1:Int).toNat) [])<|jk 2<|bn λ{s0} Qr=>jp (.mk 0 (s0.map Zc))<|je Zc Ad.A2<|jo (DV Qr).1<|jo (G7 Zc Ad.A2)<|jo (Em Zc Qr)<|jo (CM 1 Jo Ad.A2)<|jo (Eq.refl (((Ad.A2.length:Int):Int).toNat - (1:Int).toNat))<|je Zc Ad.AD<|jo (kZ Zc Qr)<|jo (EJ Zc Qr)<|rt)<|jk 2<|jw (Zn.so Ad)<|rt
theorem Z1c {x0 x1 x2 x3 r} {Ad v1}:aQ x0 x1 x2 x3 Ad v1=some r->CS (UL x0 x1 x2 x3 r) Tryz.f192 [1,1,1,0,0,1,1,1,1,1,1,1,1,1] [(1,bl x1),(2,il x2),(3,il x3),(8,pt 1),(11,pt 4),(81,bl v1)] (Zn.bk Zn.z0 2++[bx 1 (Zn.rl Zn.z0 2)]++Zn.bk Ad 5++[bx 4 (Zn.rl Ad 5)]):=
 st<|it (bn λ{z0} Xe=>jt Zc [x3] z0<|jk 3<|ja 1 Jo x3<|jx Zc Xe<|je Zc z0<|je Zc Ad.AD<|je Zc z0<|rt)<|it (jk 2<|it (jk 2<|js Zc Ad.A2<|jk 2<|jw (Zn.sc Zn.z0)<|jw (Zn.sc Ad)<|cx (A1 1 6) 3 Z02)<|jk 4<|jw (Zn.sc Zn.z0)<|jw (Zn.sc Ad)<|cx (A1 1 6) 3 Z02)<|jk 7<|jw (Zn.sc Zn.z0)<|jw (Zn.sc Ad)<|cx (A1 1 6) 3 Z02
theorem Ycw {x0 x1 x2 x3 r} {Ad v2}:mR x0 x1 x2 x3 Ad v2=some r->CS (UL x0 x1 x2 x3 r) Tryz.f192 [1,1,1,0,0,1,1,1,1,1] [(1,bl x1),(2,il x2),(3,il x3),(8,pt 1),(11,pt 4),(59,bl v2)] (Zn.bk Zn.z0 2++[bx 1 (Zn.rl Zn.z0 2)]++Zn.bk Ad 5++[bx 4 (Zn.rl Ad 5)]):=
 st<|it (jk 2<|jw (Zn.so Ad)<|rt)<|it (br JS<|jl<|jk 2<|bo H7<|jw (Zn.so Ad)<|rt)<|it (jk 1<|it (jk 2<|js Zc Ad.A2<|jk 2<|jw (Zn.sc Zn.z0)<|jw (Zn.sc Ad)<|cx (A1 1 6) 6 Z1c)<|jk 4<|jw (Zn.sc Zn.z0)<|jw (Zn.sc Ad)<|cx (A1 1 6) 6 Z1c)<|jk 6<|jw (Zn.sc Zn.z0)<|jw (Zn.sc Ad)<|cx (A1 1 6) 6 Z1c
theorem Yc9 {x0 x1 x2 x3 r} {Ad v3}:mS x0 x1 x2 x3 Ad v3=some r->CS (UL x0 x1 x2 x3 r) Tryz.f192 [1,1,1,0,0,1] [(1,bl x1),(2,il x2),(3,il x3),(8,pt 1),(11,pt 4),(35,bl v3)] (Zn.bk Zn.z0 2++[bx 1 (Zn.rl Zn.z0 2)]++Zn.bk Ad 5++[bx 4 (Zn.rl Ad 5)]):=
 st<|it (jk 1<|bn λBU=>bn λKk=>jw (xp Zc BU Kk)<|jk 2<|jo (Kc Zc Kk)<|je Zc Ad.A2<|rt)<|br Yk<|it (jk 1<|bd Zc<|jk 2<|jw (Zn.so Ad)<|rt)<|it (jk 1<|jw (Zn.sc Zn.z0)<|jw (Zn.sc Ad)<|cx (A1 1 6) 6 Ycw)<|jk 1<|jw (Zn.sc Zn.z0)<|jw (Zn.sc Ad)<|cx (A1 1 6) 6 Ycw
theorem sN {x0 x1 x2 x3 r} {Ad v4}:MR x0 x1 x2 x3 Ad v4=some r->CS (UL x0 x1 x2 x3 r) Tryz.f192 [1,1,0,1] [(1,bl x1),(2,il x2),(3,il x3),(8,pt 1),(11,pt 4),(33,bl v4)] (Zn.bk Zn.z0 2++[bx 1 (Zn.rl Zn.z0 2)]++Zn.bk Ad 5++[bx 4 (Zn.rl Ad 5)]):=
 st<|it (jk 2<|jw (Zn.so Ad)<|rt)<|br Yk<|it (jk 1<|jw (Zn.sc Zn.z0)<|jw (Zn.sc Ad)<|cx (A1 1 6) 6 Yc9)<|jk 1<|jw (Zn.sc Zn.z0)<|jw (Zn.sc Ad)<|cx (A1 1 6) 6 Yc9
theorem Y8x {x0 x1 x2 x3 r}  : mT x0 x1 x2 x3=some r->Zq Tryz.prog Mo (UL x0 x1 x2 x3 r):=
 fK Tryz.func192<|br Ynf λ{r3}=>br Yro<|it (jk 7<|jw (Zn.sc r3)<|cx (fz 1 1 1024++fz 4 2 2048++Zn.ff 5 2 1024) 7 sN)<|jk 4<|it (jk 3<|jw (Zn.sc r3)<|cx (fz 1 1 1024++fz 4 2 2048++Zn.ff 5 2 1024) 7 sN)<|jk 1<|it (jk 1<|br JS<|jk 2<|br Yk<|jk 4<|jw (Zn.sc r3)<|cx (fz 1 1 1024++fz 4 2 2048++Zn.ff 5 2 1024) 7 sN)<|jk 7<|jw (Zn.sc r3)<|cx (fz 1 1 1024++fz 4 2 2048++Zn.ff 5 2 1024) 7 sN
abbrev Ymh (x0:List Int) (x1:Int) (x2:Int) (r:Int×Bool):Y:=(191,[.tr (x0.map Zc),il x1,il x2],.AX [il r.1,bl r.2],un 3)
theorem Yp6 {x0 x1 x2 r}:∀{m v0 v1},mU x0 x1 x2 m v0 v1=some r->CS (Ymh x0 x1 x2 r) Tryz.f191 [1,1,1,0,1,0] [(0,.tr (x0.map Zc)),(1,il x1),(8,il v0),(9,il v1)] []:=by
 intro m
 induction m with
 | zero=>intro v0 v1 h;cases h
 | succ m ih=>exact st<|it (bb Zc<|cx [] 11 ih)<|rt
theorem Y7b {x0 x1 x2 r}  : mV x0 x1 x2=some r->Zq Tryz.prog Mo (Ymh x0 x1 x2 r):=
 fK Tryz.func191<|br Ynt<|it rt<|br Nh<|cx [] 13 Yp6
abbrev sO (x0:Zf) (x1:Bool) (x2:Int) (x3:Int) (x4:Int) (r:Zf×Int×Int):Y:=(144,[.agg (Zf.enc x0),bl x1,il x2,il x3,il x4],.AX [.agg (Zf.ow r.1),il r.2.1,il r.2.2],un 5)
theorem Z5s {x0 x1 x2 x3 x4 r} {Ad At v0 v1}:mX x0 x1 x2 x3 x4 Ad At v0 v1=some r->CS (sO x0 x1 x2 x3 x4 r) Tryz.f144 [1,1,1,0,1,0,1,1,1,0,1,1] [(10,pt 1),(13,pt 5),(16,pt 9),(17,il v0),(87,bl v1)] (Zf.bk Zf.z0 2++[bx 1 (Zf.rl Zf.z0 2)]++Zf.bk Ad 6++[bx 5 (Zf.rl Ad 6)]++Zn.bk At 10++[bx 9 (Zn.rl At 10)]):=
 st<|it (jk 3<|je Zc Ad.mem<|jw (Zn.so At)<|rt)<|jk 3<|jw (Zf.so Ad)<|rt
theorem Z6o {x0 x1 x2 x3 x4 r} {AJ v2 v3}:mY x0 x1 x2 x3 x4 AJ v2 v3=some r->CS (sO x0 x1 x2 x3 x4 r) Tryz.f144 [1,1,1,0,1,0,1] [(1,bl x1),(2,il x2),(3,il x3),(4,il x4),(5,pt 1),(10,pt 2),(13,pt 6),(43,il v2),(44,bl v3)] ([bx 1 (Zf.enc x0)]++Zf.bk Zf.z0 3++[bx 2 (Zf.rl Zf.z0 3)]++Zf.bk AJ 7++[bx 6 (Zf.rl AJ 7)]):=
 st<|it (it (br Y67 λ{r0}=>jk 3<|je Zc r0.1<|jw (Zn.so AJ.dev)<|rt)<|br Y7b<|jk 3<|jw (Zf.so AJ)<|rt)<|it (br Y8x λ{r2}=>it (jk 1<|jw (Zf.sc Zf.z0)<|jw (Zf.sc AJ)<|jw (Zn.sc r2.1)<|cx (fz 1 1 2++fz 2 1 3++fz 3 1 4++fz 4 1 5++fz 5 1 6++fz 6 1 7++fz 7 1 8++fz 8 1 9++fz 9 3 11264++Zn.ff 10 3 6144) 8 Z5s)<|jk 1<|jw (Zf.sc Zf.z0)<|jw (Zf.sc AJ)<|jw (Zn.sc r2.1)<|cx (fz 1 1 2++fz 2 1 3++fz 3 1 4++fz 4 1 5++fz 5 1 6++fz 6 1 7++fz 7 1 8++fz 8 1 9++fz 9 3 11264++Zn.ff 10 3 6144) 8 Z5s)<|jk 3<|jw (Zf.so AJ)<|rt
theorem sP {x0 x1 x2 x3 x4 r} {AJ v4}:MS x0 x1 x2 x3 x4 AJ v4=some r->CS (sO x0 x1 x2 x3 x4 r) Tryz.f144 [1,1,0,1] [(1,bl x1),(2,il x2),(3,il x3),(4,il x4),(5,pt 1),(10,pt 2),(13,pt 6),(40,bl v4)] ([bx 1 (Zf.enc x0)]++Zf.bk Zf.z0 3++[bx 2 (Zf.rl Zf.z0 3)]++Zf.bk AJ 7++[bx 6 (Zf.rl AJ 7)]):=
 st<|it (jk 3<|jw (Zf.so AJ)<|rt)<|br Yi6<|it (jw (Zf.sc Zf.z0)<|jw (Zf.sc AJ)<|cx (A1 1 9) 11 Z6o)<|jw (Zf.sc Zf.z0)<|jw (Zf.sc AJ)<|cx (A1 1 9) 11 Z6o
theorem Z7x {x0 x1 x2 x3 x4 r}  : TT x0 x1 x2 x3 x4=some r->Zq Tryz.prog Mo (sO x0 x1 x2 x3 x4 r):=
 fK Tryz.func144<|br Ynv λ{r4}=>br Yi5<|it (jk 8<|jw (Zf.sc r4)<|cx (fz 1 1 0++fz 2 1 1024++fz 6 2 2048++Zf.ff 7 2 1024) 7 sP)<|jk 2<|br dO<|jk 2<|it (jk 3<|jw (Zf.sc r4)<|cx (fz 1 1 0++fz 2 1 1024++fz 6 2 2048++Zf.ff 7 2 1024) 7 sP)<|jk 1<|it (jk 2<|br JS<|jk 2<|br Yk<|jk 4<|jw (Zf.sc r4)<|cx (fz 1 1 0++fz 2 1 1024++fz 6 2 2048++Zf.ff 7 2 1024) 7 sP)<|jk 8<|jw (Zf.sc r4)<|cx (fz 1 1 0++fz 2 1 1024++fz 6 2 2048++Zf.ff 7 2 1024) 7 sP
abbrev Ymr (x0:Zh) (r:Zh×Bool):Y:=(146,[.agg (Zh.enc x0)],.AX [.agg [.own 41 (r.1.queue.map Zj.enc),il r.1.Ao,il r.1.done,il r.1.tries,bl r.1.Ay,bl r.1.broken],bl r.2],un 1)
theorem Z9y {x0 r} {Ad v0}:mZ x0 Ad v0=some r->CS (Ymr x0 r) Tryz.f146 [1,1,0,1] [(1,pt 1),(2,pt 2),(4,pt 4),(16,bl v0)] [bx 1 (Zh.enc x0),rx 3 41 ([].map Zj.enc),bx 2 [sq 3 ([].map Zj.enc).length,il 0,il 0,il 0,bl false,bl false],rx 5 41 (Ad.queue.map Zj.enc),bx 4 [sq 5 (Ad.queue.map Zj.enc).length,il Ad.Ao,il Ad.done,il Ad.tries,bl Ad.Ay,bl Ad.broken]]:=
 st<|it (jk 1<|je Zj.enc Ad.queue<|rt)<|br dP<|it (jp (.num (1:Int).toNat ((Ad.queue.length:Int):Int).toNat (((Ad.queue.length:Int):Int).toNat - (1:Int).toNat) [])<|jk 1<|bn λ{s0} Qr=>jp (.mk 0 (s0.map Zj.enc))<|je Zj.enc Ad.queue<|jo (DV Qr).1<|jo (G7 Zj.enc Ad.queue)<|jo (Em Zj.enc Qr)<|jo (CM 6 Zj.A9 Ad.queue)<|jo (Eq.refl (((Ad.queue.length:Int):Int).toNat - (1:Int).toNat))<|jo (kZ Zj.enc Qr)<|jo (EJ Zj.enc Qr)<|rt)<|jk 1<|je Zj.enc Ad.queue<|rt
theorem Y6v {x0 r}  : nA x0=some r->Zq Tryz.prog Mo (Ymr x0 r):=
 fK Tryz.func146<|br dQ λ{r1}=>br UJ<|it (jk 5<|jn Zj.enc r1.queue<|cx (fz 1 1 0++fz 2 1 1024++fz 4 2 2048++fz 5 2 1024) 7 Z9y)<|jk 5<|jn Zj.enc r1.queue<|cx (fz 1 1 0++fz 2 1 1024++fz 4 2 2048++fz 5 2 1024) 7 Z9y
abbrev Ycz (x0:Za) (x1:Zb) (r:Za):Y:=(97,[.agg (Za.ow x0),.agg (Zb.enc x1)],.agg (Za.ow r),un 2)
theorem Z1r {x0 x1 r} {Ad At AJ}:aS x0 x1 Ad At AJ=some r->CS (Ycz x0 x1 r) Tryz.f97 [1,1,1,1,1,1,1,1] [(2,pt 1),(4,pt 10),(5,pt 19),(6,pt 20),(8,pt 21)] (Za.bk Ad 2++[bx 1 (Za.rl Ad 2)]++Za.bk Za.z0 11++[bx 10 (Za.rl Za.z0 11),bx 19 (Zi.enc x0.Aa),bx 20 (Zh.enc At),bx 21 (Zt.enc AJ)]):=
 st<|bn λ{z0} Xe=>jt Zt.enc [AJ] z0<|jk 1<|ja 7 Zt.A9 AJ<|jx Zt.enc Xe<|je Zt.enc z0<|br Y6v λ{r0}=>bn λW9=>bn λ{y0} Kk=>jw (xq Zh.enc W9 y0)<|jk 1<|je Zj.enc r0.1.queue<|jo (Ie Zh.enc Kk)<|it (jk 3<|it (jk 8<|je Zd.enc Ad.Ae.Ab<|jo (Kc Zh.enc Kk)<|je Zk.enc Ad.buckets<|je Zc Ad.splits<|jw (Zf.so Ad.model)<|je Zt.enc z0<|rt)<|jk 8<|je Zd.enc Ad.Ae.Ab<|jo (Kc Zh.enc Kk)<|je Zk.enc Ad.buckets<|je Zc Ad.splits<|jw (Zf.so Ad.model)<|je Zt.enc z0<|rt)<|jk 12<|je Zd.enc Ad.Ae.Ab<|jo (Kc Zh.enc Kk)<|je Zk.enc Ad.buckets<|je Zc Ad.splits<|jw (Zf.so Ad.model)<|je Zt.enc z0<|rt
theorem Yuk {x0 x1 r}  : nB x0 x1=some r->Zq Tryz.prog Mo (Ycz x0 x1 r):=
 fK Tryz.func97<|bn λBU=>jw (xd Zh.enc BU)<|it (bn λCp=>jw (xp Zh.enc BU Cp)<|jk 8<|je Zd.enc x0.Ae.Ab<|jo (Kc Zh.enc Cp)<|je Zk.enc x0.buckets<|je Zc x0.splits<|jw (Zf.so x0.model)<|je Zt.enc x0.log<|br Z7p λ{r1}=>jk 8<|jw (Za.so r1)<|rt)<|it (bn λD8=>jw (xp Zh.enc BU D8)<|jk 1<|je Zd.enc x0.Ae.Ab<|br Y1a<|bn λDd=>bn λGS=>jw (xp Zc Dd GS)<|jk 8<|je Zd.enc x0.Ae.Ab<|jo (Kc Zh.enc D8)<|je Zk.enc x0.buckets<|jo (Kc Zc GS)<|jw (Zf.so x0.model)<|je Zt.enc x0.log<|br Z7p λ{r3}=>jk 8<|jw (Za.so r3)<|rt)<|bb Zj.enc<|br sM<|it (br Ye4<|jk 3<|jw (Zf.so x0.model)<|br Z7x λ{r6}=>jw (Za.sc {x0 with Aa:=Zi.z0,model:=r6.1})<|cx (fz 1 1 0++fz 2 0 0++fz 3 0 7++fz 4 0 10++fz 5 0 11++fz 6 11 12288++fz 7 11 12289++fz 8 11 12291++fz 9 0 36++fz 10 1 2048++fz 19 2 2048++fz 20 4 6144++fz 21 9 15360) 29 Z1r)<|jw (Za.sc {x0 with Aa:=Zi.z0})<|cx (fz 1 1 0++Za.ff 2 0 0++fz 10 1 2048++fz 19 2 2048++fz 20 4 6144++fz 21 9 15360) 29 Z1r
abbrev Y4f (x0:Zb) (x1:Int) (r:Int):Y:=(152,[.agg (Zb.enc x0),il x1],il r,un 2)
theorem Y4q {x0 x1 r}  : nC x0 x1=some r->Zq Tryz.prog Mo (Y4f x0 x1 r):=
 fK Tryz.func152<|br Ylh<|it (jk 3<|rt)<|jk 2<|it rt<|rt
abbrev Y6g (x0:Zg) (x1:Zb) (x2:Int) (r:Int):Y:=(153,[.agg (Zg.enc x0),.agg (Zb.enc x1),il x2],il r,un 3)
theorem Y4l {x0 x1 x2 r}  : nD x0 x1 x2=some r->Zq Tryz.prog Mo (Y6g x0 x1 x2 r):=
 fK Tryz.func153<|br Ylh<|rt
abbrev Ni (x0:Za) (x1:Zb) (r:Za):Y:=(99,[.agg (Za.ow x0),.agg (Zb.enc x1)],.agg (Za.ow r),un 2)
theorem Z27 {x0 x1 r} {Ad}:aT x0 x1 Ad=some r->CS (Ni x0 x1 r) Tryz.f99 [1,1,1,1,1,1,1,1,1,1,1,1,1] [(2,pt 1),(4,pt 10),(5,pt 19)] (Za.bk {x0 with addr:=Zi.z0} 2++[bx 1 (Za.rl {x0 with addr:=Zi.z0} 2)]++Za.bk Za.z0 11++[bx 10 (Za.rl Za.z0 11),bx 19 (Zi.enc Ad)]):=
 st<|jk 8<|jw (Za.so x0)<|rt
theorem dR {x0 x1 r} {Ad v0}:Ju x0 x1 Ad v0=some r->CS (Ni x0 x1 r) Tryz.f99 [1,1,1,1,1,1,1,1,1,1,1,1,0,1] [(2,pt 1),(4,pt 10),(5,pt 19),(128,bl v0)] (Za.bk {x0 with addr:=Zi.z0} 2++[bx 1 (Za.rl {x0 with addr:=Zi.z0} 2)]++Za.bk Za.z0 11++[bx 10 (Za.rl Za.z0 11),bx 19 (Zi.enc Ad)]):=
 st<|it (jw (Za.sc {x0 with addr:=Zi.z0})<|jw (Za.sc Za.z0)<|cx (A1 1 19) 2 Z27)<|jw (Za.sc {x0 with addr:=Zi.z0})<|jw (Za.sc Za.z0)<|cx (A1 1 19) 2 Z27
theorem Z37 {x0 x1 r} {Ad At v1 v2}:TU x0 x1 Ad At v1 v2=some r->CS (Ni x0 x1 r) Tryz.f99 [1,1,1,1,1,1,1,1,1,1,1,1] [(2,pt 1),(4,pt 10),(5,pt 19),(6,pt 20),(9,il v1),(10,il v2)] (Za.bk {x0 with addr:=Zi.z0} 2++[bx 1 (Za.rl {x0 with addr:=Zi.z0} 2)]++Za.bk Za.z0 11++[bx 10 (Za.rl Za.z0 11),bx 19 (Zi.enc Ad),bx 20 (Zh.enc At)]):=
 st<|it (jk 2<|it (jk 2<|it (jk 3<|it (jk 5<|jw (Za.sc {x0 with addr:=Zi.z0})<|jw (Za.sc Za.z0)<|cx (A1 1 19) 3 dR)<|jk 5<|jw (Za.sc {x0 with addr:=Zi.z0})<|jw (Za.sc Za.z0)<|cx (A1 1 19) 3 dR)<|jk 9<|jw (Za.sc {x0 with addr:=Zi.z0})<|jw (Za.sc Za.z0)<|cx (A1 1 19) 3 dR)<|jk 12<|jw (Za.sc {x0 with addr:=Zi.z0})<|jw (Za.sc Za.z0)<|cx (A1 1 19) 3 dR)<|jk 15<|jw (Za.sc {x0 with addr:=Zi.z0})<|jw (Za.sc Za.z0)<|cx (A1 1 19) 3 dR
theorem dS {x0 x1 r} {Ad At v1 v2 v3}:Jp x0 x1 Ad At v1 v2 v3=some r->CS (Ni x0 x1 r) Tryz.f99 [1,1,1,1,1,1,1,1,1,1,1,0,1] [(2,pt 1),(4,pt 10),(5,pt 19),(6,pt 20),(9,il v1),(10,il v2),(104,bl v3)] (Za.bk {x0 with addr:=Zi.z0} 2++[bx 1 (Za.rl {x0 with addr:=Zi.z0} 2)]++Za.bk Za.z0 11++[bx 10 (Za.rl Za.z0 11),bx 19 (Zi.enc Ad),bx 20 (Zh.enc At)]):=
 st<|it (jw (Za.sc {x0 with addr:=Zi.z0})<|jw (Za.sc Za.z0)<|cx (A1 1 20) 2 Z37)<|jw (Za.sc {x0 with addr:=Zi.z0})<|jw (Za.sc Za.z0)<|cx (A1 1 20) 2 Z37
theorem Z46 {x0 x1 r} {Ad At v1 v2}:TV x0 x1 Ad At v1 v2=some r->CS (Ni x0 x1 r) Tryz.f99 [1,1,1,1,1,1,1,1,1,1,1] [(2,pt 1),(4,pt 10),(5,pt 19),(6,pt 20),(9,il v1),(10,il v2)] (Za.bk {x0 with addr:=Zi.z0} 2++[bx 1 (Za.rl {x0 with addr:=Zi.z0} 2)]++Za.bk Za.z0 11++[bx 10 (Za.rl Za.z0 11),bx 19 (Zi.enc Ad),bx 20 (Zh.enc At)]):=
 st<|it (jk 2<|it (jk 2<|it (jk 11<|jw (Za.sc {x0 with addr:=Zi.z0})<|jw (Za.sc Za.z0)<|cx (A1 1 20) 3 dS)<|jk 4<|it (jk 6<|jw (Za.sc {x0 with addr:=Zi.z0})<|jw (Za.sc Za.z0)<|cx (A1 1 20) 3 dS)<|jk 6<|jw (Za.sc {x0 with addr:=Zi.z0})<|jw (Za.sc Za.z0)<|cx (A1 1 20) 3 dS)<|jk 11<|jw (Za.sc {x0 with addr:=Zi.z0})<|jw (Za.sc Za.z0)<|cx (A1 1 20) 3 dS)<|jk 14<|jw (Za.sc {x0 with addr:=Zi.z0})<|jw (Za.sc Za.z0)<|cx (A1 1 20) 3 dS
theorem Z32 {x0 x1 r} {Ad At v1 v2 v4}:TW x0 x1 Ad At v1 v2 v4=some r->CS (Ni x0 x1 r) Tryz.f99 [1,1,1,1,1,1,1,1,1,1,0,1] [(2,pt 1),(4,pt 10),(5,pt 19),(6,pt 20),(9,il v1),(10,il v2),(77,bl v4)] (Za.bk {x0 with addr:=Zi.z0} 2++[bx 1 (Za.rl {x0 with addr:=Zi.z0} 2)]++Za.bk Za.z0 11++[bx 10 (Za.rl Za.z0 11),bx 19 (Zi.enc Ad),bx 20 (Zh.enc At)]):=
 st<|it (jw (Za.sc {x0 with addr:=Zi.z0})<|jw (Za.sc Za.z0)<|cx (A1 1 20) 2 Z46)<|jw (Za.sc {x0 with addr:=Zi.z0})<|jw (Za.sc Za.z0)<|cx (A1 1 20) 2 Z46
theorem Z3h {x0 x1 r} {Ad At v1 v2}:TX x0 x1 Ad At v1 v2=some r->CS (Ni x0 x1 r) Tryz.f99 [1,1,1,1,1,1,1,1,1,1] [(2,pt 1),(4,pt 10),(5,pt 19),(6,pt 20),(9,il v1),(10,il v2)] (Za.bk {x0 with addr:=Zi.z0} 2++[bx 1 (Za.rl {x0 with addr:=Zi.z0} 2)]++Za.bk Za.z0 11++[bx 10 (Za.rl Za.z0 11),bx 19 (Zi.enc Ad),bx 20 (Zh.enc At)]):=
 st<|it (jk 3<|jw (Za.sc {x0 with addr:=Zi.z0})<|jw (Za.sc Za.z0)<|cx (A1 1 20) 3 Z32)<|jk 3<|jw (Za.sc {x0 with addr:=Zi.z0})<|jw (Za.sc Za.z0)<|cx (A1 1 20) 3 Z32
theorem Z3u {x0 x1 r} {AJ TZ v5 v1 v2 v6}:TY x0 x1 AJ TZ v5 v1 v2 v6=some r->CS (Ni x0 x1 r) Tryz.f99 [1,1,1,1,1,1,1,1,1,0,0,1] [(2,pt 1),(3,pt 10),(4,pt 11),(5,pt 20),(6,pt 21),(7,pt 22),(8,il v5),(9,il v1),(10,il v2),(63,bl v6)] (Za.bk {x0 with addr:=Zi.z0} 2++[bx 1 (Za.rl {x0 with addr:=Zi.z0} 2),bx 10 (Zb.enc x1)]++Za.bk Za.z0 12++[bx 11 (Za.rl Za.z0 12),bx 20 (Zi.enc x0.addr),bx 21 (Zh.enc AJ),bx 22 (Zj.enc TZ)]):=
 st<|it (jw (Za.sc {x0 with addr:=Zi.z0})<|jw (Za.sc Za.z0)<|cx (A1 1 9++fz 10 1 11++fz 11 1 12++fz 12 1 13++fz 13 1 14++fz 14 1 15++fz 15 1 16++fz 16 1 17++fz 17 1 18++fz 18 1 19++fz 19 1 20++fz 20 1 21) 3 Z3h)<|jk 1<|je Zd.enc x0.Ae.Ab<|br Y4l<|br Ye4<|jk 3<|jw (Zf.so x0.model)<|br Z7x<|jw (Za.sc {x0 with addr:=Zi.z0})<|jw (Za.sc Za.z0)<|cx (A1 1 9++fz 10 1 11++fz 11 1 12++fz 12 1 13++fz 13 1 14++fz 14 1 15++fz 15 1 16++fz 16 1 17++fz 17 1 18++fz 18 1 19++fz 19 1 20++fz 20 1 21) 5 Z3h
theorem Yw6 {x0 x1 r}  : nE x0 x1=some r->Zq Tryz.prog Mo (Ni x0 x1 r):=
 fK Tryz.func99<|it (jk 8<|jw (Za.so x0)<|rt)<|bd Zh.enc<|bb Zj.enc<|br sM<|br Yi6<|br Y4q<|it (jk 2<|jw (Za.sc {x0 with addr:=Zi.z0})<|cx (fz 1 1 0++Za.ff 2 0 0++fz 10 1 1024++fz 11 1 2048++fz 20 2 2048++fz 21 5 6144++fz 22 6 4096) 25 Z3u)<|jk 2<|jw (Za.sc {x0 with addr:=Zi.z0})<|cx (fz 1 1 0++Za.ff 2 0 0++fz 10 1 1024++fz 11 1 2048++fz 20 2 2048++fz 21 5 6144++fz 22 6 4096) 25 Z3u
abbrev Yw7 (x0:Zh) (r:Bool):Y:=(147,[.agg (Zh.enc x0)],bl r,un 1)
theorem Yei {x0 r}  : aU x0=some r->Zq Tryz.prog Mo (Yw7 x0 r):=
 fK Tryz.func147<|br UJ<|it (jk 3<|br dP<|jk 2<|rt)<|jk 5<|rt
abbrev Z9k (x0:Zk) (x1:Zd) (r:Zk×Bool):Y:=(148,[.agg (Zk.enc x0),.agg (Zd.enc x1)],.AX [.agg (Zk.enc r.1),bl r.2],un 2)
theorem Zqu {x0 x1 r} {v0}:aV x0 x1 v0=some r->CS (Z9k x0 x1 r) Tryz.f148 [1,0,1] [(2,pt 1),(4,pt 2),(19,bl v0)] [bx 1 (Zk.enc x0),bx 2 (Zk.enc Zk.z0)]:=
 st<|it rt<|rt
theorem Yql {x0 x1 r}  : nF x0 x1=some r->Zq Tryz.prog Mo (Z9k x0 x1 r):=
 fK Tryz.func148<|it (jk 8<|cx (fz 1 1 0++fz 2 1 2048) 5 Zqu)<|jk 2<|br sL<|jk 2<|it (jk 3<|cx (fz 1 1 0++fz 2 1 2048) 5 Zqu)<|jk 3<|cx (fz 1 1 0++fz 2 1 2048) 5 Zqu
abbrev Ygm (x0:Zh) (r:Zh×Bool):Y:=(150,[.agg (Zh.enc x0)],.AX [.agg [.own 41 (r.1.queue.map Zj.enc),il r.1.Ao,il r.1.done,il r.1.tries,bl r.1.Ay,bl r.1.broken],bl r.2],un 1)
theorem Z25 {x0 r} {Ad v0}:nG x0 Ad v0=some r->CS (Ygm x0 r) Tryz.f150 [1,1,0,1] [(2,pt 1),(4,pt 3),(17,bl v0)] [rx 2 41 ([].map Zj.enc),bx 1 [sq 2 ([].map Zj.enc).length,il 0,il 0,il 0,bl false,bl false],rx 4 41 (Ad.queue.map Zj.enc),bx 3 [sq 4 (Ad.queue.map Zj.enc).length,il Ad.Ao,il Ad.done,il Ad.tries,bl Ad.Ay,bl Ad.broken]]:=
 st<|it (jk 1<|je Zj.enc Ad.queue<|rt)<|jk 1<|je Zj.enc Ad.queue<|rt
theorem Yvz {x0 r}  : nH x0=some r->Zq Tryz.prog Mo (Ygm x0 r):=
 fK Tryz.func150<|br dQ λ{r0}=>br Yei<|it (jk 6<|jn Zj.enc r0.queue<|cx (fz 1 1 1024++fz 3 2 2048++fz 4 2 1024) 7 Z25)<|jk 6<|jn Zj.enc r0.queue<|cx (fz 1 1 1024++fz 3 2 2048++fz 4 2 1024) 7 Z25
abbrev sQ (x0:Yg) (x1:Zg) (x2:List Bool) (r:Yg×Int):Y:=(149,[.agg (Yg.enc x0),.agg (Zg.enc x1),.tr (x2.map Yc)],.AX [.agg (Yg.enc r.1),il r.2],un 3)
theorem Yox {x0 x1 x2 r}:∀{m v0},nI x0 x1 x2 m v0=some r->CS (sQ x0 x1 x2 r) Tryz.f149 [1,1,1,0,1,0] [(2,.tr (x2.map Yc)),(3,pt 1),(4,pt 2),(6,pt 3),(8,il v0)] [bx 1 (Yg.enc x0),bx 2 (Zg.enc x1),bx 3 (Yg.enc Yg.z0)]:=by
 intro m
 induction m with
 | zero=>intro v0 h;cases h
 | succ m ih=>exact st<|js Yc x2<|it (js Yc x2<|jl<|bo H7<|bb Yc<|it (br Yb2<|rt)<|cx (A1 1 3) 16 ih)<|rt
theorem Z6x {x0 x1 x2 r} {v1}:nJ x0 x1 x2 v1=some r->CS (sQ x0 x1 x2 r) Tryz.f149 [1,1,0,1] [(2,.tr (x2.map Yc)),(3,pt 1),(4,pt 2),(6,pt 3),(32,bl v1)] [bx 1 (Yg.enc x0),bx 2 (Zg.enc x1),bx 3 (Yg.enc Yg.z0)]:=
 st<|it rt<|cx (A1 1 3) 6 Yox
theorem Z7d {x0 x1 x2 r} {v2}:nK x0 x1 x2 v2=some r->CS (sQ x0 x1 x2 r) Tryz.f149 [1,0,1] [(2,.tr (x2.map Yc)),(3,pt 1),(4,pt 2),(6,pt 3),(21,bl v2)] [bx 1 (Yg.enc x0),bx 2 (Zg.enc x1),bx 3 (Yg.enc Yg.z0)]:=
 st<|it rt<|it (jk 3<|bb Yc<|jk 2<|cx (A1 1 3) 5 Z6x)<|jk 5<|cx (A1 1 3) 5 Z6x
theorem Y2z {x0 x1 x2 r}  : nL x0 x1 x2=some r->Zq Tryz.prog Mo (sQ x0 x1 x2 r):=
 fK Tryz.func149<|br Ydv<|it (jk 6<|cx (fz 1 1 0++fz 2 1 1024++fz 3 1 2048) 5 Z7d)<|jk 1<|js Yc x2<|jk 3<|js Zd.enc x1.Ab<|jk 2<|cx (fz 1 1 0++fz 2 1 1024++fz 3 1 2048) 5 Z7d
abbrev Kd (x0:Za) (r:Za):Y:=(98,[.agg (Za.ow x0)],.agg (Za.ow r),un 1)
theorem Z34 {x0 r} {DO:Za->Zi->(List Bool)->Int->Option Za} (JT:∀{Ad At v0 v1},DO Ad At v0 v1=some r->CS (Kd x0 r) Tryz.f98 [1,1,1,1,1,0,1,0] [(1,pt 1),(2,pt 10),(3,sq 20 (v0.map Yc).length),(5,pt 19),(6,il v1)] (Za.bk Ad 2++[bx 1 (Za.rl Ad 2)]++Za.bk Za.z0 11++[bx 10 (Za.rl Za.z0 11),bx 19 (Zi.enc At),rx 20 4 (v0.map Yc)])) {Ad At v0 v1 v2}:nM x0 DO Ad At v0 v1 v2=some r->CS (Kd x0 r) Tryz.f98 [1,1,1,1,1,0,1,0,0,1,0,0,1] [(1,pt 1),(2,pt 10),(3,sq 20 (v0.map Yc).length),(5,pt 19),(6,il v1),(84,bl v2)] (Za.bk Ad 2++[bx 1 (Za.rl Ad 2)]++Za.bk Za.z0 11++[bx 10 (Za.rl Za.z0 11),bx 19 (Zi.enc At),rx 20 4 (v0.map Yc)]):=
 st<|it (bn λW9=>jw (xd Zk.enc W9)<|bd Zd.enc<|br Yql<|bn λ{y0} Kk=>jw (xp Zk.enc W9 Kk)<|jn Yc v0<|jw (tq (Za.nm {Ad with buckets:=y0}))<|je Zd.enc Ad.Ae.Ab<|je Zh.enc Ad.m<|jo (Kc Zk.enc Kk)<|je Zc Ad.splits<|jw (Zf.so Ad.model)<|je Zt.enc Ad.log<|jw (Za.sc Za.z0)<|cx (A1 1 20) 6 JT)<|jn Yc v0<|jw (Za.sc Ad)<|jw (Za.sc Za.z0)<|cx (A1 1 20) 4 JT
theorem Z1n {x0 r} {Ad At AJ}:nN x0 Ad At AJ=some r->CS (Kd x0 r) Tryz.f98 [1,1,1,1,1,1,1,1,1,1,1,1,1] [(1,pt 1),(2,pt 10),(5,pt 19),(7,pt 20)] (Za.bk Ad 2++[bx 1 (Za.rl Ad 2)]++Za.bk Za.z0 11++[bx 10 (Za.rl Za.z0 11),bx 19 (Zi.enc At),bx 20 (Zh.enc AJ)]):=
 st<|br Yvz λ{r1}=>bn λDd=>bn λ{y1} Cp=>jw (xq Zh.enc Dd y1)<|jk 9<|je Zj.enc r1.1.queue<|jo (Ie Zh.enc Cp)<|je Zd.enc Ad.Ae.Ab<|jo (Kc Zh.enc Cp)<|je Zk.enc Ad.buckets<|je Zc Ad.splits<|jw (Zf.so Ad.model)<|je Zt.enc Ad.log<|rt
theorem Zs7 {x0 r} {Ad At AJ v3}:aW x0 Ad At AJ v3=some r->CS (Kd x0 r) Tryz.f98 [1,1,1,1,1,1,1,1,1,1,1,1,0,1] [(1,pt 1),(2,pt 10),(5,pt 19),(7,pt 20),(165,bl v3)] (Za.bk Ad 2++[bx 1 (Za.rl Ad 2)]++Za.bk Za.z0 11++[bx 10 (Za.rl Za.z0 11),bx 19 (Zi.enc At),bx 20 (Zh.enc AJ)]):=
 st<|it (jw (Za.sc {Ad with Af:=At.Aj,held:=0})<|jw (Za.sc Za.z0)<|cx (A1 1 20) 4 Z1n)<|jw (Za.sc Ad)<|jw (Za.sc Za.z0)<|cx (A1 1 20) 2 Z1n
theorem Z3r {x0 r} {Ad At AJ}:aX x0 Ad At AJ=some r->CS (Kd x0 r) Tryz.f98 [1,1,1,1,1,1,1,1,1,1,1,1] [(1,pt 1),(2,pt 10),(5,pt 19),(7,pt 20)] (Za.bk Ad 2++[bx 1 (Za.rl Ad 2)]++Za.bk Za.z0 11++[bx 10 (Za.rl Za.z0 11),bx 19 (Zi.enc At),bx 20 (Zh.enc AJ)]):=
 st<|bb Zj.enc<|it (jk 3<|it (jk 3<|jw (Za.sc Ad)<|jw (Za.sc Za.z0)<|cx (A1 1 20) 3 Zs7)<|jk 3<|jw (Za.sc Ad)<|jw (Za.sc Za.z0)<|cx (A1 1 20) 3 Zs7)<|jk 7<|jw (Za.sc Ad)<|jw (Za.sc Za.z0)<|cx (A1 1 20) 3 Zs7
theorem Z3c {x0 r} {Ad At}:O4 x0 Ad At=some r->CS (Kd x0 r) Tryz.f98 [1,1,1,1,1,1,1] [(1,pt 1),(2,pt 10),(5,pt 19)] (Za.bk Ad 2++[bx 1 (Za.rl Ad 2)]++Za.bk Za.z0 11++[bx 10 (Za.rl Za.z0 11),bx 19 (Zi.enc At)]):=
 st<|it (jk 8<|jw (Za.so Ad)<|rt)<|bd Zh.enc<|it (jk 5<|jw (Za.sc Ad)<|jw (Za.sc Za.z0)<|cx (A1 1 19++fz 20 3 6144) 13 Z3r)<|jk 5<|jw (Za.sc Ad)<|jw (Za.sc Za.z0)<|cx (A1 1 19++fz 20 3 6144) 13 Z3r
theorem Z42 {x0 r} {Ad At v0 v4}:aY x0 Ad At v0 v4=some r->CS (Kd x0 r) Tryz.f98 [1,1,1,1,1,1,0,1] [(1,pt 1),(2,pt 10),(3,sq 20 (v0.map Yc).length),(5,pt 19),(113,bl v4)] (Za.bk Ad 2++[bx 1 (Za.rl Ad 2)]++Za.bk Za.z0 11++[bx 10 (Za.rl Za.z0 11),bx 19 (Zi.enc At),rx 20 4 (v0.map Yc)]):=
 st<|it (jk 2<|je Zd.enc Ad.Ae.Ab<|je Yc v0<|br Y2z λ{r2}=>jw (Za.sc {Ad with Bo:=r2.1})<|jw (Za.sc Za.z0)<|cx (A1 1 19) 4 Z3c)<|jw (Za.sc Ad)<|jw (Za.sc Za.z0)<|cx (A1 1 19) 2 Z3c
theorem Z4v {x0 r} {DO:Za->Zi->(List Bool)->Int->Option Za} (JT:∀{Ad At v0 v1},DO Ad At v0 v1=some r->CS (Kd x0 r) Tryz.f98 [1,1,1,1,1,0,1,0] [(1,pt 1),(2,pt 10),(3,sq 20 (v0.map Yc).length),(5,pt 19),(6,il v1)] (Za.bk Ad 2++[bx 1 (Za.rl Ad 2)]++Za.bk Za.z0 11++[bx 10 (Za.rl Za.z0 11),bx 19 (Zi.enc At),rx 20 4 (v0.map Yc)])) {Ad At v0 v1 v5}:Ua x0 DO Ad At v0 v1 v5=some r->CS (Kd x0 r) Tryz.f98 [1,1,1,1,1,0,1,0,0,0,1] [(1,pt 1),(2,pt 10),(3,sq 20 (v0.map Yc).length),(5,pt 19),(6,il v1),(69,bl v5)] (Za.bk Ad 2++[bx 1 (Za.rl Ad 2)]++Za.bk Za.z0 11++[bx 10 (Za.rl Za.z0 11),bx 19 (Zi.enc At),rx 20 4 (v0.map Yc)]):=
 st<|it (bd Yc<|it (jk 3<|bn λ{a6} sR=>jp (.row (v1:Int).toNat (Zk.enc a6))<|jk 2<|jp (.cell (Zk.enc a6))<|jk 2<|jp (.num (v0.map Yc).length 0 0 [])<|jo (G6 sR)<|jo (H6 Zk.enc sR)<|jo (CX Zk.enc sR)<|jo (CX Zk.enc sR)<|je Yc v0<|jw (Za.sc Ad)<|jw (Za.sc Za.z0)<|cx (A1 1 20) 6 (Z34 JT))<|jk 7<|jn Yc v0<|jw (Za.sc Ad)<|jw (Za.sc Za.z0)<|cx (A1 1 20) 6 (Z34 JT))<|it (jk 3<|jn Yc v0<|jw (Za.sc Ad)<|jw (Za.sc Za.z0)<|cx (A1 1 20) 8 Z42)<|jk 3<|jn Yc v0<|jw (Za.sc Ad)<|jw (Za.sc Za.z0)<|cx (A1 1 20) 8 Z42
theorem Ykd {x0 r}:∀{m Ad At v0 v1},RB x0 m Ad At v0 v1=some r->CS (Kd x0 r) Tryz.f98 [1,1,1,1,1,0,1,0] [(1,pt 1),(2,pt 10),(3,sq 20 (v0.map Yc).length),(5,pt 19),(6,il v1)] (Za.bk Ad 2++[bx 1 (Za.rl Ad 2)]++Za.bk Za.z0 11++[bx 10 (Za.rl Za.z0 11),bx 19 (Zi.enc At),rx 20 4 (v0.map Yc)]):=by
 intro m
 induction m with
 | zero=>intro Ad At v0 v1 h;cases h
 | succ m ih=>exactλ{Ad} {At} {v0} {v1}=>st<|js Zh.enc Ad.m<|it (jk 3<|jn Yc v0<|jw (Za.sc Ad)<|jw (Za.sc Za.z0)<|cx (A1 1 20) 4 (Z4v ih))<|jk 3<|jn Yc v0<|jw (Za.sc Ad)<|jw (Za.sc Za.z0)<|cx (A1 1 20) 4 (Z4v ih)
theorem Z4e {x0 r} {At v0}:nO x0 At v0=some r->CS (Kd x0 r) Tryz.f98 [1,1,1,1,1] [(1,pt 1),(2,pt 10),(3,sq 20 (v0.map Yc).length),(5,pt 19)] (Za.bk x0 2++[bx 1 (Za.rl x0 2)]++Za.bk Za.z0 11++[bx 10 (Za.rl Za.z0 11),bx 19 (Zi.enc At),rx 20 4 (v0.map Yc)]):=
 st<|jn Yc v0<|jw (Za.sc x0)<|jw (Za.sc Za.z0)<|cx (A1 1 20) 4 Ykd
theorem Z4n {x0 r} {v0 v6}:nP x0 v0 v6=some r->CS (Kd x0 r) Tryz.f98 [1,1,1,1,0,1] [(1,pt 1),(2,pt 10),(3,sq 20 (v0.map Yc).length),(5,pt 19),(56,bl v6)] (Za.bk x0 2++[bx 1 (Za.rl x0 2)]++Za.bk Za.z0 11++[bx 10 (Za.rl Za.z0 11),bx 19 (Zi.enc (Zi.mk false (-1) 0 false 0 0 0 false)),rx 20 4 (v0.map Yc)]):=
 st<|it (jn Yc v0<|jw (Za.sc x0)<|jw (Za.sc Za.z0)<|cx (A1 1 20) 2 Z4e)<|jn Yc v0<|jw (Za.sc x0)<|jw (Za.sc Za.z0)<|cx (A1 1 20) 2 Z4e
theorem Ykz {x0 r}:∀{m v0 v7},nR x0 m v0 v7=some r->CS (Kd x0 r) Tryz.f98 [1,1,0,1,0] [(1,pt 1),(2,pt 10),(3,sq 19 (v0.map Yc).length),(4,il v7)] (Za.bk x0 2++[bx 1 (Za.rl x0 2)]++Za.bk Za.z0 11++[bx 10 (Za.rl Za.z0 11),rx 19 4 (v0.map Yc)]):=by
 intro m
 induction m with
 | zero=>intro v0 v7 h;cases h
 | succ m ih=>exactλ{v0} {v7}=>st<|js Zh.enc x0.m<|it (bd Zh.enc<|br Yei<|it (jk 3<|bn λ{a8} Ii=>jp (.row (v7:Int).toNat (Zc a8))<|jk 1<|jp (.cell (Zc a8))<|jk 2<|ig (λg3=>jp (.t true)<|jk 3<|ig (λg4=>jp (.t true)<|jk 6<|bn λ{z0} Xe=>jt Yc [true] z0<|jk 1<|jp (.num (z0.map Yc).length 0 0 [])<|jo (G6 Ii)<|jo (H6 Zc Ii)<|jo (CX Zc Ii)<|jo (CX Zc Ii)<|jo g3<|jo g4<|ja 1 Oy true<|jx Yc Xe<|je Yc z0<|je Yc z0<|jw (Za.sc x0)<|jw (Za.sc Za.z0)<|cx (A1 1 18++fz 19 3 27648) 11 ih) λg4=>jp (.t false)<|jk 6<|bn λ{z0} Xe=>jt Yc [decide (x0.Af=v7)] z0<|jk 1<|jp (.num (z0.map Yc).length 0 0 [])<|jo (G6 Ii)<|jo (H6 Zc Ii)<|jo (CX Zc Ii)<|jo (CX Zc Ii)<|jo g3<|jo g4<|ja 1 Oy (decide (x0.Af=v7))<|jx Yc Xe<|je Yc z0<|je Yc z0<|jw (Za.sc x0)<|jw (Za.sc Za.z0)<|cx (A1 1 18++fz 19 3 27648) 11 ih) λg3=>jp (.t false)<|jk 5<|bn λ{z0} Xe=>jt Yc [false] z0<|jk 1<|jp (.num (z0.map Yc).length 0 0 [])<|jo (G6 Ii)<|jo (H6 Zc Ii)<|jo (CX Zc Ii)<|jo (CX Zc Ii)<|jo g3<|ja 1 Oy false<|jx Yc Xe<|je Yc z0<|je Yc z0<|jw (Za.sc x0)<|jw (Za.sc Za.z0)<|cx (A1 1 18++fz 19 3 27648) 11 ih)<|jk 12<|bn λ{z0} Xe=>jt Yc [false] z0<|jk 1<|ja 1 Oy false<|jx Yc Xe<|jn Yc z0<|je Yc z0<|jw (Za.sc x0)<|jw (Za.sc Za.z0)<|cx (A1 1 18++fz 19 3 27648) 11 ih)<|it (jk 3<|bn λ{a9} sS=>jp (.row (x0.Af:Int).toNat (Yc a9))<|jk 1<|jp (.cell (Yc a9))<|jk 1<|jp (.num (v0.map Yc).length 0 0 [])<|jo (G6 sS)<|jo (H6 Yc sS)<|jo (CX Yc sS)<|jo (CX Yc sS)<|je Yc v0<|jw (Za.sc x0)<|jw (Za.sc Za.z0)<|cx (A1 1 18++fz 19 3 1024++fz 20 1 19) 14 Z4n)<|jk 5<|jn Yc v0<|jw (Za.sc x0)<|jw (Za.sc Za.z0)<|cx (A1 1 18++fz 19 3 1024++fz 20 1 19) 14 Z4n
theorem Yv1 {x0 r}  : nS x0=some r->Zq Tryz.prog Mo (Kd x0 r):=
 fK Tryz.func98<|jp (.num ([].map Yc).length 0 0 [])<|jo (show 0=([].map Yc).length from rfl)<|jw (Za.sc x0)<|cx (fz 1 1 0++Za.ff 2 0 0++fz 10 1 1024++fz 19 2 0) 8 Ykz
abbrev LC (x0:Za) (x1:Zb) (r:Za×Zr):Y:=(49,[.agg (Za.enc x0),.agg (Zb.enc x1)],.AX [.agg (Za.ow r.1),.agg (Zr.enc r.2)],un 2)
theorem Zxj {x0 x1 r} {Ad At}:Ub x0 x1 Ad At=some r->CS (LC x0 x1 r) Tryz.f49 [1,1,1,1,1,1,1,1,1] [(2,pt 1),(4,pt 10),(5,pt 19),(6,pt 20)] (Za.bk Ad 2++[bx 1 (Za.rl Ad 2)]++Za.bk Za.z0 11++[bx 10 (Za.rl Za.z0 11),bx 19 (Zr.enc Zr.z0),bx 20 (Zr.enc At)]):=
 st<|jk 8<|jw (Za.so Ad)<|rt
theorem Z63 {x0 x1 r} {Ad AJ}:Uc x0 x1 Ad AJ=some r->CS (LC x0 x1 r) Tryz.f49 [1,1,1,1,1,1,1,1,0,1,0,1] [(2,pt 1),(3,pt 10),(4,pt 11),(5,pt 20),(6,pt 21)] (Za.bk Ad 2++[bx 1 (Za.rl Ad 2),bx 10 (Zb.enc x1)]++Za.bk Za.z0 12++[bx 11 (Za.rl Za.z0 12),bx 20 (Zr.enc Zr.z0),bx 21 (Zr.enc AJ)]):=
 st<|jk 8<|jw (Za.so Ad)<|br Yw6 λ{r0}=>jk 8<|jw (Za.so r0)<|br Yv1 λ{r1}=>it (jw (Za.sc r1)<|jw (Za.sc Za.z0)<|cx (A1 1 1++Za.ff 2 2 3072++fz 10 1 11++fz 11 1 12++fz 12 1 13++fz 13 1 14++fz 14 1 15++fz 15 1 16++fz 16 1 17++fz 17 1 18++fz 18 1 19++fz 19 1 20++fz 20 1 21) 6 Zxj)<|jw (Za.sc r1)<|jw (Za.sc Za.z0)<|cx (A1 1 1++Za.ff 2 2 3072++fz 10 1 11++fz 11 1 12++fz 12 1 13++fz 13 1 14++fz 14 1 15++fz 15 1 16++fz 16 1 17++fz 17 1 18++fz 18 1 19++fz 19 1 20++fz 20 1 21) 6 Zxj
theorem Z5k {x0 x1 r} {Ad AJ v0}:O5 x0 x1 Ad AJ v0=some r->CS (LC x0 x1 r) Tryz.f49 [1,1,1,1,1,1,1,1,0,1,0,0,1] [(2,pt 1),(3,pt 10),(4,pt 11),(5,pt 20),(6,pt 21),(182,bl v0)] (Za.bk Ad 2++[bx 1 (Za.rl Ad 2),bx 10 (Zb.enc x1)]++Za.bk Za.z0 12++[bx 11 (Za.rl Za.z0 12),bx 20 (Zr.enc Zr.z0),bx 21 (Zr.enc AJ)]):=
 st<|it (bn λW9=>bn λ{y0} Kk=>jw (xp Zh.enc W9 Kk)<|jw (tq (Za.nm {Ad with m:=y0,Af:=(-1),held:=0}))<|je Zd.enc Ad.Ae.Ab<|jo (Kc Zh.enc Kk)<|je Zk.enc Ad.buckets<|je Zc Ad.splits<|jw (Zf.so Ad.model)<|je Zt.enc Ad.log<|jw (Za.sc Za.z0)<|cx (A1 1 21) 6 Z63)<|jw (Za.sc Ad)<|jw (Za.sc Za.z0)<|cx (A1 1 21) 2 Z63
theorem dT {x0 x1 r} {Ad AJ}:K8 x0 x1 Ad AJ=some r->CS (LC x0 x1 r) Tryz.f49 [1,1,1,1,1,1,1,1] [(2,pt 1),(3,pt 10),(4,pt 11),(5,pt 20),(6,pt 21)] (Za.bk Ad 2++[bx 1 (Za.rl Ad 2),bx 10 (Zb.enc x1)]++Za.bk Za.z0 12++[bx 11 (Za.rl Za.z0 12),bx 20 (Zr.enc Zr.z0),bx 21 (Zr.enc AJ)]):=
 st<|it (it (jk 6<|jw (Za.sc Ad)<|jw (Za.sc Za.z0)<|cx (A1 1 21) 7 Z5k)<|jk 6<|jw (Za.sc Ad)<|jw (Za.sc Za.z0)<|cx (A1 1 21) 7 Z5k)<|jw (Za.sc Ad)<|jw (Za.sc Za.z0)<|cx (A1 1 9++fz 10 1 11++fz 11 1 12++fz 12 1 13++fz 13 1 14++fz 14 1 15++fz 15 1 16++fz 16 1 17++fz 17 1 18++fz 18 1 19++fz 19 1 20++fz 20 1 21) 5 Zxj
theorem Zwk {x0 x1 r} {Ad AJ v1}:O6 x0 x1 Ad AJ v1=some r->CS (LC x0 x1 r) Tryz.f49 [1,1,1,1,1,1,1,0,0,1,1,1] [(2,pt 1),(3,pt 10),(4,pt 11),(5,pt 20),(6,pt 21),(126,bl v1)] (Za.bk Ad 2++[bx 1 (Za.rl Ad 2),bx 10 (Zb.enc x1)]++Za.bk Za.z0 12++[bx 11 (Za.rl Za.z0 12),bx 20 (Zr.enc Zr.z0),bx 21 (Zr.enc AJ)]):=
 st<|it (it (jk 8<|jw (Za.so Ad)<|br Z7p λ{r2}=>jw (Za.sc r2)<|jw (Za.sc Za.z0)<|cx (A1 1 1++Za.ff 2 8 2048++A1 10 12) 16 dT)<|jw (Za.sc {Ad with Aa:={Ad.Aa with second:=true}})<|jw (Za.sc Za.z0)<|cx (A1 1 21) 12 dT)<|it (jk 8<|jw (Za.so Ad)<|br Yuk λ{r3}=>jw (Za.sc r3)<|jw (Za.sc Za.z0)<|cx (A1 1 1++Za.ff 2 4 2048++A1 10 12) 8 dT)<|jw (Za.sc Ad)<|jw (Za.sc Za.z0)<|cx (A1 1 21) 6 dT
theorem Z6v {x0 x1 r} {Ad AJ v2}:nT x0 x1 Ad AJ v2=some r->CS (LC x0 x1 r) Tryz.f49 [1,1,1,1,1,1,1,0,0,1] [(2,pt 1),(3,pt 10),(4,pt 11),(5,pt 20),(6,pt 21),(109,bl v2)] (Za.bk Ad 2++[bx 1 (Za.rl Ad 2),bx 10 (Zb.enc x1)]++Za.bk Za.z0 12++[bx 11 (Za.rl Za.z0 12),bx 20 (Zr.enc Zr.z0),bx 21 (Zr.enc AJ)]):=
 st<|it (jw (Za.sc {Ad with Aa:={Ad.Aa with left:=(Y8 Ad.Aa.left 1)}})<|jw (Za.sc Za.z0)<|cx (A1 1 21) 5 dT)<|it (jk 4<|it (jk 4<|jw (Za.sc Ad)<|jw (Za.sc Za.z0)<|cx (A1 1 21) 3 Zwk)<|jk 4<|jw (Za.sc Ad)<|jw (Za.sc Za.z0)<|cx (A1 1 21) 3 Zwk)<|jk 9<|jw (Za.sc Ad)<|jw (Za.sc Za.z0)<|cx (A1 1 21) 3 Zwk
theorem Z65 {x0 x1 r} {Ad AJ}:O7 x0 x1 Ad AJ=some r->CS (LC x0 x1 r) Tryz.f49 [1,1,1,1,1,1,1] [(2,pt 1),(3,pt 10),(4,pt 11),(5,pt 20),(6,pt 21)] (Za.bk Ad 2++[bx 1 (Za.rl Ad 2),bx 10 (Zb.enc x1)]++Za.bk Za.z0 12++[bx 11 (Za.rl Za.z0 12),bx 20 (Zr.enc Zr.z0),bx 21 (Zr.enc AJ)]):=
 st<|it (jk 4<|jw (Za.sc Ad)<|jw (Za.sc Za.z0)<|cx (A1 1 21) 4 Z6v)<|jk 4<|jw (Za.sc Ad)<|jw (Za.sc Za.z0)<|cx (A1 1 21) 4 Z6v
theorem Ymb {x0 x1 r}:∀{m Ad AJ v3},RC x0 x1 m Ad AJ v3=some r->CS (LC x0 x1 r) Tryz.f49 [1,1,1,1,1,0,1,0] [(2,pt 1),(3,pt 10),(4,pt 11),(5,pt 20),(6,pt 21),(11,il v3)] (Za.bk Ad 2++[bx 1 (Za.rl Ad 2),bx 10 (Zb.enc x1)]++Za.bk Za.z0 12++[bx 11 (Za.rl Za.z0 12),bx 20 (Zr.enc Zr.z0),bx 21 (Zr.enc AJ)]):=by
 intro m
 induction m with
 | zero=>intro Ad AJ v3 h;cases h
 | succ m ih=>exactλ{Ad} {AJ} {v3}=>st<|js Zh.enc Ad.m<|it (bn λBU=>jw (xd Zc BU)<|bn λ{y1} Cp=>jw (xp Zc BU Cp)<|bn λDd=>jw (xd Zk.enc Dd)<|bd Zd.enc<|br Ypy<|bn λ{y2} D8=>jw (xp Zk.enc Dd D8)<|jw (tq (Za.nm {Ad with buckets:=y2,splits:=y1}))<|je Zd.enc Ad.Ae.Ab<|je Zh.enc Ad.m<|jo (Kc Zk.enc D8)<|jo (Kc Zc Cp)<|jw (Zf.so Ad.model)<|je Zt.enc Ad.log<|jw (Za.sc Za.z0)<|cx (A1 1 21) 13 ih)<|it (jw (Za.sc {Ad with held:=(Dp Ad.Ae.Al (Zl Ad.held 1))})<|jw (Za.sc Za.z0)<|cx (A1 1 21) 14 Z65)<|jw (Za.sc Ad)<|jw (Za.sc Za.z0)<|cx (A1 1 21) 14 Z65
theorem Yn4 {x0 x1 r}:∀{m Ad AJ v4 v5},aZ x0 x1 m Ad AJ v4 v5=some r->CS (LC x0 x1 r) Tryz.f49 [1,1,1,1,0,1,0] [(2,pt 1),(3,pt 10),(4,pt 11),(5,pt 20),(6,pt 21),(7,sq 22 (v4.map Zm.enc).length),(8,il v5)] (Za.bk Ad 2++[bx 1 (Za.rl Ad 2),bx 10 (Zb.enc x1)]++Za.bk Za.z0 12++[bx 11 (Za.rl Za.z0 12),bx 20 (Zr.enc Zr.z0),bx 21 (Zr.enc AJ),rx 22 60 (v4.map Zm.enc)]):=by
 intro m
 induction m with
 | zero=>intro Ad AJ v4 v5 h;cases h
 | succ m ih=>exactλ{Ad} {AJ} {v4} {v5}=>st<|js Zm.enc v4<|it (bn λFN=>jw (xd Zm.enc FN)<|js Zh.enc Ad.m<|br Yk<|it (jw (xd Zm.enc FN)<|bn λLD=>jw (xd Zh.enc LD)<|jw (xd Zm.enc FN)<|br Y0l λ{r6}=>jw (xd Zm.enc FN)<|bn λ{y3} GS=>jw (xq Zh.enc LD y3)<|jk 1<|je Zj.enc r6.1.queue<|jo (Ie Zh.enc GS)<|jn Zm.enc v4<|jw (tq (Za.nm {Ad with m:=y3}))<|je Zd.enc Ad.Ae.Ab<|jo (Kc Zh.enc GS)<|je Zk.enc Ad.buckets<|je Zc Ad.splits<|jw (Zf.so Ad.model)<|je Zt.enc Ad.log<|jw (Za.sc Za.z0)<|cx (A1 1 22) 16 ih)<|jn Zm.enc v4<|jw (Za.sc Ad)<|jw (Za.sc Za.z0)<|cx (A1 1 22) 14 ih)<|jw (Za.sc Ad)<|jw (Za.sc Za.z0)<|cx (A1 1 21) 13 Ymb
theorem Yir {x0 x1 r}  : bA x0 x1=some r->Zq Tryz.prog Mo (LC x0 x1 r):=
 fK Tryz.func49<|br Z77 λ{r7}=>jk 8<|jw (Za.so r7)<|br Y2w<|br Y08 λ{r9}=>jn Zm.enc r9<|jw (Za.sc r7)<|cx (fz 1 1 0++Za.ff 2 2 1024++fz 10 1 1024++fz 11 1 2048++fz 20 1 3072++fz 21 3 2048++fz 22 4 3072) 12 Yn4
abbrev Yjj (x0:Za) (x1:Zb) (r:Za×Zr):Y:=(167,[.agg (Za.enc x0),.agg (Zb.enc x1)],.AX [.agg (Za.ow r.1),.agg (Zr.enc r.2)],un 2)
theorem Z7e {x0 x1 r} {v0}:nW x0 x1 v0=some r->CS (Yjj x0 x1 r) Tryz.f167 [1,0,1] [(2,pt 1),(3,pt 2),(4,pt 3),(5,pt 12),(15,bl v0)] ([bx 1 (Za.enc x0),bx 2 (Zb.enc x1)]++Za.bk Za.z0 4++[bx 3 (Za.rl Za.z0 4),bx 12 (Zr.enc Zr.z0)]):=
 st<|it (br Z77 λ{r0}=>jk 8<|jw (Za.so r0)<|rt)<|br Yir λ{r1}=>jk 8<|jw (Za.so r1.1)<|rt
theorem Y2d {x0 x1 r}  : nX x0 x1=some r->Zq Tryz.prog Mo (Yjj x0 x1 r):=
 fK Tryz.func167<|br Ye2<|it (jk 3<|cx (fz 1 1 0++fz 2 1 1024++fz 3 1 2048++fz 12 1 3072) 5 Z7e)<|jk 3<|cx (fz 1 1 0++fz 2 1 1024++fz 3 1 2048++fz 12 1 3072) 5 Z7e
abbrev Ywu (x0:Int) (r:ByteArray):Y:=(220,[il x0],ss r,un 1)
theorem Yvy {x0 r}  : nY x0=some r->Zq Tryz.prog Mo (Ywu x0 r):=
 fK Tryz.func220<|it rt<|it rt<|it rt<|rt
abbrev Y5s (x0:Int) (r:ByteArray):Y:=(171,[il x0],ss r,un 1)
theorem UM {x0 r}  : MT x0=some r->Zq Tryz.prog Mo (Y5s x0 r):=
 fK Tryz.func171<|it rt<|br Ks<|rt
abbrev Ydp (x0:Zr) (r:ByteArray):Y:=(168,[.agg (Zr.enc x0)],ss r,un 1)
theorem Z3t {x0 r} {v0}:bB x0 v0=some r->CS (Ydp x0 r) Tryz.f168 [1,1,1] [(1,pt 1),(3,ss v0)] [bx 1 (Zr.enc x0)]:=
 st<|br Z3o<|jl<|jl<|bo Yd<|bo Yd<|br UM<|jl<|bo Yd<|rt
theorem Yxy {x0 r}  : nZ x0=some r->Zq Tryz.prog Mo (Ydp x0 r):=
 fK Tryz.func168<|br Ks<|jl<|bo Yd<|br Yvy<|jl<|jl<|bo Yd<|bo Yd<|br UM<|jl<|jl<|bo Yd<|bo Yd<|br UM<|jl<|jl<|bo Yd<|bo Yd<|br UM<|jl<|jl<|bo Yd<|bo Yd<|br UM<|jl<|jl<|bo Yd<|bo Yd<|it (jl<|bo Yd<|cx (fz 1 1 0) 9 Z3t)<|jl<|bo Yd<|cx (fz 1 1 0) 9 Z3t
abbrev Yjn (x0:Za) (r:Bool):Y:=(47,[.agg (Za.enc x0)],bl r,un 1)
theorem Ymx {x0 r}:∀{m v0},oA x0 m v0=some r->CS (Yjn x0 r) Tryz.f47 [1,0,1,0] [(1,pt 1),(3,il v0)] [bx 1 (Za.enc x0)]:=by
 intro m
 induction m with
 | zero=>intro v0 h;cases h
 | succ m ih=>exact st<|js Zh.enc x0.m<|it (bb Zh.enc λ{a0}=>js Zj.enc a0.queue<|it rt<|cx (A1 1 1) 14 ih)<|rt
theorem Y00 {x0 r}  : oC x0=some r->Zq Tryz.prog Mo (Yjn x0 r):=
 fK Tryz.func47<|cx (fz 1 1 0) 6 Ymx
abbrev Ydj (x0:Zb) (r:Int):Y:=(48,[.agg (Zb.enc x0)],il r,un 1)
theorem Ylg {x0 r}:∀{m v0 v1},oD x0 m v0 v1=some r->CS (Ydj x0 r) Tryz.f48 [1,1,0,1,0] [(1,pt 1),(3,il v0),(4,il v1)] [bx 1 (Zb.enc x0)]:=by
 intro m
 induction m with
 | zero=>intro v0 v1 h;cases h
 | succ m ih=>exact st<|js Zm.enc x0.Am<|it (bb Zm.enc<|cx (A1 1 1) 11 ih)<|rt
theorem Yu8 {x0 r}  : oF x0=some r->Zq Tryz.prog Mo (Ydj x0 r):=
 fK Tryz.func48<|cx (fz 1 1 0) 8 Ylg
abbrev sT (x0:Za) (x1:Zb) (r:Za×Int):Y:=(17,[.agg (Za.enc x0),.agg (Zb.enc x1)],.AX [.agg (Za.ow r.1),il r.2],un 2)
theorem Zyk {x0 x1 r} {A4:Za->Int->Option (Za×Int)} (AW:∀{Ad v0},A4 Ad v0=some r->CS (sT x0 x1 r) Tryz.f17 [1,1,1,1,0,0] [(3,pt 1),(4,pt 2),(6,pt 11),(7,il v0)] ([bx 1 (Zb.enc x1)]++Za.bk Za.z0 3++[bx 2 (Za.rl Za.z0 3)]++Za.bk Ad 12++[bx 11 (Za.rl Ad 12)])) {Ad v0 v1}:Ud x0 x1 A4 Ad v0 v1=some r->CS (sT x0 x1 r) Tryz.f17 [1,1,1,1,0,0,0,0,1] [(3,pt 1),(4,pt 2),(6,pt 11),(7,il v0),(28,bl v1)] ([bx 1 (Zb.enc x1)]++Za.bk Za.z0 3++[bx 2 (Za.rl Za.z0 3)]++Za.bk Ad 12++[bx 11 (Za.rl Ad 12)]):=
 st<|it (jk 8<|jw (Za.so Ad)<|br Yir λ{r0}=>jw (Za.sc Za.z0)<|jw (Za.sc r0.1)<|cx (A1 1 11++Za.ff 12 2 2048) 7 AW)<|jk 8<|jw (Za.so Ad)<|rt
theorem Yqx {x0 x1 r}:∀{m Ad v0},RD x0 x1 m Ad v0=some r->CS (sT x0 x1 r) Tryz.f17 [1,1,1,1,0,0] [(3,pt 1),(4,pt 2),(6,pt 11),(7,il v0)] ([bx 1 (Zb.enc x1)]++Za.bk Za.z0 3++[bx 2 (Za.rl Za.z0 3)]++Za.bk Ad 12++[bx 11 (Za.rl Ad 12)]):=by
 intro m
 induction m with
 | zero=>intro Ad v0 h;cases h
 | succ m ih=>exactλ{Ad} {v0}=>st<|it (jk 9<|jw (Za.so Ad)<|br Y00<|jk 2<|it (jk 7<|jw (Za.sc Za.z0)<|jw (Za.sc Ad)<|cx (A1 1 19) 4 (Zyk ih))<|jk 3<|br Yu8<|jk 4<|jw (Za.sc Za.z0)<|jw (Za.sc Ad)<|cx (A1 1 19) 4 (Zyk ih))<|jk 5<|jw (Za.sc Za.z0)<|jw (Za.sc Ad)<|cx (A1 1 19) 4 (Zyk ih)
theorem Y7d {x0 x1 r}  : oG x0 x1=some r->Zq Tryz.prog Mo (sT x0 x1 r):=
 fK Tryz.func17<|br Z77 λ{r3}=>br Ye2<|it (jk 8<|jw (Za.so r3)<|rt)<|jw (Za.sc r3)<|cx (fz 1 1 1024++fz 2 1 2048++fz 11 2 2048++Za.ff 12 2 1024) 13 Yqx
abbrev Yis (x0:Za) (r:Bool):Y:=(169,[.agg (Za.enc x0)],bl r,un 1)
theorem Yn7 {x0 r}:∀{m v0},oH x0 m v0=some r->CS (Yis x0 r) Tryz.f169 [1,0,1,0] [(1,pt 1),(3,il v0)] [bx 1 (Za.enc x0)]:=by
 intro m
 induction m with
 | zero=>intro v0 h;cases h
 | succ m ih=>exact st<|js Zh.enc x0.m<|it (bb Zh.enc λ{a0}=>js Zj.enc a0.queue<|it rt<|cx (A1 1 1) 14 ih)<|br Ye2<|rt
theorem Y2j {x0 r}  : oI x0=some r->Zq Tryz.prog Mo (Yis x0 r):=
 fK Tryz.func169<|cx (fz 1 1 0) 6 Yn7
abbrev sU (x0:List Zt) (r:Zf×Int):Y:=(170,[.tr (x0.map Zt.enc)],.AX [.agg (Zf.ow r.1),il r.2],un 1)
theorem Z9v {x0 r} {A4:Zf->Int->Option (Zf×Int)} (AW:∀{Ad v0},A4 Ad v0=some r->CS (sU x0 r) Tryz.f170 [1,1,0,1,0] [(0,.tr (x0.map Zt.enc)),(2,pt 1),(4,pt 5),(5,il v0)] (Zf.bk Zf.z0 2++[bx 1 (Zf.rl Zf.z0 2)]++Zf.bk Ad 6++[bx 5 (Zf.rl Ad 6)])) {Ad At v0 v1}:oJ x0 A4 Ad At v0 v1=some r->CS (sU x0 r) Tryz.f170 [1,1,0,1,0,0,1,0,0,1,1,0,1] [(0,.tr (x0.map Zt.enc)),(2,pt 1),(4,pt 5),(5,il v0),(6,pt 9),(63,bl v1)] (Zf.bk Zf.z0 2++[bx 1 (Zf.rl Zf.z0 2)]++Zf.bk Ad 6++[bx 5 (Zf.rl Ad 6)]++Zf.bk At 10++[bx 9 (Zf.rl At 10)]):=
 st<|it (jk 3<|jw (Zf.so Ad)<|rt)<|jw (Zf.sc Zf.z0)<|jw (Zf.sc At)<|cx (A1 1 5++fz 6 1 10++fz 7 1 11++fz 8 1 12) 5 AW
theorem Yq6 {x0 r}:∀{m Ad v0},bD x0 m Ad v0=some r->CS (sU x0 r) Tryz.f170 [1,1,0,1,0] [(0,.tr (x0.map Zt.enc)),(2,pt 1),(4,pt 5),(5,il v0)] (Zf.bk Zf.z0 2++[bx 1 (Zf.rl Zf.z0 2)]++Zf.bk Ad 6++[bx 5 (Zf.rl Ad 6)]):=by
 intro m
 induction m with
 | zero=>intro Ad v0 h;cases h
 | succ m ih=>exactλ{Ad} {v0}=>st<|js Zt.enc x0<|it (bn λW9=>jb Zt.enc W9<|it (jw (Zf.sc Zf.z0)<|jw (Zf.sc Ad)<|cx (A1 1 8) 16 ih)<|jb Zt.enc W9<|jb Zt.enc W9<|jb Zt.enc W9<|jb Zt.enc W9<|jk 3<|jw (Zf.so Ad)<|br Z7x λ{r0}=>jb Zt.enc W9<|it (jk 7<|jw (Zf.sc Zf.z0)<|jw (Zf.sc Ad)<|jw (Zf.sc r0.1)<|cx (A1 1 8++fz 9 4 26624++Zf.ff 10 4 21504) 18 (Z9v ih))<|jk 3<|jb Zt.enc W9<|jk 4<|jw (Zf.sc Zf.z0)<|jw (Zf.sc Ad)<|jw (Zf.sc r0.1)<|cx (A1 1 8++fz 9 4 26624++Zf.ff 10 4 21504) 18 (Z9v ih))<|jk 3<|jw (Zf.so Ad)<|rt
theorem Y46 {x0 r}  : oK x0=some r->Zq Tryz.prog Mo (sU x0 r):=
 fK Tryz.func170<|br Yfm λ{r1}=>jw (Zf.sc r1)<|cx (fz 1 1 0++fz 5 2 1024++Zf.ff 6 2 0) 8 Yq6
abbrev Yd1 (x0:Zt) (r:ByteArray):Y:=(172,[.agg (Zt.enc x0)],ss r,un 1)
theorem Z47 {x0 r} {v0}:bE x0 v0=some r->CS (Yd1 x0 r) Tryz.f172 [1,1,1] [(1,pt 1),(3,ss v0)] [bx 1 (Zt.enc x0)]:=
 st<|br Ks<|jl<|bo Yd<|br Ks<|jl<|jl<|jl<|bo Yd<|bo Yd<|bo Yd<|br Ks<|jl<|jl<|bo Yd<|bo Yd<|br Ks<|jl<|jl<|bo Yd<|bo Yd<|br Z3o<|jl<|bo Yd<|rt
theorem Yyb {x0 r}  : oL x0=some r->Zq Tryz.prog Mo (Yd1 x0 r):=
 fK Tryz.func172<|it (cx (fz 1 1 0) 9 Z47)<|cx (fz 1 1 0) 9 Z47
abbrev Y6t (x0:Zz) (x1:ByteArray) (r:Zz×ByteArray):Y:=(106,[.agg (Zz.ow x0),ss x1],.AX [.agg (Zz.ow r.1),ss r.2],un 2)
theorem Y4g {x0 x1 r}  : oM x0 x1=some r->Zq Tryz.prog Mo (Y6t x0 x1 r):=
 fK Tryz.func106<|it (jk 1<|je Zd.enc x0.c.Ab<|br Y4v λ{r0}=>it (jk 12<|jw (Zz.so x0)<|rt)<|jk 12<|je Zd.enc x0.c.Ab<|jw (Zb.so x0.s)<|jw (Za.so r0.1)<|rt)<|it (jk 1<|je Zd.enc x0.c.Ab<|br Z49<|it (jk 12<|jw (Zz.so x0)<|rt)<|jk 12<|jw (Zz.so x0)<|rt)<|jk 1<|jo (show 5=([(Ze [115,116,101,112]),(Ze [111,117,116]),(Ze [108,111,103]),(Ze [105,100,108,101]),(Ze [111,107])].map Zp).length from rfl)<|br Yac<|it (jk 12<|jw (Zz.so x0)<|rt)<|it (jk 12<|jw (Zz.so x0)<|rt)<|it (jk 11<|jw (Za.so x0.b)<|jw (Zb.so x0.s)<|br Y2d λ{r3}=>it (jk 12<|jw (Zz.so x0)<|rt)<|br Yxy<|jk 12<|je Zd.enc x0.c.Ab<|jw (Zb.so x0.s)<|jw (Za.so r3.1)<|rt)<|it (jk 11<|jw (Za.so x0.b)<|jw (Zb.so x0.s)<|br Y7d λ{r5}=>br Ks<|jk 12<|je Zd.enc x0.c.Ab<|jw (Zb.so x0.s)<|jw (Za.so r5.1)<|rt)<|it (jk 8<|jw (Za.so x0.b)<|br Y2j<|it (jk 12<|jw (Zz.so x0)<|rt)<|jk 12<|jw (Zz.so x0)<|rt)<|it (jk 1<|je Zt.enc x0.b.log<|br Y46<|br UM<|jk 12<|jw (Zz.so x0)<|rt)<|js Zt.enc x0.b.log<|it (jk 12<|jw (Zz.so x0)<|rt)<|js Zt.enc x0.b.log<|bd Zt.enc<|br Yyb<|jl<|bo Yd<|js Zt.enc x0.b.log<|br Ks<|jl<|jk 12<|bo Yd<|jw (Zz.so x0)<|rt
abbrev OT (x0:ByteArray) (r:Int×Bool):Y:=(39,[ss x0],.AX [il r.1,bl r.2],un 1)
theorem Z64 {x0 r} {A4:Int->Int->Int->Option (Int×Bool)} (AW:∀{v0 v1 v2},A4 v0 v1 v2=some r->CS (OT x0 r) Tryz.f39 [1,1,1,0,1,0] [(0,ss x0),(4,il v0),(5,il v1),(6,il v2)] []) {v0 v1 v2 v3}:bF x0 A4 v0 v1 v2 v3=some r->CS (OT x0 r) Tryz.f39 [1,1,1,0,1,0,0,1,0,0,1] [(0,ss x0),(4,il v0),(5,il v1),(6,il v2),(26,bl v3)] []:=
 st<|it (bn λ{a0} W9=>jp (.val (.lit (.int .u8 a0)))<|jo (Ic W9)<|cx [] 6 AW)<|cx [] 4 AW
theorem Z51 {x0 r} {v0 v1}:RE x0 v0 v1=some r->CS (OT x0 r) Tryz.f39 [1,1,1,1,1] [(0,ss x0),(4,il v0),(5,il v1)] []:=
 st<|it (jk 9<|rt)<|jk 3<|it (jk 5<|rt)<|jk 1<|br Ks<|jk 3<|it rt<|rt
theorem Z50 {x0 r} {v0 v1 v4}:Wr x0 v0 v1 v4=some r->CS (OT x0 r) Tryz.f39 [1,1,1,1,0,1] [(0,ss x0),(4,il v0),(5,il v1),(44,bl v4)] []:=
 st<|it (cx [] 2 Z51)<|cx [] 2 Z51
theorem Z68 {x0 r} {A4:Int->Int->Int->Option (Int×Bool)} (AW:∀{v0 v1 v2},A4 v0 v1 v2=some r->CS (OT x0 r) Tryz.f39 [1,1,1,0,1,0] [(0,ss x0),(4,il v0),(5,il v1),(6,il v2)] []) {v0 v1 v2 v5}:Ue x0 A4 v0 v1 v2 v5=some r->CS (OT x0 r) Tryz.f39 [1,1,1,0,1,0,0,0,1] [(0,ss x0),(4,il v0),(5,il v1),(6,il v2),(14,bl v5)] []:=
 st<|it (bn λ{a1} BU=>jp (.val (.lit (.int .u8 a1)))<|jo (Ic BU)<|it (jk 2<|jp (.val (.lit (.int .u8 a1)))<|jk 2<|jo (Ic BU)<|cx [] 6 (Z64 AW))<|jk 4<|cx [] 6 (Z64 AW))<|it (jk 1<|bn λ{a2} Dd=>jp (.val (.lit (.int .u8 a2)))<|jk 2<|jo (Ic Dd)<|cx [] 8 Z50)<|jk 3<|cx [] 8 Z50
theorem Ynj {x0 r}:∀{m v0 v1 v2},oO x0 m v0 v1 v2=some r->CS (OT x0 r) Tryz.f39 [1,1,1,0,1,0] [(0,ss x0),(4,il v0),(5,il v1),(6,il v2)] []:=by
 intro m
 induction m with
 | zero=>intro v0 v1 v2 h;cases h
 | succ m ih=>exact st<|it (jk 2<|cx [] 4 (Z68 ih))<|jk 2<|cx [] 4 (Z68 ih)
theorem OU {x0 r}  : J9 x0=some r->Zq Tryz.prog Mo (OT x0 r):=
 fK Tryz.func39<|cx [] 10 Ynj
abbrev sV (x0:ByteArray) (r:Zg×Bool):Y:=(15,[ss x0],.AX [.agg [.own 83 (r.1.Ab.map Zd.enc),il r.1.Av,il r.1.As,il r.1.An,il r.1.Ap,il r.1.Al],bl r.2],un 1)
theorem Z4i {x0 r} {A4:Zg->(List ByteArray)->Int->Option (Zg×Bool)} (AW:∀{Ad v0 v1},A4 Ad v0 v1=some r->CS (sV x0 r) Tryz.f15 [1,1,1,1,1,1,1,1,1,0,1,0] [(0,ss x0),(2,pt 1),(4,.tr (v0.map Zp)),(5,pt 3),(6,il v1)] [rx 2 83 ([].map Zd.enc),bx 1 [sq 2 ([].map Zd.enc).length,il 0,il 0,il 0,il 0,il 0],rx 4 83 (Ad.Ab.map Zd.enc),bx 3 [sq 4 (Ad.Ab.map Zd.enc).length,il Ad.Av,il Ad.As,il Ad.An,il Ad.Ap,il Ad.Al]]) {Ad At v0 v1}:RG x0 A4 Ad At v0 v1=some r->CS (sV x0 r) Tryz.f15 [1,1,1,1,1,1,1,1,1,0,1,0,0,1,0,0,1,1,1,1] [(0,ss x0),(2,pt 1),(4,.tr (v0.map Zp)),(5,pt 3),(6,il v1),(8,pt 5)] [rx 2 83 ([].map Zd.enc),bx 1 [sq 2 ([].map Zd.enc).length,il 0,il 0,il 0,il 0,il 0],rx 4 83 (Ad.Ab.map Zd.enc),bx 3 [sq 4 (Ad.Ab.map Zd.enc).length,il Ad.Av,il Ad.As,il Ad.An,il Ad.Ap,il Ad.Al],bx 5 (Zd.enc At)]:=
 st<|bn λ{z0} Xe=>jt Zd.enc [At] z0<|jk 1<|ja 4 Zd.A9 At<|jx Zd.enc Xe<|je Zd.enc z0<|jn Zd.enc []<|jn Zd.enc z0<|cx (A1 1 3++fz 4 2 4096) 3 AW
theorem Ykt {x0 r}:∀{m Ad v0 v1},Jv x0 m Ad v0 v1=some r->CS (sV x0 r) Tryz.f15 [1,1,1,1,1,1,1,1,1,0,1,0] [(0,ss x0),(2,pt 1),(4,.tr (v0.map Zp)),(5,pt 3),(6,il v1)] [rx 2 83 ([].map Zd.enc),bx 1 [sq 2 ([].map Zd.enc).length,il 0,il 0,il 0,il 0,il 0],rx 4 83 (Ad.Ab.map Zd.enc),bx 3 [sq 4 (Ad.Ab.map Zd.enc).length,il Ad.Av,il Ad.As,il Ad.An,il Ad.Ap,il Ad.Al]]:=by
 intro m
 induction m with
 | zero=>intro Ad v0 v1 h;cases h
 | succ m ih=>exactλ{Ad} {v0} {v1}=>st<|js Zp v0<|it (bb Zp<|br Sq λ{r0}=>bb Zp<|br OU<|js Zp r0<|it (bb Zp<|br OU<|bb Zp<|br OU<|jn Zd.enc []<|jn Zd.enc Ad.Ab<|cx (A1 1 4++fz 5 4 1024) 23 (Z4i ih))<|jn Zd.enc []<|jn Zd.enc Ad.Ab<|cx (A1 1 4++fz 5 4 1024) 19 (Z4i ih))<|jk 1<|je Zd.enc Ad.Ab<|br Z49<|it (jk 3<|rt)<|jk 2<|it rt<|jk 1<|je Zd.enc Ad.Ab<|rt
theorem Yxx {x0 r}  : O8 x0=some r->Zq Tryz.prog Mo (sV x0 r):=
 fK Tryz.func15<|br Sq λ{r5}=>js Zp r5<|it rt<|bb Zp<|br OU<|bb Zp<|br OU<|bb Zp<|br OU<|bb Zp<|br OU<|bb Zp<|br OU<|cx (fz 1 1 0++fz 3 4 1024) 25 Ykt
abbrev UN (x0:ByteArray) (r:Int):Y:=(61,[ss x0],il r,un 1)
theorem Z1f {x0 r} {A4:ByteArray->Int->Int->Int->Option Int} (AW:∀{v0 v1 v2 v3},A4 v0 v1 v2 v3=some r->CS (UN x0 r) Tryz.f61 [1,1,1,1,0,1,0] [(0,ss v0),(3,il v1),(4,il v2),(5,il v3)] []) {v0 v1 v2 v3 v4}:O9 x0 A4 v0 v1 v2 v3 v4=some r->CS (UN x0 r) Tryz.f61 [1,1,1,1,0,1,0,0,1,0,0,0,1] [(0,ss v0),(3,il v1),(4,il v2),(5,il v3),(36,bl v4)] []:=
 st<|it rt<|bn λ{a0} W9=>jp (.val (.lit (.int .u8 a0)))<|jo (Ic W9)<|cx [] 5 AW
theorem Yuq {x0 r}:∀{m v0 v1 v2 v3},OA x0 m v0 v1 v2 v3=some r->CS (UN x0 r) Tryz.f61 [1,1,1,1,0,1,0] [(0,ss v0),(3,il v1),(4,il v2),(5,il v3)] []:=by
 intro m
 induction m with
 | zero=>intro v0 v1 v2 v3 h;cases h
 | succ m ih=>exact st<|it (bn λ{a1} BU=>jp (.val (.lit (.int .u8 a1)))<|jo (Ic BU)<|it (jk 8<|cx [] 11 (Z1f ih))<|jk 2<|jp (.val (.lit (.int .u8 a1)))<|jk 2<|jo (Ic BU)<|it (jk 3<|cx [] 11 (Z1f ih))<|jk 3<|cx [] 11 (Z1f ih))<|rt
theorem Ycu {x0 r} {v0 v1}:RH x0 v0 v1=some r->CS (UN x0 r) Tryz.f61 [1,1,1] [(0,ss v0),(3,il v1)] []:=
 st<|cx [] 6 Yuq
theorem Ycl {x0 r} {v5}:MU x0 v5=some r->CS (UN x0 r) Tryz.f61 [1,1,0,1] [(0,ss x0),(3,il 1),(13,bl v5)] []:=
 st<|it (bn λ{s0} Qr=>jp (.val (.lit (.string s0)))<|jo (MK Qr)<|cx [] 4 Ycu)<|cx [] 2 Ycu
theorem Yfu {x0 r}  : OB x0=some r->Zq Tryz.prog Mo (UN x0 r):=
 fK Tryz.func61<|it (jk 1<|bn λ{a2} Dd=>jp (.val (.lit (.int .u8 a2)))<|jk 2<|jo (Ic Dd)<|cx [] 7 Ycl)<|jk 3<|cx [] 7 Ycl
abbrev Yiz (x0:List ByteArray) (r:List Int):Y:=(24,[.tr (x0.map Zp)],.own 3 (r.map Zc),un 1)
end Go.Proofs.YthdljdelfgofdaaGreatDoor.Ev
