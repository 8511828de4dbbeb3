/- A part of the proof of FnDesk: see the text YthdljdelfgofdaaGreatDoorLawFnDesk for what is proved and its conditions. Conditions here: those in each line. -/
import Derived.Test.YthdljdelfgofdaaGreatDoorA5
set_option linter.unusedSimpArgs false
set_option linter.unusedVariables false
set_option linter.unusedSectionVars false
namespace Go.Proofs.YthdljdelfgofdaaGreatDoor.Ev
open Go Go.Proofs
variable [Anchor] [BG]
theorem Yni {x0 r}:∀{m v0 v1},Ug x0 m v0 v1=some r->CS (Yiz x0 r) Tryz.f24 [1,1,0,1,0] [(0,.tr (x0.map Zp)),(3,sq 1 (v0.map Zc).length),(4,il v1)] [rx 1 3 (v0.map Zc)]:=by
 intro m
 induction m with
 | zero=>intro v0 v1 h;cases h
 | succ m ih=>exactλ{v0} {v1}=>st<|js Zp x0<|it (bb Zp<|br Yfu λ{r0}=>bn λ{z0} Xe=>jt Zc [r0] z0<|jk 1<|ja 1 Jo r0<|jx Zc Xe<|jn Zc z0<|je Zc z0<|cx (fz 1 3 7168) 11 ih)<|jk 1<|je Zc v0<|rt
theorem Z74 {x0 r}  : RI x0=some r->Zq Tryz.prog Mo (Yiz x0 r):=
 fK Tryz.func24<|jp (.num ([].map Zc).length 0 0 [])<|jo (show 0=([].map Zc).length from rfl)<|cx (fz 1 2 0) 8 Yni
abbrev sW (x0:Zj) (r:ByteArray):Y:=(58,[.agg (Zj.enc x0)],ss r,un 1)
theorem Ynh {x0 r}:∀{m v0 v1},Uh x0 m v0 v1=some r->CS (sW x0 r) Tryz.f58 [1,1,1,1,1,1,0,1,0] [(1,pt 1),(3,ss v0),(4,il v1)] [bx 1 (Zj.enc x0)]:=by
 intro m
 induction m with
 | zero=>intro v0 v1 h;cases h
 | succ m ih=>exact st<|js Zc x0.Aa<|it (jl<|bo Yd<|bb Zc<|br Ks<|jl<|bo Yd<|cx (A1 1 1) 11 ih)<|rt
theorem Z67 {x0 r} {v0}:oQ x0 v0=some r->CS (sW x0 r) Tryz.f58 [1,1,1,1,1,1] [(1,pt 1),(3,ss v0)] [bx 1 (Zj.enc x0)]:=
 st<|cx (A1 1 1) 4 Ynh
theorem Z5p {x0 r} {v0}:bI x0 v0=some r->CS (sW x0 r) Tryz.f58 [1,1,1,1] [(1,pt 1),(3,ss v0)] [bx 1 (Zj.enc x0)]:=
 st<|jl<|bo Yd<|bd Zp<|jl<|jl<|bo Yd<|bo Yd<|bd Zp<|jl<|jl<|bo Yd<|bo Yd<|br Ks<|jl<|bo Yd<|it (jl<|bo Yd<|cx (A1 1 1) 7 Z67)<|cx (A1 1 1) 7 Z67
theorem Z7q {x0 r}  : RJ x0=some r->Zq Tryz.prog Mo (sW x0 r):=
 fK Tryz.func58<|br Yes<|it rt<|it (cx (fz 1 1 0) 14 Z5p)<|cx (fz 1 1 0) 14 Z5p
abbrev sX (x0:ByteArray) (r:Zj×Bool):Y:=(25,[ss x0],.AX [.agg [bl r.1.write,il r.1.addr,il r.1.size,il r.1.Az,bl r.1.lock,.own 3 (r.1.Aa.map Zc)],bl r.2],un 1)
theorem Yls {x0 r}:∀{m Ad v0 v1},Ja x0 m Ad v0 v1=some r->CS (sX x0 r) Tryz.f25 [1,1,1,1,1,1,1,0,1,0] [(0,ss x0),(2,pt 1),(4,.tr (v0.map Zp)),(5,pt 3),(6,il v1)] [rx 2 3 ([].map Zc),bx 1 [bl false,il 0,il 0,il 0,bl false,sq 2 ([].map Zc).length],rx 4 3 (Ad.Aa.map Zc),bx 3 [bl Ad.write,il Ad.addr,il Ad.size,il Ad.Az,bl Ad.lock,sq 4 (Ad.Aa.map Zc).length]]:=by
 intro m
 induction m with
 | zero=>intro Ad v0 v1 h;cases h
 | succ m ih=>exactλ{Ad} {v0} {v1}=>st<|js Zp v0<|it (bb Zp<|br Yfu λ{r0}=>bn λ{z0} Xe=>jt Zc [r0] z0<|jk 1<|ja 1 Jo r0<|jx Zc Xe<|je Zc z0<|jn Zc []<|jn Zc z0<|cx (A1 1 3++fz 4 3 8192) 11 ih)<|jk 1<|je Zc Ad.Aa<|br Z7q<|it rt<|jk 1<|je Zc Ad.Aa<|rt
theorem Z5m {x0 r} {Ad v0}:Ui x0 Ad v0=some r->CS (sX x0 r) Tryz.f25 [1,1,1,1,1,1,1] [(0,ss x0),(2,pt 1),(4,.tr (v0.map Zp)),(5,pt 3)] [rx 2 3 ([].map Zc),bx 1 [bl false,il 0,il 0,il 0,bl false,sq 2 ([].map Zc).length],rx 4 3 (Ad.Aa.map Zc),bx 3 [bl Ad.write,il Ad.addr,il Ad.size,il Ad.Az,bl Ad.lock,sq 4 (Ad.Aa.map Zc).length]]:=
 st<|jn Zc []<|jn Zc Ad.Aa<|cx (A1 1 4) 4 Yls
theorem Z5t {x0 r} {Ad v0 v2}:OC x0 Ad v0 v2=some r->CS (sX x0 r) Tryz.f25 [1,1,1,1,1,1,0,1] [(0,ss x0),(2,pt 1),(4,.tr (v0.map Zp)),(5,pt 3),(43,bl v2)] [rx 2 3 ([].map Zc),bx 1 [bl false,il 0,il 0,il 0,bl false,sq 2 ([].map Zc).length],rx 4 3 (Ad.Aa.map Zc),bx 3 [bl Ad.write,il Ad.addr,il Ad.size,il Ad.Az,bl Ad.lock,sq 4 (Ad.Aa.map Zc).length]]:=
 st<|it (bn λ{s0} Qr=>jp (.num (1:Int).toNat ((v0.length:Int):Int).toNat 0 (s0.map Zp))<|jo (DV Qr).1<|jo (G7 Zp v0)<|jo (Em Zp Qr)<|jo (CM 1 Q8 v0)<|jo (EJ Zp Qr)<|jn Zc []<|jn Zc Ad.Aa<|cx (A1 1 4) 4 Z5m)<|jn Zc []<|jn Zc Ad.Aa<|cx (A1 1 4) 2 Z5m
theorem Y1y {x0 r}  : Uj x0=some r->Zq Tryz.prog Mo (sX x0 r):=
 fK Tryz.func25<|br Sq λ{r2}=>js Zp r2<|it rt<|bb Zp<|bb Zp<|jk 1<|jo (show 3=([(Ze [98,121,116,101]),(Ze [104,97,108,102]),(Ze [119,111,114,100])].map Zp).length from rfl)<|br Yac<|bb Zp<|jk 1<|jo (show 4=([(Ze [111,110,101]),(Ze [102,111,117,114]),(Ze [119,114,97,112]),(Ze [101,105,103,104,116])].map Zp).length from rfl)<|br Yac<|bb Zp<|br Yfu<|bn λ{s1} Ch=>jp (.num (4:Int).toNat ((r2.length:Int):Int).toNat 0 (s1.map Zp))<|jo (DV Ch).1<|jo (G7 Zp r2)<|jo (Em Zp Ch)<|jo (CM 1 Q8 r2)<|jo (EJ Zp Ch)<|js Zp s1<|it (jk 1<|bb Zp<|jk 3<|cx (fz 1 1 0++fz 3 4 15360) 18 Z5t)<|jk 4<|cx (fz 1 1 0++fz 3 4 15360) 18 Z5t
abbrev Yh3 (x0:ByteArray) (x1:List Int) (r:ByteArray):Y:=(63,[ss x0,.tr (x1.map Zc)],ss r,un 2)
theorem Ymp {x0 x1 r}:∀{m v0 v1},bJ x0 x1 m v0 v1=some r->CS (Yh3 x0 x1 r) Tryz.f63 [1,1,1,0,1,0] [(1,.tr (x1.map Zc)),(5,ss v0),(6,il v1)] []:=by
 intro m
 induction m with
 | zero=>intro v0 v1 h;cases h
 | succ m ih=>exact st<|js Zc x1<|it (jl<|bo Yd<|bb Zc<|br Ks<|jl<|bo Yd<|cx [] 11 ih)<|jl<|bo Yd<|rt
theorem Yi3 {x0 x1 r}  : bK x0 x1=some r->Zq Tryz.prog Mo (Yh3 x0 x1 r):=
 fK Tryz.func63<|js Zc x1<|it rt<|cx [] 13 Ymp
abbrev Z9a (x0:Zb) (r:ByteArray):Y:=(26,[.agg (Zb.enc x0)],ss r,un 1)
theorem Ydt {x0 r}:∀{m v0 v1},bL x0 m v0 v1=some r->CS (Z9a x0 r) Tryz.f26 [1,1,0,1,0] [(1,pt 1),(3,ss v0),(4,il v1)] [bx 1 (Zb.enc x0)]:=by
 intro m
 induction m with
 | zero=>intro v0 v1 h;cases h
 | succ m ih=>exact st<|js Zm.enc x0.Am<|it (bn λW9=>jb Zm.enc W9<|br Z7q<|it rt<|jl<|bo Yd<|jb Zm.enc W9<|br Ks<|jl<|jl<|bo Yd<|bo Yd<|jb Zm.enc W9<|br Ks<|jl<|jl<|jl<|jl<|bo Yd<|bo Yd<|bo Yd<|bo Yd<|cx (A1 1 1) 18 ih)<|rt
theorem Yrd {x0 r}  : oS x0=some r->Zq Tryz.prog Mo (Z9a x0 r):=
 fK Tryz.func26<|br Yi3<|br Yi3<|jl<|bo Yd<|cx (fz 1 1 0) 8 Ydt
abbrev Z81 (x0:ByteArray) (r:Zb×Bool):Y:=(7,[ss x0],.AX [.agg (Zb.ow r.1),bl r.2],un 1)
theorem Yf8 {x0 r}:∀{m Ad v0 v1},RM x0 m Ad v0 v1=some r->CS (Z81 x0 r) Tryz.f7 [1,1,1,0,1,0] [(0,ss x0),(2,pt 1),(4,pt 5),(5,.tr (v0.map Zp)),(6,il v1)] (Zb.bk Zb.z0 2++[bx 1 (Zb.rl Zb.z0 2)]++Zb.bk Ad 6++[bx 5 (Zb.rl Ad 6)]):=by
 intro m
 induction m with
 | zero=>intro Ad v0 v1 h;cases h
 | succ m ih=>exactλ{Ad} {v0} {v1}=>st<|js Zp v0<|it (bn λW9=>jb Zp W9<|br Sq λ{r0}=>bn λBU=>jb Zp BU<|it (bn λ{s0} Qr=>jp (.num (1:Int).toNat ((r0.length:Int):Int).toNat 0 (s0.map Zp))<|jo (DV Qr).1<|jo (G7 Zp r0)<|jo (Em Zp Qr)<|jo (CM 1 Q8 r0)<|jo (EJ Zp Qr)<|br Z74 λ{r1}=>jw (Zb.sc Zb.z0)<|jw (Zb.sc {Ad with waits:=r1})<|cx (A1 1 6++fz 7 5 2048++A1 8 1) 18 ih)<|jb Zp BU<|it (bn λ{s1} Ch=>jp (.num (1:Int).toNat ((r0.length:Int):Int).toNat 0 (s1.map Zp))<|jo (DV Ch).1<|jo (G7 Zp r0)<|jo (Em Zp Ch)<|jo (CM 1 Q8 r0)<|jo (EJ Zp Ch)<|br Z74 λ{r2}=>jw (Zb.sc Zb.z0)<|jw (Zb.sc {Ad with A3:=r2})<|cx (A1 1 7++fz 8 6 2048) 21 ih)<|js Zp r0<|it (bn λ{s2} Dv=>jp (.num (1:Int).toNat (3:Int).toNat 0 (s2.map Zp))<|jo (DV Dv).1<|jo (DV Dv).2<|jo (Em Zp Dv)<|jo (CM 1 Q8 r0)<|jo (EJ Zp Dv)<|br Z74<|jb Zp W9<|jb Zp W9<|jb Zp BU<|bb Zp<|bb Zp<|bn λ{s3} hs3=>jp (.val (.lit (.string s3)))<|jo (MK hs3)<|br Y1y λ{r4}=>bd Zc λ{a4}=>bd Zc λ{a5}=>jk 1<|bn λ{z0} Xe=>jt Zm.enc [(Zm.mk a4 a5 r4.1)] z0<|jk 1<|je Zc r4.1.Aa<|ja 8 Zm.A9 (Zm.mk a4 a5 r4.1)<|jx Zm.enc Xe<|je Zm.enc z0<|jw (Zb.sc Zb.z0)<|jw (Zb.sc {Ad with Am:=z0})<|cx (A1 1 5++fz 6 9 11264++A1 7 2) 28 ih)<|jw (Zb.sc Zb.z0)<|jw (Zb.sc Ad)<|cx (A1 1 8) 24 ih)<|jk 3<|jw (Zb.so Ad)<|br Yrd<|it rt<|jk 3<|jw (Zb.so Ad)<|rt
theorem Ypk {x0 r}  : RN x0=some r->Zq Tryz.prog Mo (Z81 x0 r):=
 fK Tryz.func7<|br Sq<|cx (fz 1 1 0++fz 5 2 1024) 10 Yf8
abbrev Yit (x0:Zz) (x1:ByteArray) (r:Zz×ByteArray):Y:=(53,[.agg (Zz.ow x0),ss x1],.AX [.agg (Zz.ow r.1),ss r.2],un 2)
theorem Zwe {x0 x1 r} {v0 v1}:Uk x0 x1 v0 v1=some r->CS (Yit x0 x1 r) Tryz.f53 [1,1,1,0,1,0,1,1,1] [(1,ss x1),(2,pt 1),(4,pt 14),(6,.tr (v0.map Zp)),(37,bl v1)] (Zz.bk x0 2++[bx 1 (Zz.rl x0 2)]++Zz.bk Zz.z0 15++[bx 14 (Zz.rl Zz.z0 15)]):=
 st<|it (jl<|bo Yd<|br Ypk λ{r0}=>it (jk 12<|jw (Zz.so x0)<|rt)<|bn λW9=>jb Zp W9<|it (jk 12<|je Zd.enc x0.c.Ab<|je Zm.enc x0.s.Am<|je Zc r0.1.waits<|je Zc x0.s.A3<|jw (Za.so x0.b)<|rt)<|jb Zp W9<|it (jk 12<|je Zd.enc x0.c.Ab<|je Zm.enc x0.s.Am<|je Zc x0.s.waits<|je Zc r0.1.A3<|jw (Za.so x0.b)<|rt)<|bn λ{z0} Xe=>jt Zm.enc x0.s.Am z0<|jk 1<|bn λ{z1} DX=>jt Zm.enc r0.1.Am z1<|jk 13<|je Zm.enc x0.s.Am<|jo (Eq.refl (x0.s.Am.map Zm.enc))<|jo (CM 8 Zm.A9 x0.s.Am)<|jo (show 0=([].map Zm.enc).length from rfl)<|jo (FI Zm.enc Xe)<|jo (Hd Zm.enc Xe)<|je Zm.enc z0<|je Zm.enc r0.1.Am<|jo (Eq.refl (r0.1.Am.map Zm.enc))<|jo (CM 8 Zm.A9 r0.1.Am)<|jx Zm.enc DX<|je Zm.enc z1<|je Zd.enc x0.c.Ab<|je Zm.enc z1<|je Zc x0.s.waits<|je Zc x0.s.A3<|jw (Za.so x0.b)<|rt)<|jk 12<|jw (Zz.so x0)<|rt
theorem Y01 {x0 x1 r}  : RO x0 x1=some r->Zq Tryz.prog Mo (Yit x0 x1 r):=
 fK Tryz.func53<|br Sq λ{r1}=>js Zp r1<|it (jk 12<|jw (Zz.so x0)<|br Y4g λ{r2}=>jk 12<|jw (Zz.so r2.1)<|rt)<|bb Zp<|it (bn λ{s0} Qr=>jp (.val (.lit (.string s0)))<|jo (MK Qr)<|br Yxx λ{r3}=>it (jk 12<|jw (Zz.so x0)<|rt)<|jk 1<|je Zd.enc r3.1.Ab<|rt)<|it (jw (Zz.sc x0)<|cx (fz 1 1 0++Zz.ff 2 0 0++fz 14 1 1024) 21 Zwe)<|it (jw (Zz.sc x0)<|cx (fz 1 1 0++Zz.ff 2 0 0++fz 14 1 1024) 24 Zwe)<|jw (Zz.sc x0)<|cx (fz 1 1 0++Zz.ff 2 0 0++fz 14 1 1024) 24 Zwe
abbrev sY (x0:ByteArray) (r:ByteArray):Y:=(20,[ss x0],ss r,un 1)
theorem Yx0 {x0 r}:∀{m Ad v0 v1 v2},bM x0 m Ad v0 v1 v2=some r->CS (sY x0 r) Tryz.f20 [1,1,1,1,1,1,0,1,0] [(3,.tr (v0.map Zp)),(4,pt 1),(5,ss v1),(6,il v2)] (Zz.bk Ad 2++[bx 1 (Zz.rl Ad 2)]):=by
 intro m
 induction m with
 | zero=>intro Ad v0 v1 v2 h;cases h
 | succ m ih=>exactλ{Ad} {v0} {v1} {v2}=>st<|js Zp v0<|it (bn λW9=>jb Zp W9<|it (jw (Zz.sc Ad)<|cx (A1 1 13) 16 ih)<|jb Zp W9<|jk 12<|jw (Zz.so Ad)<|br Y01 λ{r0}=>jl<|jl<|bo Yd<|bo Yd<|jw (Zz.sc r0.1)<|cx (A1 1 1++Zz.ff 2 4 5120) 20 ih)<|rt
theorem Yd2 {x0 r} {v0 v3}:Z4o x0 v0 v3=some r->CS (sY x0 r) Tryz.f20 [1,1,1,0,1] [(3,.tr (v0.map Zp)),(30,bl v3)] []:=
 st<|it rt<|cx (fz 1 2 1024) 10 Yx0
theorem Yfg {x0 r} {v0}:RP x0 v0=some r->CS (sY x0 r) Tryz.f20 [1,1,1] [(0,ss x0),(3,.tr (v0.map Zp))] []:=
 st<|it (jk 3<|cx [] 3 Yd2)<|jk 1<|js Zp v0<|jk 2<|cx [] 3 Yd2
theorem Xb7 {x0 r}  : oT x0=some r->Zq Tryz.prog Mo (sY x0 r):=
 fK Tryz.func20<|br Sq λ{r1}=>js Zp r1<|bb Zp<|it (js Zp r1<|bn λ{s0} Qr=>jp (.num (0:Int).toNat ((Y8 (r1.length:Int) 1):Int).toNat 0 (s0.map Zp))<|jo (Eq.refl 0)<|jo (DV Qr).2<|jo (Em Zp Qr)<|jo (CM 1 Q8 r1)<|jo (EJ Zp Qr)<|cx [] 9 Yfg)<|cx [] 9 Yfg
abbrev Yig (x0:List ByteArray) (r:List Int×Bool):Y:=(29,[.tr (x0.map Zp)],.AX [.own 3 (r.1.map Zc),bl r.2],un 1)
theorem Yop {x0 r}:∀{m v0 v1},OE x0 m v0 v1=some r->CS (Yig x0 r) Tryz.f29 [1,1,0,1,0] [(4,sq 1 (v0.map Zc).length),(10,.tr (x0.map Zp)),(11,il (x0.length:Int)),(12,il v1)] [rx 1 3 (v0.map Zc)]:=by
 intro m
 induction m with
 | zero=>intro v0 v1 h;cases h
 | succ m ih=>exactλ{v0} {v1}=>st<|it (bb Zp<|br Ym3 λ{r0}=>it rt<|bn λ{z0} Xe=>jt Zc [r0.1] z0<|jk 1<|ja 1 Jo r0.1<|jx Zc Xe<|jn Zc z0<|je Zc z0<|cx (fz 1 6 3072) 20 ih)<|jk 1<|je Zc v0<|rt
theorem dU {x0 r}  : L2 x0=some r->Zq Tryz.prog Mo (Yig x0 r):=
 fK Tryz.func29<|js Zp x0<|jp (.num ([].map Zc).length 0 0 [])<|jo (show 0=([].map Zc).length from rfl)<|cx (fz 1 2 0) 8 Yop
abbrev Y43 (x0:Int) (x1:Int) (x2:Int) (r:Bool):Y:=(180,[il x0,il x1,il x2],bl r,un 3)
theorem Xh {x0 x1 x2 r}  : Ys x0 x1 x2=some r->Zq Tryz.prog Mo (Y43 x0 x1 x2 r):=
 fK Tryz.func180<|it (jk 3<|rt)<|jk 3<|rt
abbrev Yme (x0:Zg) (r:Int):Y:=(235,[.agg (Zg.enc x0)],il r,un 1)
theorem Z8z {x0 r} {v0}:Zyh x0 v0=some r->CS (Yme x0 r) Tryz.f235 [1,0,1] [(1,pt 1),(12,bl v0)] [bx 1 (Zg.enc x0)]:=
 st<|it rt<|rt
theorem Yoz {x0 r}  : bN x0=some r->Zq Tryz.prog Mo (Yme x0 r):=
 fK Tryz.func235<|br Xh<|it (jk 4<|cx (fz 1 1 0) 5 Z8z)<|jk 2<|br Xh<|jk 2<|cx (fz 1 1 0) 5 Z8z
abbrev Y6z (x0:Zg) (r:Int):Y:=(197,[.agg (Zg.enc x0)],il r,un 1)
theorem Ylu {x0 r}  : bO x0=some r->Zq Tryz.prog Mo (Y6z x0 r):=
 fK Tryz.func197<|br Yoz<|it (jk 5<|rt)<|jk 2<|br Xh<|jk 2<|it rt<|br Yoz<|rt
abbrev Yrp (x0:Zg) (r:Int):Y:=(237,[.agg (Zg.enc x0)],il r,un 1)
theorem Yua {x0 r}:∀{m v0 v1},oU x0 m v0 v1=some r->CS (Yrp x0 r) Tryz.f237 [1,1,0,1,0] [(3,il v0),(7,.tr (x0.Ab.map Zd.enc)),(8,il (x0.Ab.length:Int)),(9,il v1)] []:=by
 intro m
 induction m with
 | zero=>intro v0 v1 h;cases h
 | succ m ih=>exact st<|it (bb Zd.enc<|it (cx [] 16 ih)<|cx [] 16 ih)<|rt
theorem Y8n {x0 r}  : oW x0=some r->Zq Tryz.prog Mo (Yrp x0 r):=
 fK Tryz.func237<|js Zd.enc x0.Ab<|cx [] 8 Yua
abbrev Yp0 (x0:Zg) (r:Int):Y:=(200,[.agg (Zg.enc x0)],il r,un 1)
theorem Yqg {x0 r}  : oX x0=some r->Zq Tryz.prog Mo (Yp0 x0 r):=
 fK Tryz.func200<|br Ylu<|br Y8n<|rt
abbrev Yvg (x0:Zd) (x1:Zg) (r:Bool):Y:=(199,[.agg (Zd.enc x0),.rp true (Zg.enc x1) 0],bl r,un 2)
theorem Yx5 {x0 x1 r}  : oY x0 x1=some r->Zq Tryz.prog Mo (Yvg x0 x1 r):=
 fK Tryz.func199<|br Xh<|it rt<|it (br Yqg<|br Xh<|it (jk 4<|rt)<|jk 2<|br Xh<|jk 2<|rt)<|it (jk 3<|rt)<|jk 3<|rt
abbrev Zcv (x0:List Zd) (Bi:Zg) (r:Int):Y:=(236,[.tr (x0.map Zd.enc),.fn 199 [.rp true (Zg.enc Bi) 0]],il r,un 2)
theorem Ziw {x0 Bi r}:∀{m v0},Xb x0 Bi m v0=some r->CS (Zcv x0 Bi r) Tryz.f236 [1,0,1,0] [(0,.tr (x0.map Zd.enc)),(1,.fn 199 [.rp true (Zg.enc Bi) 0]),(7,il (x0.length:Int)),(8,il v0)] []:=by
 intro m
 induction m with
 | zero=>intro v0 h;cases h
 | succ m ih=>exact st<|it (bb Zd.enc<|br Yx5<|it rt<|cx [] 16 ih)<|rt
theorem Zlz {x0 Bi r}  : K4 x0 Bi=some r->Zq Tryz.prog Mo (Zcv x0 Bi r):=
 fK Tryz.func236<|js Zd.enc x0<|cx [] 6 Ziw
abbrev Zjp (x0:List Zd) (Bi:Zg) (r:Bool):Y:=(198,[.tr (x0.map Zd.enc),.fn 199 [.rp true (Zg.enc Bi) 0]],bl r,un 2)
theorem Zj9 {x0 Bi r}  : Wq x0 Bi=some r->Zq Tryz.prog Mo (Zjp x0 Bi r):=
 fK Tryz.func198<|br Zlz<|rt
abbrev Y47 (x0:Zg) (r:Bool):Y:=(156,[.agg (Zg.enc x0)],bl r,un 1)
theorem UO {x0 r}  : L3 x0=some r->Zq Tryz.prog Mo (Y47 x0 r):=
 fK Tryz.func156<|js Zd.enc x0.Ab<|br Xh<|it (jk 14<|rt)<|jk 2<|br Xh<|jk 2<|it (jk 9<|rt)<|jk 2<|br Xh<|jk 2<|it (jk 4<|rt)<|jk 1<|br Ylu<|jk 2<|it rt<|br Zj9<|rt
abbrev Xey (x0:Int) (r:ByteArray):Y:=(76,[il x0],ss r,un 1)
theorem H9 {x0 r}  : Gg x0=some r->Zq Tryz.prog Mo (Xey x0 r):=
 fK Tryz.func76<|br Yq7<|rt
abbrev Ywz (x0:List Int) (r:List ByteArray):Y:=(125,[.tr (x0.map Zc)],.own 9 (r.map Zp),un 1)
theorem Yvi {x0 r}:∀{m v0 v1},o5 x0 m v0 v1=some r->CS (Ywz x0 r) Tryz.f125 [1,1,0,1,0] [(3,sq 1 (v0.map Zp).length),(7,.tr (x0.map Zc)),(8,il (x0.length:Int)),(9,il v1)] [rx 1 9 (v0.map Zp)]:=by
 intro m
 induction m with
 | zero=>intro v0 v1 h;cases h
 | succ m ih=>exactλ{v0} {v1}=>st<|it (bb Zc<|br H9 λ{r0}=>bn λ{z0} Xe=>jt Zp [r0] z0<|jk 1<|ja 1 Q8 r0<|jx Zp Xe<|jn Zp z0<|je Zp z0<|cx (fz 1 4 4096) 13 ih)<|jk 1<|je Zp v0<|rt
theorem dV {x0 r}  : L4 x0=some r->Zq Tryz.prog Mo (Ywz x0 r):=
 fK Tryz.func125<|js Zc x0<|jp (.num ([].map Zp).length 0 0 [])<|jo (show 0=([].map Zp).length from rfl)<|cx (fz 1 2 0) 8 Yvi
abbrev Ye7 (x0:Zg) (r:ByteArray):Y:=(104,[.agg (Zg.enc x0)],ss r,un 1)
theorem Ykx {x0 r}:∀{m v0 v1},o7 x0 m v0 v1=some r->CS (Ye7 x0 r) Tryz.f104 [1,1,1,0,1,0] [(3,sq 1 (v0.map Zp).length),(23,.tr (x0.Ab.map Zd.enc)),(24,il (x0.Ab.length:Int)),(25,il v1)] [rx 1 9 (v0.map Zp)]:=by
 intro m
 induction m with
 | zero=>intro v0 v1 h;cases h
 | succ m ih=>exactλ{v0} {v1}=>st<|it (bb Zd.enc λ{a0}=>br H9 λ{r0}=>it (jk 1<|jo (show 3=([a0.weight,a0.every,a0.cap].map Zc).length from rfl)<|br dV λ{r1}=>jk 1<|je Zp r1<|br OR λ{r2}=>bn λ{z0} Xe=>jt Zp [r2] z0<|jk 1<|ja 1 Q8 r2<|jx Zp Xe<|jn Zp z0<|je Zp z0<|cx (fz 1 7 3072) 20 ih)<|bn λ{z0} Xe=>jt Zp [r0] z0<|jk 1<|ja 1 Q8 r0<|jx Zp Xe<|jn Zp z0<|je Zp z0<|cx (fz 1 6 3072) 20 ih)<|jk 1<|je Zp v0<|br OR<|rt
theorem Z3z {x0 r}  : RS x0=some r->Zq Tryz.prog Mo (Ye7 x0 r):=
 fK Tryz.func104<|br UO<|it rt<|jk 1<|jo (show 5=([x0.Av,x0.As,x0.An,x0.Ap,x0.Al].map Zc).length from rfl)<|br dV λ{r5}=>js Zd.enc x0.Ab<|jn Zp r5<|cx (fz 1 3 11264) 13 Ykx
abbrev Ss (x0:ByteArray) (r:Zg×Bool):Y:=(102,[ss x0],.AX [.agg [.own 83 (r.1.Ab.map Zd.enc),il r.1.Av,il r.1.As,il r.1.An,il r.1.Ap,il r.1.Al],bl r.2],un 1)
theorem Z26 {x0 r} {A4:Zg->(List ByteArray)->Int->Int->Option (Zg×Bool)} (AW:∀{Ad v1 v2 v3},A4 Ad v1 v2 v3=some r->CS (Ss x0 r) Tryz.f102 [1,1,1,1,1,1,0,1,0] [(0,ss x0),(2,pt 1),(7,pt 3),(49,.tr (v1.map Zp)),(50,il v2),(51,il v3)] [rx 2 83 ([].map Zd.enc),bx 1 [sq 2 ([].map Zd.enc).length,il 0,il 0,il 0,il 0,il 0],rx 4 83 (Ad.Ab.map Zd.enc),bx 3 [sq 4 (Ad.Ab.map Zd.enc).length,il Ad.Av,il Ad.As,il Ad.An,il Ad.Ap,il Ad.Al]]) {Ad v0 v1 v2 v3 v4}:RT x0 A4 Ad v0 v1 v2 v3 v4=some r->CS (Ss x0 r) Tryz.f102 [1,1,1,1,1,1,0,1,0,0,1,1,0,0,1,1,0,1,1,1] [(0,ss x0),(2,pt 1),(7,pt 3),(10,sq 5 (v0.map Zc).length),(49,.tr (v1.map Zp)),(50,il v2),(51,il v3),(78,bl v4)] [rx 2 83 ([].map Zd.enc),bx 1 [sq 2 ([].map Zd.enc).length,il 0,il 0,il 0,il 0,il 0],rx 4 83 (Ad.Ab.map Zd.enc),bx 3 [sq 4 (Ad.Ab.map Zd.enc).length,il Ad.Av,il Ad.As,il Ad.An,il Ad.Ap,il Ad.Al],rx 5 3 (v0.map Zc)]:=
 st<|it (bd Zc λ{a0}=>bd Zc λ{a1}=>bd Zc λ{a2}=>bn λ{z0} Xe=>jt Zd.enc [(Zd.mk a0 true a1 a2)] z0<|jk 1<|ja 4 Zd.A9 (Zd.mk a0 true a1 a2)<|jx Zd.enc Xe<|je Zd.enc z0<|jn Zd.enc []<|jn Zd.enc z0<|cx (A1 1 3++fz 4 2 13312) 5 AW)<|rt
theorem Z3m {x0 r} {A4:Zg->(List ByteArray)->Int->Int->Option (Zg×Bool)} (AW:∀{Ad v1 v2 v3},A4 Ad v1 v2 v3=some r->CS (Ss x0 r) Tryz.f102 [1,1,1,1,1,1,0,1,0] [(0,ss x0),(2,pt 1),(7,pt 3),(49,.tr (v1.map Zp)),(50,il v2),(51,il v3)] [rx 2 83 ([].map Zd.enc),bx 1 [sq 2 ([].map Zd.enc).length,il 0,il 0,il 0,il 0,il 0],rx 4 83 (Ad.Ab.map Zd.enc),bx 3 [sq 4 (Ad.Ab.map Zd.enc).length,il Ad.Av,il Ad.As,il Ad.An,il Ad.Ap,il Ad.Al]]) {Ad v0 v5 v1 v2 v3 v6}:RU x0 A4 Ad v0 v5 v1 v2 v3 v6=some r->CS (Ss x0 r) Tryz.f102 [1,1,1,1,1,1,0,1,0,0,1,1,0,0,1,1,0,1] [(0,ss x0),(2,pt 1),(7,pt 3),(10,sq 5 (v0.map Zc).length),(11,bl v5),(49,.tr (v1.map Zp)),(50,il v2),(51,il v3),(62,bl v6)] [rx 2 83 ([].map Zd.enc),bx 1 [sq 2 ([].map Zd.enc).length,il 0,il 0,il 0,il 0,il 0],rx 4 83 (Ad.Ab.map Zd.enc),bx 3 [sq 4 (Ad.Ab.map Zd.enc).length,il Ad.Av,il Ad.As,il Ad.An,il Ad.Ap,il Ad.Al],rx 5 3 (v0.map Zc)]:=
 st<|it (bd Zc λ{a3}=>bn λ{z1} DX=>jt Zd.enc [(Zd.mk a3 false 0 0)] z1<|jk 1<|ja 4 Zd.A9 (Zd.mk a3 false 0 0)<|jx Zd.enc DX<|je Zd.enc z1<|jn Zd.enc []<|jn Zd.enc z1<|cx (A1 1 3++fz 4 2 7168) 5 AW)<|it (jk 1<|js Zc v0<|jk 2<|jn Zc v0<|jn Zd.enc []<|jn Zd.enc Ad.Ab<|cx (A1 1 5) 3 (Z26 AW))<|jk 3<|jn Zc v0<|jn Zd.enc []<|jn Zd.enc Ad.Ab<|cx (A1 1 5) 3 (Z26 AW)
theorem Yk8 {x0 r}:∀{m Ad v1 v2 v3},Qz x0 m Ad v1 v2 v3=some r->CS (Ss x0 r) Tryz.f102 [1,1,1,1,1,1,0,1,0] [(0,ss x0),(2,pt 1),(7,pt 3),(49,.tr (v1.map Zp)),(50,il v2),(51,il v3)] [rx 2 83 ([].map Zd.enc),bx 1 [sq 2 ([].map Zd.enc).length,il 0,il 0,il 0,il 0,il 0],rx 4 83 (Ad.Ab.map Zd.enc),bx 3 [sq 4 (Ad.Ab.map Zd.enc).length,il Ad.Av,il Ad.As,il Ad.An,il Ad.Ap,il Ad.Al]]:=by
 intro m
 induction m with
 | zero=>intro Ad v1 v2 v3 h;cases h
 | succ m ih=>exactλ{Ad} {v1} {v2} {v3}=>st<|it (bb Zp<|br UH<|br dU λ{r1}=>it (jk 1<|js Zc r1.1<|jk 2<|jn Zc r1.1<|jn Zd.enc []<|jn Zd.enc Ad.Ab<|cx (A1 1 4++fz 5 4 2048) 15 (Z3m ih))<|jk 3<|jn Zc r1.1<|jn Zd.enc []<|jn Zd.enc Ad.Ab<|cx (A1 1 4++fz 5 4 2048) 15 (Z3m ih))<|jk 1<|je Zd.enc Ad.Ab<|br UO<|it (jk 5<|rt)<|jk 2<|je Zd.enc Ad.Ab<|br Z3z<|jk 3<|it rt<|jk 1<|je Zd.enc Ad.Ab<|rt
theorem Z4r {x0 r} {v7 v8}:Ul x0 v7 v8=some r->CS (Ss x0 r) Tryz.f102 [1,1,0,1] [(0,ss x0),(2,pt 1),(4,.tr (v7.map Zp)),(21,bl v8)] [rx 2 83 ([].map Zd.enc),bx 1 [sq 2 ([].map Zd.enc).length,il 0,il 0,il 0,il 0,il 0]]:=
 st<|it rt<|bn λ{s0} Qr=>jp (.num (0:Int).toNat (5:Int).toNat 0 (s0.map Zp))<|jo (Eq.refl 0)<|jo (DV Qr).2<|jo (Em Zp Qr)<|jo (CM 1 Q8 v7)<|jo (EJ Zp Qr)<|br dU<|it rt<|bd Zc<|bd Zc<|bd Zc<|bd Zc<|bd Zc<|bn λ{s1} Ch=>jp (.num (5:Int).toNat ((v7.length:Int):Int).toNat 0 (s1.map Zp))<|jo (DV Ch).1<|jo (G7 Zp v7)<|jo (Em Zp Ch)<|jo (CM 1 Q8 v7)<|jo (EJ Zp Ch)<|js Zp s1<|jn Zd.enc []<|cx (A1 1 2++fz 3 4 16384) 15 Yk8
theorem Yev {x0 r}  : L5 x0=some r->Zq Tryz.prog Mo (Ss x0 r):=
 fK Tryz.func102<|br UH λ{r5}=>js Zp r5<|it (jk 3<|cx (fz 1 1 0) 7 Z4r)<|jk 1<|js Zp r5<|jk 2<|cx (fz 1 1 0) 7 Z4r
abbrev Yt9  (r:List ByteArray):Y:=(68,[],.own 9 (r.map Zp),[])
theorem Ycr {r}  : Um  = some r->Zq Tryz.prog Mo (Yt9  r):=
 fK Tryz.func68<|jk 1<|jo (show 3=([(Ze [98,121,116,101]),(Ze [104,97,108,102]),(Ze [119,111,114,100])].map Zp).length from rfl)<|rt
abbrev Zlp (x0:List ByteArray) (x1:ByteArray) (r:Int):Y:=(67,[.tr (x0.map Zp),ss x1],il r,un 2)
theorem Zu6 {x0 x1 r}:∀{m v0},Wv x0 x1 m v0=some r->CS (Zlp x0 x1 r) Tryz.f67 [1,0,1,0] [(0,.tr (x0.map Zp)),(1,ss x1),(7,il (x0.length:Int)),(8,il v0)] []:=by
 intro m
 induction m with
 | zero=>intro v0 h;cases h
 | succ m ih=>exact st<|it (bb Zp<|it rt<|cx [] 16 ih)<|rt
theorem Zlt {x0 x1 r}  : X6 x0 x1=some r->Zq Tryz.prog Mo (Zlp x0 x1 r):=
 fK Tryz.func67<|js Zp x0<|cx [] 6 Zu6
abbrev Yq8  (r:List ByteArray):Y:=(69,[],.own 9 (r.map Zp),[])
theorem Z8q {r}  : Un  = some r->Zq Tryz.prog Mo (Yq8  r):=
 fK Tryz.func69<|jk 1<|jo (show 4=([(Ze [111,110,101]),(Ze [102,111,117,114]),(Ze [119,114,97,112]),(Ze [101,105,103,104,116])].map Zp).length from rfl)<|rt
abbrev Y21 (x0:Int) (r:Int):Y:=(119,[il x0],il r,un 1)
theorem sZ {x0 r}  : RV x0=some r->Zq Tryz.prog Mo (Y21 x0 r):=
 fK Tryz.func119<|br Xh<|it rt<|bd Zc<|rt
abbrev Y2h (x0:Int) (r:Int):Y:=(230,[il x0],il r,un 1)
theorem OV {x0 r}  : JP x0=some r->Zq Tryz.prog Mo (Y2h x0 r):=
 fK Tryz.func230<|br Xh<|it rt<|jl<|bo TM<|rt
abbrev Y1s (x0:Int) (x1:Int) (r:Bool):Y:=(265,[il x0,il x1],bl r,un 2)
theorem s7 {x0 x1 r}  : RW x0 x1=some r->Zq Tryz.prog Mo (Y1s x0 x1 r):=
 fK Tryz.func265<|br Xh<|it (jk 2<|it (jk 2<|br OV<|jk 1<|jl<|jk 2<|bo H7<|rt)<|jk 5<|rt)<|jk 8<|rt
abbrev Yf6 (x0:Int) (x1:Int) (x2:Int) (r:Int):Y:=(229,[il x0,il x1,il x2],il r,un 3)
theorem Zut {x0 x1 x2 r} {v0}:bP x0 x1 x2 v0=some r->CS (Yf6 x0 x1 x2 r) Tryz.f229 [1,0,1] [(0,il x0),(1,il x1),(2,il x2),(21,bl v0)] []:=
 st<|it rt<|br OV<|br OV<|it (jk 2<|jl<|jk 2<|bo H7<|it rt<|rt)<|jk 5<|rt
theorem Yvs {x0 x1 x2 r}  : o8 x0 x1 x2=some r->Zq Tryz.prog Mo (Yf6 x0 x1 x2 r):=
 fK Tryz.func229<|br s7<|it (jk 6<|cx [] 5 Zut)<|jk 2<|it (jk 3<|cx [] 5 Zut)<|jk 1<|br sZ<|jk 2<|cx [] 5 Zut
abbrev Z9f (x0:Int) (x1:Int) (x2:Int) (r:List Int):Y:=(181,[il x0,il x1,il x2],.own 3 (r.map Zc),un 3)
theorem Ye9 {x0 x1 x2 r}:∀{m v0 v1 v2 v3},o9 x0 x1 x2 m v0 v1 v2 v3=some r->CS (Z9f x0 x1 x2 r) Tryz.f181 [1,1,0,1,0] [(0,il v0),(1,il x1),(2,il x2),(7,sq 1 (v1.map Zc).length),(11,il v2),(12,il v3)] [rx 1 3 (v1.map Zc)]:=by
 intro m
 induction m with
 | zero=>intro v0 v1 v2 v3 h;cases h
 | succ m ih=>exactλ{v0} {v1} {v2} {v3}=>st<|it (br Yvs<|it rt<|bn λ{z0} Xe=>jt Zc [v0] z0<|jk 1<|ja 1 Jo v0<|jx Zc Xe<|jn Zc z0<|je Zc z0<|cx (fz 1 5 3072) 20 ih)<|jk 1<|je Zc v1<|rt
theorem Z9z {x0 x1 x2 r}  : bR x0 x1 x2=some r->Zq Tryz.prog Mo (Z9f x0 x1 x2 r):=
 fK Tryz.func181<|br sZ<|jp (.num ([].map Zc).length 0 0 [])<|jo (show 0=([].map Zc).length from rfl)<|cx (fz 1 2 0) 8 Ye9
abbrev Yh7 (x0:Int) (x1:Int) (x2:Int) (r:Bool):Y:=(120,[il x0,il x1,il x2],bl r,un 3)
theorem Yoy {x0 x1 x2 r}:∀{m v0 v1 v2},pA x0 x1 x2 m v0 v1 v2=some r->CS (Yh7 x0 x1 x2 r) Tryz.f120 [1,1,0,1,0] [(7,sq 1 (v0.map Zc).length),(14,sq 1 (v0.map Zc).length),(15,il v1),(16,il v2)] [rx 1 3 (v0.map Zc)]:=by
 intro m
 induction m with
 | zero=>intro v0 v1 v2 h;cases h
 | succ m ih=>exactλ{v0} {v1} {v2}=>st<|it (bd Zc<|jk 1<|bd Zc<|jk 1<|it rt<|jn Zc v0<|jn Zc v0<|cx (A1 1 1) 16 ih)<|js Zc v0<|rt
theorem Y0i {x0 x1 x2 r}  : pB x0 x1 x2=some r->Zq Tryz.prog Mo (Yh7 x0 x1 x2 r):=
 fK Tryz.func120<|br Z9z λ{r0}=>js Zc r0<|jn Zc r0<|jn Zc r0<|cx (fz 1 2 3072) 8 Yoy
abbrev Y17 (x0:Int) (r:Int):Y:=(183,[il x0],il r,un 1)
theorem Yjt {x0 r}  : bS x0=some r->Zq Tryz.prog Mo (Y17 x0 r):=
 fK Tryz.func183<|br OV<|it rt<|br OV<|jl<|bo TM<|rt
abbrev Y8z (x0:Int) (x1:Int) (r:Bool):Y:=(123,[il x0,il x1],bl r,un 2)
theorem Su {x0 x1 r}  : L6 x0 x1=some r->Zq Tryz.prog Mo (Y8z x0 x1 r):=
 fK Tryz.func123<|br Yjt<|br Xh<|rt
abbrev Y0r (x0:Int) (x1:Zj) (r:Bool):Y:=(122,[il x0,.rp true (Zj.enc x1) 0],bl r,un 2)
theorem Y0o {x0 x1 r}  : pC x0 x1=some r->Zq Tryz.prog Mo (Y0r x0 x1 r):=
 fK Tryz.func122<|br Su<|rt
abbrev Ze0 (x0:List Int) (Bi:Zj) (r:Int):Y:=(182,[.tr (x0.map Zc),.fn 122 [.rp true (Zj.enc Bi) 0]],il r,un 2)
theorem Zme {x0 Bi r}:∀{m v0},Jc x0 Bi m v0=some r->CS (Ze0 x0 Bi r) Tryz.f182 [1,0,1,0] [(0,.tr (x0.map Zc)),(1,.fn 122 [.rp true (Zj.enc Bi) 0]),(7,il (x0.length:Int)),(8,il v0)] []:=by
 intro m
 induction m with
 | zero=>intro v0 h;cases h
 | succ m ih=>exact st<|it (bb Zc<|br Y0o<|it rt<|cx [] 16 ih)<|rt
theorem Zqh {x0 Bi r}  : Zan x0 Bi=some r->Zq Tryz.prog Mo (Ze0 x0 Bi r):=
 fK Tryz.func182<|js Zc x0<|cx [] 6 Zme
abbrev Znt (x0:List Int) (Bi:Zj) (r:Bool):Y:=(121,[.tr (x0.map Zc),.fn 122 [.rp true (Zj.enc Bi) 0]],bl r,un 2)
theorem Znp {x0 Bi r}  : Ql x0 Bi=some r->Zq Tryz.prog Mo (Znt x0 Bi r):=
 fK Tryz.func121<|br Zqh<|rt
abbrev Yr4 (x0:Zj) (r:Bool):Y:=(70,[.agg (Zj.enc x0)],bl r,un 1)
theorem Yct {x0 r} {v0}:pD x0 v0=some r->CS (Yr4 x0 r) Tryz.f70 [1,1,1] [(1,pt 1),(3,il v0)] [bx 1 (Zj.enc x0)]:=
 st<|br Y0i<|it (jk 2<|js Zc x0.Aa<|jk 3<|it (jk 3<|br Znp<|jk 2<|rt)<|jk 5<|rt)<|jk 11<|rt
theorem s8 {x0 r}  : OF x0=some r->Zq Tryz.prog Mo (Yr4 x0 r):=
 fK Tryz.func70<|it (br sZ<|cx (fz 1 1 0) 9 Yct)<|cx (fz 1 1 0) 9 Yct
abbrev Yud (x0:Bool) (r:ByteArray):Y:=(124,[bl x0],ss r,un 1)
theorem Yc6 {x0 r}  : RX x0=some r->Zq Tryz.prog Mo (Yud x0 r):=
 fK Tryz.func124<|it rt<|rt
abbrev Y0d (x0:Zj) (r:ByteArray):Y:=(71,[.agg (Zj.enc x0)],ss r,un 1)
theorem Yi0 {x0 r}  : Uo x0=some r->Zq Tryz.prog Mo (Y0d x0 r):=
 fK Tryz.func71<|br s8<|it rt<|br Yc6 λ{r1}=>br Ycr<|bd Zp λ{a0}=>br Z8q<|bd Zp λ{a1}=>br H9 λ{r4}=>it (bn λ{z0} Xe=>jt Zp [(Ze [108,111,99,107])] z0<|jk 1<|ja 1 Q8 (Ze [108,111,99,107])<|jo (show 4=([r1,a0,a1,r4].map Zp).length from rfl)<|jo (FI Zp Xe)<|jo (Hd Zp Xe)<|je Zp z0<|br dV λ{r5}=>bn λ{z1} DX=>jt Zp r5 z1<|jk 2<|je Zp r5<|jo (Eq.refl (r5.map Zp))<|jo (CM 1 Q8 r5)<|jx Zp DX<|je Zp z1<|je Zp z1<|br OR<|rt)<|br dV λ{r5}=>bn λ{z1} DX=>jt Zp r5 z1<|jk 2<|je Zp r5<|jo (Eq.refl (r5.map Zp))<|jo (CM 1 Q8 r5)<|jo (show 4=([r1,a0,a1,r4].map Zp).length from rfl)<|jo (FI Zp DX)<|jo (Hd Zp DX)<|je Zp z1<|je Zp z1<|br OR<|rt
abbrev Z8f (x0:ByteArray) (r:Zj×Bool):Y:=(30,[ss x0],.AX [.agg [bl r.1.write,il r.1.addr,il r.1.size,il r.1.Az,bl r.1.lock,.own 3 (r.1.Aa.map Zc)],bl r.2],un 1)
theorem Z6s {x0 r} {Ad v0 v1}:RY x0 Ad v0 v1=some r->CS (Z8f x0 r) Tryz.f30 [1,1,1,1,1] [(0,ss x0),(2,pt 1),(4,.tr (v0.map Zp)),(5,pt 3),(6,.tr (v1.map Zp))] [rx 2 3 ([].map Zc),bx 1 [bl false,il 0,il 0,il 0,bl false,sq 2 ([].map Zc).length],rx 4 3 (Ad.Aa.map Zc),bx 3 [bl Ad.write,il Ad.addr,il Ad.size,il Ad.Az,bl Ad.lock,sq 4 (Ad.Aa.map Zc).length]]:=
 st<|bb Zp<|br Ym3<|br dU λ{r1}=>it (jk 12<|rt)<|jk 2<|it (jk 9<|rt)<|jk 2<|je Zc r1.1<|br s8<|jk 2<|it (jk 5<|rt)<|jk 2<|je Zc r1.1<|br Yi0<|jk 3<|it rt<|jk 1<|je Zc r1.1<|rt
theorem Z66 {x0 r} {Ad v0 v1 v2}:OG x0 Ad v0 v1 v2=some r->CS (Z8f x0 r) Tryz.f30 [1,1,1,1,0,1] [(0,ss x0),(2,pt 1),(4,.tr (v0.map Zp)),(5,pt 3),(6,.tr (v1.map Zp)),(42,bl v2)] [rx 2 3 ([].map Zc),bx 1 [bl false,il 0,il 0,il 0,bl false,sq 2 ([].map Zc).length],rx 4 3 (Ad.Aa.map Zc),bx 3 [bl Ad.write,il Ad.addr,il Ad.size,il Ad.Az,bl Ad.lock,sq 4 (Ad.Aa.map Zc).length]]:=
 st<|it (bn λ{s0} Qr=>jp (.num (1:Int).toNat ((v1.length:Int):Int).toNat 0 (s0.map Zp))<|jo (DV Qr).1<|jo (G7 Zp v1)<|jo (Em Zp Qr)<|jo (CM 1 Q8 v1)<|jo (EJ Zp Qr)<|jn Zc []<|jn Zc Ad.Aa<|cx (A1 1 4) 2 Z6s)<|jn Zc []<|jn Zc Ad.Aa<|cx (A1 1 4) 2 Z6s
theorem Y02 {x0 r}  : Up x0=some r->Zq Tryz.prog Mo (Z8f x0 r):=
 fK Tryz.func30<|br UH λ{r4}=>js Zp r4<|it rt<|bb Zp<|br Ycr λ{r5}=>bb Zp<|jk 1<|je Zp r5<|br Zlt<|br Z8q λ{r7}=>bb Zp<|jk 1<|je Zp r7<|br Zlt<|bn λ{s1} Ch=>jp (.num (4:Int).toNat ((r4.length:Int):Int).toNat 0 (s1.map Zp))<|jo (DV Ch).1<|jo (G7 Zp r4)<|jo (Em Zp Ch)<|jo (CM 1 Q8 r4)<|jo (EJ Zp Ch)<|js Zp s1<|it (jk 1<|bb Zp<|jk 3<|cx (fz 1 1 0++fz 3 4 17408) 14 Z66)<|jk 4<|cx (fz 1 1 0++fz 3 4 17408) 14 Z66
abbrev Yxr (x0:ByteArray) (x1:List Int) (r:ByteArray):Y:=(75,[ss x0,.tr (x1.map Zc)],ss r,un 2)
theorem Ygc {x0 x1 r}  : bT x0 x1=some r->Zq Tryz.prog Mo (Yxr x0 x1 r):=
 fK Tryz.func75<|js Zc x1<|it rt<|jl<|bo Yd<|br dV λ{r0}=>jk 1<|je Zp r0<|br OR<|jl<|jl<|bo Yd<|bo Yd<|rt
abbrev Z9g (x0:Zb) (r:ByteArray):Y:=(32,[.agg (Zb.enc x0)],ss r,un 1)
theorem Yf3 {x0 r}:∀{m v0 v1},bU x0 m v0 v1=some r->CS (Z9g x0 r) Tryz.f32 [1,1,0,1,0] [(3,ss v0),(15,.tr (x0.Am.map Zm.enc)),(16,il (x0.Am.length:Int)),(17,il v1)] []:=by
 intro m
 induction m with
 | zero=>intro v0 v1 h;cases h
 | succ m ih=>exact st<|it (bb Zm.enc<|br Yi0<|it rt<|br H9<|jl<|jl<|bo Yd<|bo Yd<|br H9<|jl<|jl<|jl<|jl<|jl<|bo Yd<|bo Yd<|bo Yd<|bo Yd<|bo Yd<|cx [] 20 ih)<|rt
theorem Yq5 {x0 r}  : pE x0=some r->Zq Tryz.prog Mo (Z9g x0 r):=
 fK Tryz.func32<|br Ygc<|br Ygc<|jl<|bo Yd<|js Zm.enc x0.Am<|cx [] 8 Yf3
abbrev OW (x0:ByteArray) (r:Zb×Bool):Y:=(8,[ss x0],.AX [.agg (Zb.ow r.1),bl r.2],un 1)
theorem Z0j {x0 r} {A4:Zb->(List ByteArray)->Int->Int->Option (Zb×Bool)} (AW:∀{Ad v1 v2 v3},A4 Ad v1 v2 v3=some r->CS (OW x0 r) Tryz.f8 [1,1,0,1,0] [(0,ss x0),(2,pt 1),(4,pt 5),(17,.tr (v1.map Zp)),(18,il v2),(19,il v3)] (Zb.bk Zb.z0 2++[bx 1 (Zb.rl Zb.z0 2)]++Zb.bk Ad 6++[bx 5 (Zb.rl Ad 6)])) {Ad At v0 v1 v2 v3 v4}:bV x0 A4 Ad At v0 v1 v2 v3 v4=some r->CS (OW x0 r) Tryz.f8 [1,1,0,1,0,0,1,1,0,0,1,1,0,1,0,1,1,0,1] [(0,ss x0),(2,pt 1),(4,pt 5),(8,sq 11 (v0.map Zc).length),(10,pt 9),(17,.tr (v1.map Zp)),(18,il v2),(19,il v3),(53,bl v4)] (Zb.bk Zb.z0 2++[bx 1 (Zb.rl Zb.z0 2)]++Zb.bk Ad 6++[bx 5 (Zb.rl Ad 6),rx 10 3 (At.Aa.map Zc),bx 9 [bl At.write,il At.addr,il At.size,il At.Az,bl At.lock,sq 10 (At.Aa.map Zc).length],rx 11 3 (v0.map Zc)]):=
 st<|it rt<|bd Zc λ{a0}=>bd Zc λ{a1}=>jk 1<|bn λ{z0} Xe=>jt Zm.enc [(Zm.mk a0 a1 At)] z0<|jk 1<|je Zc At.Aa<|ja 8 Zm.A9 (Zm.mk a0 a1 At)<|jx Zm.enc Xe<|je Zm.enc z0<|jw (Zb.sc Zb.z0)<|jw (Zb.sc {Ad with Am:=z0})<|cx (A1 1 5++fz 6 2 11264++A1 7 2) 6 AW
theorem Z0a {x0 r} {A4:Zb->(List ByteArray)->Int->Int->Option (Zb×Bool)} (AW:∀{Ad v1 v2 v3},A4 Ad v1 v2 v3=some r->CS (OW x0 r) Tryz.f8 [1,1,0,1,0] [(0,ss x0),(2,pt 1),(4,pt 5),(17,.tr (v1.map Zp)),(18,il v2),(19,il v3)] (Zb.bk Zb.z0 2++[bx 1 (Zb.rl Zb.z0 2)]++Zb.bk Ad 6++[bx 5 (Zb.rl Ad 6)])) {Ad v5 v1 v2 v3 v6}:RZ x0 A4 Ad v5 v1 v2 v3 v6=some r->CS (OW x0 r) Tryz.f8 [1,1,0,1,0,0,1,1,0,0,1,1,0,1,1,1] [(0,ss x0),(2,pt 1),(4,pt 5),(7,.tr (v5.map Zp)),(17,.tr (v1.map Zp)),(18,il v2),(19,il v3),(68,bl v6)] (Zb.bk Zb.z0 2++[bx 1 (Zb.rl Zb.z0 2)]++Zb.bk Ad 6++[bx 5 (Zb.rl Ad 6)]):=
 st<|it (bn λ{s0} Qr=>jp (.num (1:Int).toNat ((v5.length:Int):Int).toNat 0 (s0.map Zp))<|jo (DV Qr).1<|jo (G7 Zp v5)<|jo (Em Zp Qr)<|jo (CM 1 Q8 v5)<|jo (EJ Zp Qr)<|br dU λ{r0}=>it rt<|bb Zp<|it (jw (Zb.sc Zb.z0)<|jw (Zb.sc {Ad with waits:=r0.1})<|cx (A1 1 6++fz 7 2 2048++A1 8 1) 15 AW)<|jw (Zb.sc Zb.z0)<|jw (Zb.sc {Ad with A3:=r0.1})<|cx (A1 1 7++fz 8 2 2048) 15 AW)<|jw (Zb.sc Zb.z0)<|jw (Zb.sc Ad)<|cx (A1 1 8) 5 AW
theorem Z0v {x0 r} {A4:Zb->(List ByteArray)->Int->Int->Option (Zb×Bool)} (AW:∀{Ad v1 v2 v3},A4 Ad v1 v2 v3=some r->CS (OW x0 r) Tryz.f8 [1,1,0,1,0] [(0,ss x0),(2,pt 1),(4,pt 5),(17,.tr (v1.map Zp)),(18,il v2),(19,il v3)] (Zb.bk Zb.z0 2++[bx 1 (Zb.rl Zb.z0 2)]++Zb.bk Ad 6++[bx 5 (Zb.rl Ad 6)])) {Ad v5 v1 v2 v3 v7}:Kh x0 A4 Ad v5 v1 v2 v3 v7=some r->CS (OW x0 r) Tryz.f8 [1,1,0,1,0,0,1,1,0,0,1,1,0,1] [(0,ss x0),(2,pt 1),(4,pt 5),(7,.tr (v5.map Zp)),(17,.tr (v1.map Zp)),(18,il v2),(19,il v3),(25,bl v7)] (Zb.bk Zb.z0 2++[bx 1 (Zb.rl Zb.z0 2)]++Zb.bk Ad 6++[bx 5 (Zb.rl Ad 6)]):=
 st<|it (bn λ{s1} Ch=>jp (.num (1:Int).toNat (3:Int).toNat 0 (s1.map Zp))<|jo (DV Ch).1<|jo (DV Ch).2<|jo (Em Zp Ch)<|jo (CM 1 Q8 v5)<|jo (EJ Zp Ch)<|br dU λ{r1}=>bn λ{s2} Dv=>jp (.num (3:Int).toNat ((v5.length:Int):Int).toNat 0 (s2.map Zp))<|jo (DV Dv).1<|jo (G7 Zp v5)<|jo (Em Zp Dv)<|jo (CM 1 Q8 v5)<|jo (EJ Zp Dv)<|br OR<|br Y02 λ{r3}=>it (jk 2<|jn Zc r1.1<|jw (Zb.sc Zb.z0)<|jw (Zb.sc Ad)<|jn Zc r3.1.Aa<|cx (A1 1 8++fz 9 3 7168++fz 10 3 3077++fz 11 2 2048) 8 (Z0j AW))<|jk 2<|jn Zc r1.1<|jw (Zb.sc Zb.z0)<|jw (Zb.sc Ad)<|jn Zc r3.1.Aa<|cx (A1 1 8++fz 9 3 7168++fz 10 3 3077++fz 11 2 2048) 8 (Z0j AW))<|bn λUK=>jb Zp UK<|it (jk 4<|jw (Zb.sc Zb.z0)<|jw (Zb.sc Ad)<|cx (A1 1 8) 3 (Z0a AW))<|jk 1<|jb Zp UK<|jk 3<|jw (Zb.sc Zb.z0)<|jw (Zb.sc Ad)<|cx (A1 1 8) 3 (Z0a AW)
theorem Yf4 {x0 r}:∀{m Ad v1 v2 v3},Ki x0 m Ad v1 v2 v3=some r->CS (OW x0 r) Tryz.f8 [1,1,0,1,0] [(0,ss x0),(2,pt 1),(4,pt 5),(17,.tr (v1.map Zp)),(18,il v2),(19,il v3)] (Zb.bk Zb.z0 2++[bx 1 (Zb.rl Zb.z0 2)]++Zb.bk Ad 6++[bx 5 (Zb.rl Ad 6)]):=by
 intro m
 induction m with
 | zero=>intro Ad v1 v2 v3 h;cases h
 | succ m ih=>exactλ{Ad} {v1} {v2} {v3}=>st<|it (bb Zp<|br UH λ{r4}=>bb Zp<|it (jk 1<|js Zp r4<|jk 2<|jw (Zb.sc Zb.z0)<|jw (Zb.sc Ad)<|cx (A1 1 8) 15 (Z0v ih))<|jk 3<|jw (Zb.sc Zb.z0)<|jw (Zb.sc Ad)<|cx (A1 1 8) 15 (Z0v ih))<|jk 3<|jw (Zb.so Ad)<|br Yq5<|it rt<|jk 3<|jw (Zb.so Ad)<|rt
theorem Z90 {x0 r}  : MV x0=some r->Zq Tryz.prog Mo (OW x0 r):=
 fK Tryz.func8<|br Ybi<|br UH λ{r7}=>js Zp r7<|cx (fz 1 1 0++fz 5 2 1024) 8 Yf4
abbrev Yc2 (Au:Zg) (Aq:Zb) (x1:ByteArray) (r:ByteArray×Z3):Y:=(51,[.agg [.own 83 (Au.Ab.map Zd.enc),il Au.Av,il Au.As,il Au.An,il Au.Ap,il Au.Al,.own 60 (Aq.Am.map Zm.enc),.own 3 (Aq.waits.map Zc),.own 3 (Aq.A3.map Zc),.lit (.pointer none)],ss x1],ss r.1,[.agg [.own 83 (r.2.Ae.Ab.map Zd.enc),il r.2.Ae.Av,il r.2.Ae.As,il r.2.Ae.An,il r.2.Ae.Ap,il r.2.Ae.Al,.own 60 (r.2.script.Am.map Zm.enc),.own 3 (r.2.script.waits.map Zc),.own 3 (r.2.script.A3.map Zc),Za.oE r.2.DW],.undef])
theorem Zs8 {Au Aq x1 r} {v0 v1}:pF Au Aq x1 v0 v1=some r->CS (Yc2 Au Aq x1 r) Tryz.f51 [1,1,0,1,0,1,1,1] [(0,.ptr (0,63) 0 0),(1,ss x1),(5,ss v0),(32,bl v1)] [rx 1 83 (Au.Ab.map Zd.enc),rx 2 60 (Aq.Am.map Zm.enc),rx 3 3 (Aq.waits.map Zc),rx 4 3 (Aq.A3.map Zc),((0,63),⟨true,true,true,0,[[sq 1 (Au.Ab.map Zd.enc).length,il Au.Av,il Au.As,il Au.An,il Au.Ap,il Au.Al,sq 2 (Aq.Am.map Zm.enc).length,sq 3 (Aq.waits.map Zc).length,sq 4 (Aq.A3.map Zc).length,.lit (.pointer none)]]⟩)]:=
 st<|it (jl<|bo Yd<|br Z90 λ{r0}=>it (jk 4<|je Zd.enc Au.Ab<|jw (Zb.so Aq)<|rt)<|it (jk 4<|je Zd.enc Au.Ab<|je Zm.enc Aq.Am<|je Zc r0.1.waits<|je Zc Aq.A3<|rt)<|it (jk 4<|je Zd.enc Au.Ab<|je Zm.enc Aq.Am<|je Zc Aq.waits<|je Zc r0.1.A3<|rt)<|bn λ{z0} Xe=>jt Zm.enc r0.1.Am z0<|jk 5<|je Zm.enc r0.1.Am<|jo (Eq.refl (r0.1.Am.map Zm.enc))<|jo (CM 8 Zm.A9 r0.1.Am)<|jx Zm.enc Xe<|je Zm.enc z0<|je Zd.enc Au.Ab<|je Zm.enc z0<|je Zc Aq.waits<|je Zc Aq.A3<|rt)<|jk 4<|je Zd.enc Au.Ab<|jw (Zb.so Aq)<|rt
theorem Yty {Au Aq x1 r}  : pG Au Aq x1=some r->Zq Tryz.prog Mo (Yc2 Au Aq x1 r):=
 fK Tryz.func51<|br Ycv<|it (br Yev λ{r2}=>it (jk 4<|je Zd.enc Au.Ab<|jw (Zb.so Aq)<|rt)<|jk 1<|je Zd.enc r2.1.Ab<|rt)<|it (jn Zd.enc Au.Ab<|jp (.num (Aq.Am.map Zm.enc).length 0 0 [])<|jp (.num (Aq.waits.map Zc).length 0 0 [])<|jp (.num (Aq.A3.map Zc).length 0 0 [])<|jw (Zb.so Aq)<|cx (fz 1 0 0++fz 2 0 6++fz 3 0 7++fz 4 0 8) 16 Zs8)<|it (jn Zd.enc Au.Ab<|jp (.num (Aq.Am.map Zm.enc).length 0 0 [])<|jp (.num (Aq.waits.map Zc).length 0 0 [])<|jp (.num (Aq.A3.map Zc).length 0 0 [])<|jw (Zb.so Aq)<|cx (fz 1 0 0++fz 2 0 6++fz 3 0 7++fz 4 0 8) 19 Zs8)<|jn Zd.enc Au.Ab<|jp (.num (Aq.Am.map Zm.enc).length 0 0 [])<|jp (.num (Aq.waits.map Zc).length 0 0 [])<|jp (.num (Aq.A3.map Zc).length 0 0 [])<|jw (Zb.so Aq)<|cx (fz 1 0 0++fz 2 0 6++fz 3 0 7++fz 4 0 8) 19 Zs8
abbrev Zob (x0:List Zd) (r:List Zd):Y:=(201,[.tr (x0.map Zd.enc)],.own 83 (r.map Zd.enc),[.undef])
theorem Z07 {x0:List Zd} {r:List Zd} (h:pH x0=some r):Zq Tryz.prog Mo (Zob x0 r):=by
 refine sI Tryz.func201 ?_;unfold pH at h;cases x0 with
 | nil=>
  obtain rfl:[]=r:=(lA h);have hn:CS (Zob [] []) Tryz.f201 [1,0,0] [(0,.tr [])] []:=kX Mo L9 (k:=at_ [1,0,1] (ML Tryz.f201) []) (x0:=.tmp 0) (d0:=3) (d1:=4) (t:=35) (e:=83) (y:=.const (.slice none 0 0)) (by kernel_rfl) (by kernel_rfl) rfl rfl λb=>by
   cases b with
   | true=>exact Ih rfl [.k] tt
   | false=>exact Ih rfl [.k,.app [] true [] 0,.k] (aa (Eq.refl ([]:List (List V))) (aa (Eq.refl true) (aa (Eq.refl true) (aa (Eq.refl 0) (aa (lB 32) (aa (Eq.refl ([]:List (List V))) (aa (Eq.refl 0) (aa (Eq.refl 0) tt))))))))
  exact Nd [] 4 [] tt hn
 | cons a l=>
  exact Ih rfl [.k,.app ((a::l).map Zd.enc) true (r.map Zd.enc) (r.map Zd.enc).length,.k] (aa (iJ (Zd.enc a) (l.map Zd.enc)) (aa (Eq.refl ((a::l).map Zd.enc)) (aa (ZL Zd.Cd (a::l)) (aa (CM 4 Zd.A9 (a::l)) (aa (Eq.refl 0) (aa (FI Zd.enc h) (aa (MJ Zd.enc h) (aa (Ox Zd.enc r) (aa (Ox Zd.enc r) tt)))))))))
abbrev Y0z (x0:Zg) (r:Zg):Y:=(157,[.agg (Zg.enc x0)],.agg [.own 83 (r.Ab.map Zd.enc),il r.Av,il r.As,il r.An,il r.Ap,il r.Al],un 1)
theorem Yjh {x0 r}  : bW x0=some r->Zq Tryz.prog Mo (Y0z x0 r):=
 fK Tryz.func157<|br Z07 λ{r0}=>jk 1<|je Zd.enc r0<|rt
abbrev Y5w  (r:Zn):Y:=(202,[],.agg (Zn.ow r),[])
theorem Y6w {r}  : Yl0  = some r->Zq Tryz.prog Mo (Y5w  r):=
 fK Tryz.func202<|bn λ{m0} Dy=>jp (.mk (4:Int).toNat (m0.map Zc))<|jk 1<|jo (Lx Dy)<|jo (Lx Dy)<|jo (ZM Dy)<|jo (ZN Zc Dy)<|je Zc m0<|rt
abbrev Yvj  (r:Zf):Y:=(158,[],.agg (Zf.ow r),[])
theorem Yex {r}  : bX  = some r->Zq Tryz.prog Mo (Yvj  r):=
 fK Tryz.func158<|bn λ{m0} Dy=>jp (.mk (192:Int).toNat (m0.map Zc))<|jo (Lx Dy)<|jo (Lx Dy)<|jo (ZM Dy)<|jo (ZN Zc Dy)<|br Y6w λ{r0}=>jk 3<|je Zc m0<|jw (Zn.so r0)<|rt
abbrev Yuo (x0:Zd) (r:Zk):Y:=(159,[.agg (Zd.enc x0)],.agg (Zk.enc r),un 1)
theorem Yuj {x0 r}  : pI x0=some r->Zq Tryz.prog Mo (Yuo x0 r):=
 fK Tryz.func159<|it rt<|rt
abbrev Ym6 (x0:Zg) (r:Za×Bool):Y:=(103,[.agg (Zg.enc x0)],.AX [.agg (Za.ow r.1),bl r.2],un 1)
theorem Yq3 {x0 r}:∀{m Ad v0},pK x0 m Ad v0=some r->CS (Ym6 x0 r) Tryz.f103 [1,1,1,0,1,0] [(2,pt 1),(4,pt 10),(16,.tr (x0.Ab.map Zd.enc)),(17,il (x0.Ab.length:Int)),(18,il v0)] (Za.bk Za.z0 2++[bx 1 (Za.rl Za.z0 2)]++Za.bk Ad 11++[bx 10 (Za.rl Ad 11)]):=by
 intro m
 induction m with
 | zero=>intro Ad v0 h;cases h
 | succ m ih=>exactλ{Ad} {v0}=>st<|it (bb Zd.enc<|bn λ{z0} Xe=>jt Zh.enc [Zh.z0] z0<|jk 1<|ja 6 Zh.A9 Zh.z0<|jx Zh.enc Xe<|je Zh.enc z0<|br Yuj λ{r0}=>bn λ{z1} DX=>jt Zk.enc [r0] z1<|jk 1<|bn λ{z2} OS=>jt Zc [0] z2<|jk 1<|ja 2 Zk.A9 r0<|jx Zk.enc DX<|je Zk.enc z1<|ja 1 Jo 0<|jx Zc OS<|je Zc z2<|jw (Za.sc Za.z0)<|jw (Za.sc {Ad with m:=z0,buckets:=z1,splits:=z2})<|cx (A1 1 11++fz 12 4 4096++fz 13 5 5120++fz 14 6 3072++A1 15 4) 17 ih)<|jk 8<|jw (Za.so Ad)<|rt
theorem Yo5 {x0 r}  : bY x0=some r->Zq Tryz.prog Mo (Ym6 x0 r):=
 fK Tryz.func103<|br UO<|it rt<|br Yjh λ{r2}=>br Yex λ{r3}=>js Zd.enc x0.Ab<|jn Zd.enc r2.Ab<|jp (.num (r3.mem.map Zc).length 0 0 [])<|jp (.num (r3.dev.AD.map Zc).length 0 0 [])<|jp (.num (r3.dev.A2.map Zc).length 0 0 [])<|jw (Zf.so r3)<|cx (fz 1 1 1024++fz 10 3 4096++fz 11 3 1024++fz 15 3 2048++fz 16 3 2049++fz 17 3 2051) 13 Yq3
abbrev Z8t (Au:Zg) (Aq:Zb) (x1:ByteArray) (r:ByteArray×Z3):Y:=(52,[.agg [.own 83 (Au.Ab.map Zd.enc),il Au.Av,il Au.As,il Au.An,il Au.Ap,il Au.Al,.own 60 (Aq.Am.map Zm.enc),.own 3 (Aq.waits.map Zc),.own 3 (Aq.A3.map Zc),.lit (.pointer none)],ss x1],ss r.1,[.agg [.own 83 (r.2.Ae.Ab.map Zd.enc),il r.2.Ae.Av,il r.2.Ae.As,il r.2.Ae.An,il r.2.Ae.Ap,il r.2.Ae.Al,.own 60 (r.2.script.Am.map Zm.enc),.own 3 (r.2.script.waits.map Zc),.own 3 (r.2.script.A3.map Zc),Za.oE r.2.DW],.undef])
theorem dW {Au Aq x1 r} {v0}:Sb Au Aq x1 v0=some r->CS (Z8t Au Aq x1 r) Tryz.f52 [1,0,1,0,1,1,1,1,1] [(0,.ptr (0,63) 0 0),(1,ss x1),(34,bl v0)] [rx 1 83 (Au.Ab.map Zd.enc),rx 2 60 (Aq.Am.map Zm.enc),rx 3 3 (Aq.waits.map Zc),rx 4 3 (Aq.A3.map Zc),((0,63),⟨true,true,true,0,[[sq 1 (Au.Ab.map Zd.enc).length,il Au.Av,il Au.As,il Au.An,il Au.Ap,il Au.Al,sq 2 (Aq.Am.map Zm.enc).length,sq 3 (Aq.waits.map Zc).length,sq 4 (Aq.A3.map Zc).length,.lit (.pointer none)]]⟩)]:=
 st<|it (jk 5<|je Zd.enc Au.Ab<|jw (Zb.so Aq)<|rt)<|jk 4<|je Zd.enc Au.Ab<|jw (Zb.so Aq)<|rt
theorem Yp8 {Au Aq x1 r}  : bZ Au Aq x1=some r->Zq Tryz.prog Mo (Z8t Au Aq x1 r):=
 fK Tryz.func52<|it (jk 1<|je Zd.enc Au.Ab<|br Yo5 λ{r0}=>it (jk 4<|je Zd.enc Au.Ab<|jw (Zb.so Aq)<|rt)<|jk 12<|je Zd.enc Au.Ab<|jw (Zb.so Aq)<|jw (Za.so r0.1)<|rt)<|it (jk 1<|je Zd.enc Au.Ab<|br Z3z<|it (jk 4<|je Zd.enc Au.Ab<|jw (Zb.so Aq)<|rt)<|jk 4<|je Zd.enc Au.Ab<|jw (Zb.so Aq)<|rt)<|it (jn Zd.enc Au.Ab<|jp (.num (Aq.Am.map Zm.enc).length 0 0 [])<|jp (.num (Aq.waits.map Zc).length 0 0 [])<|jp (.num (Aq.A3.map Zc).length 0 0 [])<|jw (Zb.so Aq)<|cx (fz 1 0 0++fz 2 0 6++fz 3 0 7++fz 4 0 8) 17 dW)<|it (jn Zd.enc Au.Ab<|jp (.num (Aq.Am.map Zm.enc).length 0 0 [])<|jp (.num (Aq.waits.map Zc).length 0 0 [])<|jp (.num (Aq.A3.map Zc).length 0 0 [])<|jw (Zb.so Aq)<|cx (fz 1 0 0++fz 2 0 6++fz 3 0 7++fz 4 0 8) 20 dW)<|it (jn Zd.enc Au.Ab<|jp (.num (Aq.Am.map Zm.enc).length 0 0 [])<|jp (.num (Aq.waits.map Zc).length 0 0 [])<|jp (.num (Aq.A3.map Zc).length 0 0 [])<|jw (Zb.so Aq)<|cx (fz 1 0 0++fz 2 0 6++fz 3 0 7++fz 4 0 8) 23 dW)<|it (jn Zd.enc Au.Ab<|jp (.num (Aq.Am.map Zm.enc).length 0 0 [])<|jp (.num (Aq.waits.map Zc).length 0 0 [])<|jp (.num (Aq.A3.map Zc).length 0 0 [])<|jw (Zb.so Aq)<|cx (fz 1 0 0++fz 2 0 6++fz 3 0 7++fz 4 0 8) 26 dW)<|jn Zd.enc Au.Ab<|jp (.num (Aq.Am.map Zm.enc).length 0 0 [])<|jp (.num (Aq.waits.map Zc).length 0 0 [])<|jp (.num (Aq.A3.map Zc).length 0 0 [])<|jw (Zb.so Aq)<|cx (fz 1 0 0++fz 2 0 6++fz 3 0 7++fz 4 0 8) 26 dW
abbrev Z91 (Au:Zg) (Aq:Zb) (AH:Za) (x1:ByteArray) (r:ByteArray×Z3):Y:=(51,[.agg [.own 83 (Au.Ab.map Zd.enc),il Au.Av,il Au.As,il Au.An,il Au.Ap,il Au.Al,.own 60 (Aq.Am.map Zm.enc),.own 3 (Aq.waits.map Zc),.own 3 (Aq.A3.map Zc),.CQ (Za.ow AH)],ss x1],ss r.1,[.agg [.own 83 (r.2.Ae.Ab.map Zd.enc),il r.2.Ae.Av,il r.2.Ae.As,il r.2.Ae.An,il r.2.Ae.Ap,il r.2.Ae.Al,.own 60 (r.2.script.Am.map Zm.enc),.own 3 (r.2.script.waits.map Zc),.own 3 (r.2.script.A3.map Zc),Za.oE r.2.DW],.undef])
theorem Zrk {Au Aq AH x1 r} {v0 v1}:pL Au Aq AH x1 v0 v1=some r->CS (Z91 Au Aq AH x1 r) Tryz.f51 [1,1,0,1,0,1,1,1] [(0,.ptr (0,63) 0 0),(1,ss x1),(5,ss v0),(32,bl v1)] ([rx 1 83 (Au.Ab.map Zd.enc),rx 2 60 (Aq.Am.map Zm.enc),rx 3 3 (Aq.waits.map Zc),rx 4 3 (Aq.A3.map Zc),((0,63),⟨true,true,true,0,[[sq 1 (Au.Ab.map Zd.enc).length,il Au.Av,il Au.As,il Au.An,il Au.Ap,il Au.Al,sq 2 (Aq.Am.map Zm.enc).length,sq 3 (Aq.waits.map Zc).length,sq 4 (Aq.A3.map Zc).length,pt 5]]⟩)]++Za.oB 5 (some AH)):=
 st<|it (jl<|bo Yd<|br Z90 λ{r0}=>it (jk 12<|je Zd.enc Au.Ab<|jw (Zb.so Aq)<|jw (Za.so AH)<|rt)<|it (jk 12<|je Zd.enc Au.Ab<|je Zm.enc Aq.Am<|je Zc r0.1.waits<|je Zc Aq.A3<|jw (Za.so AH)<|rt)<|it (jk 12<|je Zd.enc Au.Ab<|je Zm.enc Aq.Am<|je Zc Aq.waits<|je Zc r0.1.A3<|jw (Za.so AH)<|rt)<|bn λ{z0} Xe=>jt Zm.enc r0.1.Am z0<|jk 13<|je Zm.enc r0.1.Am<|jo (Eq.refl (r0.1.Am.map Zm.enc))<|jo (CM 8 Zm.A9 r0.1.Am)<|jx Zm.enc Xe<|je Zm.enc z0<|je Zd.enc Au.Ab<|je Zm.enc z0<|je Zc Aq.waits<|je Zc Aq.A3<|jw (Za.so AH)<|rt)<|jk 12<|je Zd.enc Au.Ab<|jw (Zb.so Aq)<|jw (Za.so AH)<|rt
theorem Yp7 {Au Aq AH x1 r}  : pM Au Aq AH x1=some r->Zq Tryz.prog Mo (Z91 Au Aq AH x1 r):=
 fK Tryz.func51<|br Ycv<|it (br Yev λ{r2}=>it (jk 12<|je Zd.enc Au.Ab<|jw (Zb.so Aq)<|jw (Za.so AH)<|rt)<|jk 1<|je Zd.enc r2.1.Ab<|rt)<|it (jn Zd.enc Au.Ab<|jp (.num (Aq.Am.map Zm.enc).length 0 0 [])<|jp (.num (Aq.waits.map Zc).length 0 0 [])<|jp (.num (Aq.A3.map Zc).length 0 0 [])<|jw (Zb.so Aq)<|jw (Za.sc AH)<|cx (fz 1 0 0++fz 2 0 6++fz 3 0 7++fz 4 0 8++fz 5 0 9++fz 6 0 10++fz 7 0 17++fz 8 0 20++fz 9 0 21++fz 10 0 41++fz 11 0 42++fz 12 0 44++fz 13 0 46) 16 Zrk)<|it (jn Zd.enc Au.Ab<|jp (.num (Aq.Am.map Zm.enc).length 0 0 [])<|jp (.num (Aq.waits.map Zc).length 0 0 [])<|jp (.num (Aq.A3.map Zc).length 0 0 [])<|jw (Zb.so Aq)<|jw (Za.sc AH)<|cx (fz 1 0 0++fz 2 0 6++fz 3 0 7++fz 4 0 8++fz 5 0 9++fz 6 0 10++fz 7 0 17++fz 8 0 20++fz 9 0 21++fz 10 0 41++fz 11 0 42++fz 12 0 44++fz 13 0 46) 19 Zrk)<|jn Zd.enc Au.Ab<|jp (.num (Aq.Am.map Zm.enc).length 0 0 [])<|jp (.num (Aq.waits.map Zc).length 0 0 [])<|jp (.num (Aq.A3.map Zc).length 0 0 [])<|jw (Zb.so Aq)<|jw (Za.sc AH)<|cx (fz 1 0 0++fz 2 0 6++fz 3 0 7++fz 4 0 8++fz 5 0 9++fz 6 0 10++fz 7 0 17++fz 8 0 20++fz 9 0 21++fz 10 0 41++fz 11 0 42++fz 12 0 44++fz 13 0 46) 19 Zrk
abbrev Yfq (x0:Zj) (r:Bool):Y:=(277,[.agg (Zj.enc x0)],bl r,un 1)
theorem Yfh {x0 r}  : pN x0=some r->Zq Tryz.prog Mo (Yfq x0 r):=
 fK Tryz.func277<|br s8<|rt
abbrev Zb0 (x0:List Zj) (r:Int):Y:=(300,[.tr (x0.map Zj.enc),.fn 277 []],il r,un 2)
theorem Zhv {x0 r}:∀{m v0},Qy x0 m v0=some r->CS (Zb0 x0 r) Tryz.f300 [1,0,1,0] [(0,.tr (x0.map Zj.enc)),(1,.fn 277 []),(7,il (x0.length:Int)),(8,il v0)] []:=by
 intro m
 induction m with
 | zero=>intro v0 h;cases h
 | succ m ih=>exact st<|it (bb Zj.enc<|br Yfh<|it rt<|cx [] 16 ih)<|rt
theorem Zkh {x0 r}  : Kp x0=some r->Zq Tryz.prog Mo (Zb0 x0 r):=
 fK Tryz.func300<|js Zj.enc x0<|cx [] 6 Zhv
abbrev Zio (x0:List Zj) (r:Bool):Y:=(276,[.tr (x0.map Zj.enc),.fn 277 []],bl r,un 2)
theorem Zin {x0 r}  : Wk x0=some r->Zq Tryz.prog Mo (Zio x0 r):=
 fK Tryz.func276<|br Zkh<|rt
abbrev Yt1 (x0:Zh) (r:Int):Y:=(240,[.rp true (Zh.enc x0) 0],il r,un 1)
theorem dX {x0 r}  : OH x0=some r->Zq Tryz.prog Mo (Yt1 x0 r):=
 fK Tryz.func240<|js Zj.enc x0.queue<|it rt<|bb Zj.enc<|br sZ<|rt
abbrev Z4d (x0:Zh) (r:Bool):Y:=(239,[.agg (Zh.enc x0)],bl r,un 1)
theorem Zm2 {x0 r} {v0}:Qi x0 v0=some r->CS (Z4d x0 r) Tryz.f239 [1,0,1] [(1,pt 1),(16,bl v0)] [bx 1 (Zh.enc x0)]:=
 st<|it rt<|js Zj.enc x0.queue<|it (it (jk 3<|it (jk 3<|it (jk 3<|it (jk 3<|rt)<|jk 3<|rt)<|jk 7<|rt)<|jk 11<|rt)<|jk 15<|rt)<|br dX<|br Xh<|it (jk 7<|br dX<|jk 2<|br Xh<|jk 1<|rt)<|jk 10<|rt
theorem UP {x0 r}  : Jr x0=some r->Zq Tryz.prog Mo (Z4d x0 r):=
 fK Tryz.func239<|js Zj.enc x0.queue<|it (jk 7<|cx (fz 1 1 0) 5 Zm2)<|jk 3<|it (jk 3<|cx (fz 1 1 0) 5 Zm2)<|jk 2<|br Zin<|jk 1<|cx (fz 1 1 0) 5 Zm2
abbrev Yin (x0:Zh) (x1:Int) (r:Int):Y:=(205,[.agg (Zh.enc x0),il x1],il r,un 2)
theorem Z7b {x0 x1 r} {v0}:pO x0 x1 v0=some r->CS (Yin x0 x1 r) Tryz.f205 [1,0,1] [(1,il x1),(2,pt 1),(15,bl v0)] [bx 1 (Zh.enc x0)]:=
 st<|it rt<|bb Zj.enc<|br Z9z<|bd Zc<|rt
theorem dY {x0 x1 r}  : OI x0 x1=some r->Zq Tryz.prog Mo (Yin x0 x1 r):=
 fK Tryz.func205<|br UP<|it (jk 5<|cx (fz 1 1 0) 5 Z7b)<|jk 1<|br dX<|jk 2<|br Xh<|jk 2<|cx (fz 1 1 0) 5 Z7b
abbrev Zti (x0:List Int) (r:List Int):Y:=(255,[.tr (x0.map Zc)],.own 3 (r.map Zc),[.undef])
theorem Ko {x0:List Int} {r:List Int} (h:Xl x0=some r):Zq Tryz.prog Mo (Zti x0 r):=by
 refine sI Tryz.func255 ?_;unfold Xl at h;cases x0 with
 | nil=>
  obtain rfl:[]=r:=(lA h);have hn:CS (Zti [] []) Tryz.f255 [1,0,0] [(0,.tr [])] []:=kX Mo L9 (k:=at_ [1,0,1] (ML Tryz.f255) []) (x0:=.tmp 0) (d0:=3) (d1:=4) (t:=23) (e:=3) (y:=.const (.slice none 0 0)) (by kernel_rfl) (by kernel_rfl) rfl rfl λb=>by
   cases b with
   | true=>exact Ih rfl [.k] tt
   | false=>exact Ih rfl [.k,.app [] true [] 0,.k] (aa (Eq.refl ([]:List (List V))) (aa (Eq.refl true) (aa (Eq.refl true) (aa (Eq.refl 0) (aa (lB 8) (aa (Eq.refl ([]:List (List V))) (aa (Eq.refl 0) (aa (Eq.refl 0) tt))))))))
  exact Nd [] 4 [] tt hn
 | cons a l=>
  exact Ih rfl [.k,.app ((a::l).map Zc) true (r.map Zc) (r.map Zc).length,.k] (aa (iJ (Zc a) (l.map Zc)) (aa (Eq.refl ((a::l).map Zc)) (aa (ZL R1 (a::l)) (aa (CM 1 Jo (a::l)) (aa (Eq.refl 0) (aa (FI Zc h) (aa (MJ Zc h) (aa (Ox Zc r) (aa (Ox Zc r) tt)))))))))
abbrev Y6u (x0:Zj) (r:Zj):Y:=(241,[.agg (Zj.enc x0)],.agg [bl r.write,il r.addr,il r.size,il r.Az,bl r.lock,.own 3 (r.Aa.map Zc)],un 1)
theorem Ybk {x0 r}  : Sc x0=some r->Zq Tryz.prog Mo (Y6u x0 r):=
 fK Tryz.func241<|br Ko λ{r0}=>jk 1<|je Zc r0<|rt
abbrev Yii (x0:Zb) (x1:Int) (r:List Zm):Y:=(206,[.agg (Zb.enc x0),il x1],.own 60 (r.map Zm.enc),un 2)
theorem Ymv {x0 x1 r}:∀{m v0 v1},pQ x0 x1 m v0 v1=some r->CS (Yii x0 x1 r) Tryz.f206 [1,1,0,1,0] [(1,il x1),(5,sq 1 (v0.map Zm.enc).length),(10,.tr (x0.Am.map Zm.enc)),(11,il (x0.Am.length:Int)),(12,il v1)] [rx 1 60 (v0.map Zm.enc)]:=by
 intro m
 induction m with
 | zero=>intro v0 v1 h;cases h
 | succ m ih=>exactλ{v0} {v1}=>st<|it (bb Zm.enc λ{a0}=>it (br Ybk λ{r0}=>jk 1<|bn λ{z0} Xe=>jt Zm.enc [{a0 with Bq:=r0}] z0<|jk 1<|je Zc r0.Aa<|ja 8 Zm.A9 {a0 with Bq:=r0}<|jx Zm.enc Xe<|jn Zm.enc z0<|je Zm.enc z0<|cx (fz 1 6 3072) 18 ih)<|jn Zm.enc v0<|cx (A1 1 1) 16 ih)<|jk 1<|je Zm.enc v0<|rt
theorem Y1j {x0 x1 r}  : pR x0 x1=some r->Zq Tryz.prog Mo (Yii x0 x1 r):=
 fK Tryz.func206<|js Zm.enc x0.Am<|jp (.num ([].map Zm.enc).length 0 0 [])<|jo (show 0=([].map Zm.enc).length from rfl)<|cx (fz 1 2 0) 8 Ymv
abbrev Yx4 (x0:Zg) (x1:Int) (r:Bool):Y:=(207,[.agg (Zg.enc x0),il x1],bl r,un 2)
theorem Sv {x0 x1 r}  : JQ x0 x1=some r->Zq Tryz.prog Mo (Yx4 x0 x1 r):=
 fK Tryz.func207<|js Zd.enc x0.Ab<|br Xh<|rt
abbrev Yms (x0:Zh) (r:Zh):Y:=(242,[.agg (Zh.enc x0)],.agg [.own 41 (r.queue.map Zj.enc),il r.Ao,il r.done,il r.tries,bl r.Ay,bl r.broken],un 1)
theorem Yqt {x0 r}:∀{m v0 v1},pS x0 m v0 v1=some r->CS (Yms x0 r) Tryz.f242 [1,1,0,1,0] [(1,pt 1),(2,pt 2),(3,sq 4 (v0.map Zj.enc).length),(8,.tr (x0.queue.map Zj.enc)),(9,il (x0.queue.length:Int)),(10,il v1)] [bx 1 (Zh.enc x0),rx 3 41 ([].map Zj.enc),bx 2 [sq 3 ([].map Zj.enc).length,il 0,il 0,il 0,bl false,bl false],rx 4 41 (v0.map Zj.enc)]:=by
 intro m
 induction m with
 | zero=>intro v0 v1 h;cases h
 | succ m ih=>exactλ{v0} {v1}=>st<|it (bb Zj.enc<|br Ybk λ{r0}=>jk 1<|bn λ{z0} Xe=>jt Zj.enc [r0] z0<|jk 1<|je Zc r0.Aa<|ja 6 Zj.A9 r0<|jx Zj.enc Xe<|jn Zj.enc z0<|je Zj.enc z0<|jn Zj.enc []<|cx (A1 1 3++fz 4 4 4096) 13 ih)<|jk 1<|je Zj.enc v0<|rt
theorem dZ {x0 r}  : OJ x0=some r->Zq Tryz.prog Mo (Yms x0 r):=
 fK Tryz.func242<|js Zj.enc x0.queue<|jp (.num ([].map Zj.enc).length 0 0 [])<|jo (show 0=([].map Zj.enc).length from rfl)<|cx (fz 1 1 0++fz 2 1 1024++fz 4 2 0) 8 Yqt
abbrev Yjd (x0:Zh) (x1:Zj) (r:Zh×Bool):Y:=(208,[.agg (Zh.enc x0),.agg (Zj.enc x1)],.AX [.agg [.own 41 (r.1.queue.map Zj.enc),il r.1.Ao,il r.1.done,il r.1.tries,bl r.1.Ay,bl r.1.broken],bl r.2],un 2)
theorem Zxq {x0 x1 r} {Ad v0}:b7 x0 x1 Ad v0=some r->CS (Yjd x0 x1 r) Tryz.f208 [1,1,0,1] [(3,pt 1),(4,pt 2),(6,pt 4),(22,bl v0)] [bx 1 (Zj.enc x1),rx 3 41 ([].map Zj.enc),bx 2 [sq 3 ([].map Zj.enc).length,il 0,il 0,il 0,bl false,bl false],rx 5 41 (Ad.queue.map Zj.enc),bx 4 [sq 5 (Ad.queue.map Zj.enc).length,il Ad.Ao,il Ad.done,il Ad.tries,bl Ad.Ay,bl Ad.broken]]:=
 st<|it (jk 1<|je Zj.enc Ad.queue<|rt)<|br Ybk λ{r0}=>jk 1<|bn λ{z0} Xe=>jt Zj.enc [r0] z0<|jk 2<|je Zc r0.Aa<|ja 6 Zj.A9 r0<|jx Zj.enc Xe<|je Zj.enc z0<|je Zj.enc z0<|rt
theorem Y09 {x0 x1 r}  : pT x0 x1=some r->Zq Tryz.prog Mo (Yjd x0 x1 r):=
 fK Tryz.func208<|br dZ λ{r1}=>br UP<|it (jk 8<|jn Zj.enc r1.queue<|cx (fz 1 1 1024++fz 2 1 2048++fz 4 2 2048++fz 5 2 1024) 7 Zxq)<|jk 1<|br s8<|jk 2<|it (jk 4<|jn Zj.enc r1.queue<|cx (fz 1 1 1024++fz 2 1 2048++fz 4 2 2048++fz 5 2 1024) 7 Zxq)<|jk 2<|js Zj.enc x0.queue<|jk 2<|jn Zj.enc r1.queue<|cx (fz 1 1 1024++fz 2 1 2048++fz 4 2 2048++fz 5 2 1024) 7 Zxq
abbrev Yvb (x0:Zk) (x1:Zd) (r:Bool):Y:=(278,[.agg (Zk.enc x0),.agg (Zd.enc x1)],bl r,un 2)
theorem Ygj {x0 x1 r}  : b8 x0 x1=some r->Zq Tryz.prog Mo (Yvb x0 x1 r):=
 fK Tryz.func278<|it rt<|br Xh<|it (jk 3<|it (jk 5<|rt)<|jk 5<|rt)<|jk 9<|rt
abbrev Y4c (x0:Zk) (x1:Zd) (r:Bool):Y:=(243,[.agg (Zk.enc x0),.agg (Zd.enc x1)],bl r,un 2)
theorem Yab {x0 x1 r}  : Uq x0 x1=some r->Zq Tryz.prog Mo (Y4c x0 x1 r):=
 fK Tryz.func243<|it (jk 2<|br Ygj<|jk 1<|rt)<|jk 3<|rt
abbrev Yrg (x0:Zk) (x1:Zd) (r:Zk):Y:=(209,[.agg (Zk.enc x0),.agg (Zd.enc x1)],.agg (Zk.enc r),un 2)
theorem Yp2 {x0 x1 r}  : pU x0 x1=some r->Zq Tryz.prog Mo (Yrg x0 x1 r):=
 fK Tryz.func209<|br Yab<|it rt<|it rt<|rt
abbrev Yjs (x0:Zh) (r:Zh×Bool):Y:=(279,[.agg (Zh.enc x0)],.AX [.agg [.own 41 (r.1.queue.map Zj.enc),il r.1.Ao,il r.1.done,il r.1.tries,bl r.1.Ay,bl r.1.broken],bl r.2],un 1)
theorem Z59 {x0 r} {Ad v0}:pV x0 Ad v0=some r->CS (Yjs x0 r) Tryz.f279 [1,1,0,1] [(2,pt 1),(4,pt 3),(16,bl v0)] [rx 2 41 ([].map Zj.enc),bx 1 [sq 2 ([].map Zj.enc).length,il 0,il 0,il 0,bl false,bl false],rx 4 41 (Ad.queue.map Zj.enc),bx 3 [sq 4 (Ad.queue.map Zj.enc).length,il Ad.Ao,il Ad.done,il Ad.tries,bl Ad.Ay,bl Ad.broken]]:=
 st<|it (jk 1<|je Zj.enc Ad.queue<|rt)<|jk 1<|je Zj.enc Ad.queue<|rt
theorem Y1p {x0 r}  : pW x0=some r->Zq Tryz.prog Mo (Yjs x0 r):=
 fK Tryz.func279<|br dZ λ{r0}=>br UP<|it (jk 5<|jn Zj.enc r0.queue<|cx (fz 1 1 1024++fz 3 2 2048++fz 4 2 1024) 7 Z59)<|jk 5<|jn Zj.enc r0.queue<|cx (fz 1 1 1024++fz 3 2 2048++fz 4 2 1024) 7 Z59
abbrev Yqr (x0:Zk) (x1:Zd) (r:Zk):Y:=(280,[.agg (Zk.enc x0),.agg (Zd.enc x1)],.agg (Zk.enc r),un 2)
theorem Ypo {x0 x1 r}  : pX x0 x1=some r->Zq Tryz.prog Mo (Yqr x0 x1 r):=
 fK Tryz.func280<|br Yab<|it (jk 5<|it rt<|rt)<|jk 6<|rt
abbrev Ylz (x0:Zg) (x1:Int) (r:Int):Y:=(289,[.agg (Zg.enc x0),il x1],il r,un 2)
theorem Z8x {x0 x1 r} {v0}:Zyd x0 x1 v0=some r->CS (Ylz x0 x1 r) Tryz.f289 [1,0,1] [(1,il x1),(2,pt 1),(13,bl v0)] [bx 1 (Zg.enc x0)]:=
 st<|it rt<|bb Zd.enc<|rt
theorem Ybj {x0 x1 r}  : Ur x0 x1=some r->Zq Tryz.prog Mo (Ylz x0 x1 r):=
 fK Tryz.func289<|br UO<|it (jk 4<|cx (fz 1 1 0) 5 Z8x)<|jk 2<|br Sv<|jk 2<|cx (fz 1 1 0) 5 Z8x
abbrev Y8u (x0:Yg) (x1:Zg) (r:Bool):Y:=(259,[.agg (Yg.enc x0),.agg (Zg.enc x1)],bl r,un 2)
theorem Ye6 {x0 x1 r}  : Sd x0 x1=some r->Zq Tryz.prog Mo (Y8u x0 x1 r):=
 fK Tryz.func259<|br UO<|it (jk 3<|br Sv<|jk 1<|it (jk 5<|br Ybj<|jk 1<|br Xh<|jk 1<|rt)<|jk 7<|rt)<|jk 12<|rt
abbrev Yil (x0:Yg) (x1:Zg) (x2:Int) (r:Yg):Y:=(281,[.agg (Yg.enc x0),.agg (Zg.enc x1),il x2],.agg (Yg.enc r),un 3)
theorem Z54 {x0 x1 x2 r} {v0}:pY x0 x1 x2 v0=some r->CS (Yil x0 x1 x2 r) Tryz.f281 [1,0,1] [(2,il x2),(3,pt 1),(4,pt 2),(6,pt 3),(15,bl v0)] [bx 1 (Yg.enc x0),bx 2 (Zg.enc x1),bx 3 (Yg.enc Yg.z0)]:=
 st<|it (br Ybj<|rt)<|rt
theorem Y0n {x0 x1 x2 r}  : pZ x0 x1 x2=some r->Zq Tryz.prog Mo (Yil x0 x1 x2 r):=
 fK Tryz.func281<|br Ye6<|it (jk 4<|cx (fz 1 1 0++fz 2 1 1024++fz 3 1 2048) 5 Z54)<|jk 4<|cx (fz 1 1 0++fz 2 1 1024++fz 3 1 2048) 5 Z54
abbrev Yqn (x0:Za) (x1:Zi) (r:Za):Y:=(244,[.agg (Za.ow x0),.agg (Zi.enc x1)],.AX [],[.agg (Za.ow r),.undef])
theorem Zyl {x0 x1 r}  : Us x0 x1=some r->Zq Tryz.prog Mo (Yqn x0 x1 r):=
 fK Tryz.func244<|bn λW9=>jw (xd Zh.enc W9)<|br Y1p λ{r0}=>bn λ{y0} Kk=>jw (xq Zh.enc W9 y0)<|jk 1<|je Zj.enc r0.1.queue<|jo (Ie Zh.enc Kk)<|it (bn λBU=>jw (xd Zk.enc BU)<|bd Zd.enc<|br Ypo<|bn λCp=>jw (xp Zk.enc BU Cp)<|jk 8<|je Zd.enc x0.Ae.Ab<|jo (Kc Zh.enc Kk)<|jo (Kc Zk.enc Cp)<|je Zc x0.splits<|jw (Zf.so x0.model)<|je Zt.enc x0.log<|rt)<|it (jk 1<|je Zd.enc x0.Ae.Ab<|br Y0n<|jk 8<|je Zd.enc x0.Ae.Ab<|jo (Kc Zh.enc Kk)<|je Zk.enc x0.buckets<|je Zc x0.splits<|jw (Zf.so x0.model)<|je Zt.enc x0.log<|rt)<|jk 8<|je Zd.enc x0.Ae.Ab<|jo (Kc Zh.enc Kk)<|je Zk.enc x0.buckets<|je Zc x0.splits<|jw (Zf.so x0.model)<|je Zt.enc x0.log<|rt
abbrev Yju (x0:List Int) (x1:Int) (r:Int):Y:=(282,[.tr (x0.map Zc),il x1],il r,un 2)
theorem Z55 {x0 x1 r} {v0}:p5 x0 x1 v0=some r->CS (Yju x0 x1 r) Tryz.f282 [1,0,1] [(0,.tr (x0.map Zc)),(1,il x1),(11,bl v0)] []:=
 st<|it rt<|js Zc x0<|jl<|bo H7<|bb Zc<|rt
theorem Z8i {x0 x1 r}  : Ut x0 x1=some r->Zq Tryz.prog Mo (Yju x0 x1 r):=
 fK Tryz.func282<|js Zc x0<|it (jk 2<|cx [] 5 Z55)<|jk 2<|cx [] 5 Z55
abbrev Y0h (x0:Zg) (x1:Zb) (x2:Int) (r:Int):Y:=(245,[.agg (Zg.enc x0),.agg (Zb.enc x1),il x2],il r,un 3)
theorem Y0c {x0 x1 x2 r}  : p6 x0 x1 x2=some r->Zq Tryz.prog Mo (Y0h x0 x1 x2 r):=
 fK Tryz.func245<|br Z8i<|rt
abbrev Ypw (x0:Zh) (x1:Int) (r:Int):Y:=(284,[.rp true (Zh.enc x0) 0,il x1],il r,un 2)
theorem Ypl {x0 x1 r}  : p7 x0 x1=some r->Zq Tryz.prog Mo (Ypw x0 x1 r):=
 fK Tryz.func284<|bb Zj.enc<|it (bb Zc<|rt)<|rt
abbrev Y5b (x0:Zn) (r:Zn):Y:=(288,[.agg (Zn.enc x0)],.agg (Zn.ow r),un 1)
theorem Yl2 {x0 r}  : cA x0=some r->Zq Tryz.prog Mo (Y5b x0 r):=
 fK Tryz.func288<|br Ko λ{r0}=>br Ko λ{r1}=>jk 2<|je Zc r0<|je Zc r1<|rt
abbrev Ywn (x0:Zf) (r:Zf):Y:=(256,[.agg (Zf.enc x0)],.agg (Zf.ow r),un 1)
theorem Z3k {x0 r}  : Uu x0=some r->Zq Tryz.prog Mo (Ywn x0 r):=
 fK Tryz.func256<|br Ko λ{r0}=>br Yl2 λ{r1}=>jk 3<|je Zc r0<|jw (Zn.so r1)<|rt
abbrev Y6k (x0:Int) (r:Bool):Y:=(301,[il x0],bl r,un 1)
theorem Y4b {x0 r}  : p8 x0=some r->Zq Tryz.prog Mo (Y6k x0 r):=
 fK Tryz.func301<|br Xh<|rt
abbrev Zfo (x0:List Int) (r:Int):Y:=(182,[.tr (x0.map Zc),.fn 301 []],il r,un 2)
theorem Zm1 {x0 r}:∀{m v0},Js x0 m v0=some r->CS (Zfo x0 r) Tryz.f182 [1,0,1,0] [(0,.tr (x0.map Zc)),(1,.fn 301 []),(7,il (x0.length:Int)),(8,il v0)] []:=by
 intro m
 induction m with
 | zero=>intro v0 h;cases h
 | succ m ih=>exact st<|it (bb Zc<|br Y4b<|it rt<|cx [] 16 ih)<|rt
theorem Zq6 {x0 r}  : Zau x0=some r->Zq Tryz.prog Mo (Zfo x0 r):=
 fK Tryz.func182<|js Zc x0<|cx [] 6 Zm1
abbrev Zn6 (x0:List Int) (r:Bool):Y:=(121,[.tr (x0.map Zc),.fn 301 []],bl r,un 2)
theorem Zn9 {x0 r}  : Qw x0=some r->Zq Tryz.prog Mo (Zn6 x0 r):=
 fK Tryz.func121<|br Zq6<|rt
abbrev Xbs (x0:List Int) (x1:Int) (x2:Int) (r:Bool):Y:=(290,[.tr (x0.map Zc),il x1,il x2],bl r,un 3)
theorem Yle {x0 x1 x2 r}  : Uv x0 x1 x2=some r->Zq Tryz.prog Mo (Xbs x0 x1 x2 r):=
 fK Tryz.func290<|js Zc x0<|it (jk 1<|br Zn9<|jk 2<|it (jk 2<|br s7<|jk 1<|it (jk 2<|js Zc x0<|jk 2<|br OV<|jk 3<|rt)<|jk 7<|rt)<|jk 11<|rt)<|jk 15<|rt
abbrev Y0x (x0:Int) (r:Bool):Y:=(302,[il x0],bl r,un 1)
theorem Y1g {x0 r}  : p9 x0=some r->Zq Tryz.prog Mo (Y0x x0 r):=
 fK Tryz.func302<|br Su<|rt
abbrev Ze1 (x0:List Int) (r:Int):Y:=(182,[.tr (x0.map Zc),.fn 302 []],il r,un 2)
theorem Zmd {x0 r}:∀{m v0},Jd x0 m v0=some r->CS (Ze1 x0 r) Tryz.f182 [1,0,1,0] [(0,.tr (x0.map Zc)),(1,.fn 302 []),(7,il (x0.length:Int)),(8,il v0)] []:=by
 intro m
 induction m with
 | zero=>intro v0 h;cases h
 | succ m ih=>exact st<|it (bb Zc<|br Y1g<|it rt<|cx [] 16 ih)<|rt
theorem Zqi {x0 r}  : Zam x0=some r->Zq Tryz.prog Mo (Ze1 x0 r):=
 fK Tryz.func182<|js Zc x0<|cx [] 6 Zmd
abbrev Zm0 (x0:List Int) (r:Bool):Y:=(121,[.tr (x0.map Zc),.fn 302 []],bl r,un 2)
theorem Zdg {x0 r}  : Wg x0=some r->Zq Tryz.prog Mo (Zm0 x0 r):=
 fK Tryz.func121<|br Zqi<|rt
abbrev Y76 (x0:Zn) (r:Bool):Y:=(291,[.agg (Zn.enc x0)],bl r,un 1)
theorem Yr6 {x0 r}  : cB x0=some r->Zq Tryz.prog Mo (Y76 x0 r):=
 fK Tryz.func291<|js Zc x0.AD<|it (jk 2<|js Zc x0.A2<|jk 2<|it (jk 3<|br Zdg<|jk 2<|it (jk 3<|br Zdg<|jk 2<|it (jk 2<|br Su<|jk 1<|rt)<|jk 3<|rt)<|jk 9<|rt)<|jk 15<|rt)<|jk 20<|rt
abbrev Y0f (x0:Zf) (r:Bool):Y:=(260,[.agg (Zf.enc x0)],bl r,un 1)
theorem Z79 {x0 r}  : Se x0=some r->Zq Tryz.prog Mo (Y0f x0 r):=
 fK Tryz.func260<|js Zc x0.mem<|it (jk 2<|br Yle<|jk 1<|it (jk 2<|br Yr6<|jk 1<|rt)<|jk 3<|rt)<|jk 7<|rt
abbrev Yio (x0:Int) (r:Int):Y:=(247,[il x0],il r,un 1)
theorem Z6t {x0 r} {v0}:qA x0 v0=some r->CS (Yio x0 r) Tryz.f247 [1,0,0,1] [(0,il x0),(3,bl v0)] []:=
 st<|it rt<|it rt<|it rt<|rt
theorem Yix {x0 r}  : cC x0=some r->Zq Tryz.prog Mo (Yio x0 r):=
 fK Tryz.func247<|it (jk 2<|cx [] 6 Z6t)<|jk 2<|cx [] 6 Z6t
abbrev UQ (x0:Zn) (x1:Bool) (x2:Int) (x3:Int) (r:Zn×Int×Bool):Y:=(266,[.agg (Zn.enc x0),bl x1,il x2,il x3],.AX [.agg (Zn.ow r.1),il r.2.1,bl r.2.2],un 4)
theorem Z1h {x0 x1 x2 x3 r} {Ad v0}:cE x0 x1 x2 x3 Ad v0=some r->CS (UQ x0 x1 x2 x3 r) Tryz.f266 [1,1,1,0,0,1,1,1,1,1,1,1,1,1] [(1,bl x1),(2,il x2),(3,il x3),(4,pt 1),(8,pt 2),(11,pt 5),(91,bl v0)] ([bx 1 (Zn.enc x0)]++Zn.bk Zn.z0 3++[bx 2 (Zn.rl Zn.z0 3)]++Zn.bk Ad 6++[bx 5 (Zn.rl Ad 6)]):=
 st<|it (jk 2<|jw (Zn.so Ad)<|rt)<|it (jk 1<|bn λW9=>bn λKk=>jw (xp Zc W9 Kk)<|jk 2<|jo (Kc Zc Kk)<|je Zc Ad.A2<|rt)<|jk 1<|bb Zc<|jk 2<|jw (Zn.so Ad)<|rt
theorem Z06 {x0 x1 x2 x3 r} {Ad v1}:cF x0 x1 x2 x3 Ad v1=some r->CS (UQ x0 x1 x2 x3 r) Tryz.f266 [1,1,1,0,0,1,1,1,1,1,1,1] [(1,bl x1),(2,il x2),(3,il x3),(4,pt 1),(8,pt 2),(11,pt 5),(69,bl v1)] ([bx 1 (Zn.enc x0)]++Zn.bk Zn.z0 3++[bx 2 (Zn.rl Zn.z0 3)]++Zn.bk Ad 6++[bx 5 (Zn.rl Ad 6)]):=
 st<|it (bb Zc<|bn λ{s0} Qr=>jp (.num (1:Int).toNat ((x0.A2.length:Int):Int).toNat 0 (s0.map Zc))<|jo (DV Qr).1<|jo (G7 Zc x0.A2)<|jo (Em Zc Qr)<|jo (CM 1 Jo x0.A2)<|jo (EJ Zc Qr)<|br Ko λ{r0}=>jk 2<|je Zc Ad.AD<|je Zc r0<|rt)<|it (jk 6<|jw (Zn.sc Zn.z0)<|jw (Zn.sc Ad)<|cx (A1 1 7) 3 Z1h)<|jk 2<|it (jk 3<|jw (Zn.sc Zn.z0)<|jw (Zn.sc Ad)<|cx (A1 1 7) 3 Z1h)<|jk 4<|jw (Zn.sc Zn.z0)<|jw (Zn.sc Ad)<|cx (A1 1 7) 3 Z1h
theorem Z1e {x0 x1 x2 x3 r} {Ad v2}:cG x0 x1 x2 x3 Ad v2=some r->CS (UQ x0 x1 x2 x3 r) Tryz.f266 [1,1,1,0,0,1,1,1,1,1] [(1,bl x1),(2,il x2),(3,il x3),(4,pt 1),(8,pt 2),(11,pt 5),(51,bl v2)] ([bx 1 (Zn.enc x0)]++Zn.bk Zn.z0 3++[bx 2 (Zn.rl Zn.z0 3)]++Zn.bk Ad 6++[bx 5 (Zn.rl Ad 6)]):=
 st<|it (bn λ{z0} Xe=>jt Zc [x3] z0<|jk 3<|ja 1 Jo x3<|jx Zc Xe<|je Zc z0<|je Zc Ad.AD<|je Zc z0<|rt)<|it (jk 2<|it (jk 2<|js Zc x0.A2<|jk 2<|jw (Zn.sc Zn.z0)<|jw (Zn.sc Ad)<|cx (A1 1 7) 3 Z06)<|jk 4<|jw (Zn.sc Zn.z0)<|jw (Zn.sc Ad)<|cx (A1 1 7) 3 Z06)<|jk 7<|jw (Zn.sc Zn.z0)<|jw (Zn.sc Ad)<|cx (A1 1 7) 3 Z06
theorem Yco {x0 x1 x2 x3 r} {Ad v3}:qB x0 x1 x2 x3 Ad v3=some r->CS (UQ x0 x1 x2 x3 r) Tryz.f266 [1,1,1,0,0,1] [(1,bl x1),(2,il x2),(3,il x3),(4,pt 1),(8,pt 2),(11,pt 5),(32,bl v3)] ([bx 1 (Zn.enc x0)]++Zn.bk Zn.z0 3++[bx 2 (Zn.rl Zn.z0 3)]++Zn.bk Ad 6++[bx 5 (Zn.rl Ad 6)]):=
 st<|it (jk 2<|jw (Zn.so Ad)<|rt)<|it (br Yjt<|jl<|jk 2<|bo H7<|jw (Zn.so Ad)<|rt)<|it (jk 1<|it (jk 2<|js Zc x0.A2<|jk 2<|jw (Zn.sc Zn.z0)<|jw (Zn.sc Ad)<|cx (A1 1 7) 6 Z1e)<|jk 4<|jw (Zn.sc Zn.z0)<|jw (Zn.sc Ad)<|cx (A1 1 7) 6 Z1e)<|jk 6<|jw (Zn.sc Zn.z0)<|jw (Zn.sc Ad)<|cx (A1 1 7) 6 Z1e
theorem Z1d {x0 x1 x2 x3 r} {Ad v4}:Sf x0 x1 x2 x3 Ad v4=some r->CS (UQ x0 x1 x2 x3 r) Tryz.f266 [1,1,0,1] [(1,bl x1),(2,il x2),(3,il x3),(4,pt 1),(8,pt 2),(11,pt 5),(24,bl v4)] ([bx 1 (Zn.enc x0)]++Zn.bk Zn.z0 3++[bx 2 (Zn.rl Zn.z0 3)]++Zn.bk Ad 6++[bx 5 (Zn.rl Ad 6)]):=
 st<|it (jk 2<|jw (Zn.so Ad)<|rt)<|it (jk 1<|jw (Zn.sc Zn.z0)<|jw (Zn.sc Ad)<|cx (A1 1 7) 6 Yco)<|jk 1<|jw (Zn.sc Zn.z0)<|jw (Zn.sc Ad)<|cx (A1 1 7) 6 Yco
theorem Y8m {x0 x1 x2 x3 r}  : qC x0 x1 x2 x3=some r->Zq Tryz.prog Mo (UQ x0 x1 x2 x3 r):=
 fK Tryz.func266<|br Yl2 λ{r2}=>br Yr6<|it (jk 3<|jw (Zn.sc r2)<|cx (fz 1 1 0++fz 2 1 1024++fz 5 2 2048++Zn.ff 6 2 1024) 7 Z1d)<|jk 1<|it (jk 1<|br Su<|jk 4<|jw (Zn.sc r2)<|cx (fz 1 1 0++fz 2 1 1024++fz 5 2 2048++Zn.ff 6 2 1024) 7 Z1d)<|jk 5<|jw (Zn.sc r2)<|cx (fz 1 1 0++fz 2 1 1024++fz 5 2 2048++Zn.ff 6 2 1024) 7 Z1d
abbrev Ybh (x0:List Int) (x1:Int) (x2:Int) (x3:Int) (r:List Int×Bool):Y:=(267,[.tr (x0.map Zc),il x1,il x2,il x3],.AX [.own 3 (r.1.map Zc),bl r.2],un 4)
theorem Yqy {x0 x1 x2 x3 r}:∀{m v0 v1 v2},qD x0 x1 x2 x3 m v0 v1 v2=some r->CS (Ybh x0 x1 x2 x3 r) Tryz.f267 [1,1,1,0,1,0] [(1,il x1),(3,il x3),(10,sq 1 (v0.map Zc).length),(27,il v1),(28,il v2)] [rx 1 3 (v0.map Zc)]:=by
 intro m
 induction m with
 | zero=>intro v0 v1 v2 h;cases h
 | succ m ih=>exactλ{v0} {v1} {v2}=>st<|it (jl<|bo TM<|bn λW9=>bn λ{y0} Kk=>jw (xp Zc W9 Kk)<|jp (.num (y0.map Zc).length 0 0 [])<|jo (Kc Zc Kk)<|cx (A1 1 1) 13 ih)<|jk 1<|je Zc v0<|rt
theorem Z85 {x0 x1 x2 x3 r} {v0 v3}:qE x0 x1 x2 x3 v0 v3=some r->CS (Ybh x0 x1 x2 x3 r) Tryz.f267 [1,1,0,1] [(1,il x1),(2,il x2),(3,il x3),(10,sq 1 (v0.map Zc).length),(24,bl v3)] [rx 1 3 (v0.map Zc)]:=
 st<|it (jk 1<|je Zc v0<|rt)<|br OV<|jn Zc v0<|cx (A1 1 1) 6 Yqy
theorem Y54 {x0 x1 x2 x3 r}  : qF x0 x1 x2 x3=some r->Zq Tryz.prog Mo (Ybh x0 x1 x2 x3 r):=
 fK Tryz.func267<|br Ko λ{r1}=>br Yle<|it (jk 4<|jn Zc r1<|cx (fz 1 2 1024) 7 Z85)<|jk 2<|br Su<|jk 2<|jn Zc r1<|cx (fz 1 2 1024) 7 Z85
abbrev Yl3 (x0:List Int) (x1:Int) (x2:Int) (r:Int×Bool):Y:=(268,[.tr (x0.map Zc),il x1,il x2],.AX [il r.1,bl r.2],un 3)
theorem Yqv {x0 x1 x2 r}:∀{m v0 v1 v2},qG x0 x1 x2 m v0 v1 v2=some r->CS (Yl3 x0 x1 x2 r) Tryz.f268 [1,1,1,0,1,0] [(0,.tr (x0.map Zc)),(1,il x1),(8,il v0),(16,il v1),(17,il v2)] []:=by
 intro m
 induction m with
 | zero=>intro v0 v1 v2 h;cases h
 | succ m ih=>exact st<|it (bb Zc<|jl<|bo TM<|cx [] 13 ih)<|rt
theorem Y62 {x0 x1 x2 r}  : qH x0 x1 x2=some r->Zq Tryz.prog Mo (Yl3 x0 x1 x2 r):=
 fK Tryz.func268<|br Yle<|it rt<|br OV<|cx [] 13 Yqv
abbrev eA (x0:Zf) (x1:Bool) (x2:Int) (x3:Int) (x4:Int) (r:Zf×Int×Int):Y:=(219,[.agg (Zf.enc x0),bl x1,il x2,il x3,il x4],.AX [.agg (Zf.ow r.1),il r.2.1,il r.2.2],un 5)
theorem s9 {x0 x1 x2 x3 x4 r} {Ad v0 v1}:Uw x0 x1 x2 x3 x4 Ad v0 v1=some r->CS (eA x0 x1 x2 x3 x4 r) Tryz.f219 [1,1,1,1,1] [(4,il v0),(5,pt 1),(10,pt 2),(13,pt 6),(14,bl v1)] ([bx 1 (Zf.enc x0)]++Zf.bk Zf.z0 3++[bx 2 (Zf.rl Zf.z0 3)]++Zf.bk Ad 7++[bx 6 (Zf.rl Ad 7)]):=
 st<|it (br Z3k λ{r0}=>jk 3<|jw (Zf.so r0)<|rt)<|jk 3<|jw (Zf.so Ad)<|rt
theorem Z6j {x0 x1 x2 x3 x4 r} {Ad v2}:qI x0 x1 x2 x3 x4 Ad v2=some r->CS (eA x0 x1 x2 x3 x4 r) Tryz.f219 [1,1,1,1,0,1,0,1,1,1] [(1,bl x1),(2,il x2),(3,il x3),(4,il x4),(5,pt 1),(10,pt 2),(13,pt 6),(14,bl false),(58,bl v2)] ([bx 1 (Zf.enc x0)]++Zf.bk Zf.z0 3++[bx 2 (Zf.rl Zf.z0 3)]++Zf.bk Ad 7++[bx 6 (Zf.rl Ad 7)]):=
 st<|it (it (br Y54 λ{r1}=>jw (Zf.sc Zf.z0)<|jw (Zf.sc (Zf.mk r1.1 Ad.dev))<|cx (A1 1 6++fz 7 3 5120++A1 8 2) 6 s9)<|br Y62<|jw (Zf.sc Zf.z0)<|jw (Zf.sc Ad)<|cx (A1 1 9) 6 s9)<|jw (Zf.sc Zf.z0)<|jw (Zf.sc Ad)<|cx (A1 1 9) 3 s9
theorem Z5v {x0 x1 x2 x3 x4 r} {Ad v3 v4}:qJ x0 x1 x2 x3 x4 Ad v3 v4=some r->CS (eA x0 x1 x2 x3 x4 r) Tryz.f219 [1,1,1,1,0,1,0,1] [(1,bl x1),(2,il x2),(3,il x3),(4,il x4),(5,pt 1),(10,pt 2),(13,pt 6),(14,bl false),(15,il v3),(39,bl v4)] ([bx 1 (Zf.enc x0)]++Zf.bk Zf.z0 3++[bx 2 (Zf.rl Zf.z0 3)]++Zf.bk Ad 7++[bx 6 (Zf.rl Ad 7)]):=
 st<|it (br Y8m λ{r3}=>jw (Zf.sc Zf.z0)<|jw (Zf.sc (Zf.mk Ad.mem r3.1))<|cx (A1 1 7++fz 8 2 6144++fz 9 2 6146) 3 s9)<|it (jk 2<|jw (Zf.sc Zf.z0)<|jw (Zf.sc Ad)<|cx (A1 1 9) 3 Z6j)<|jk 2<|jw (Zf.sc Zf.z0)<|jw (Zf.sc Ad)<|cx (A1 1 9) 3 Z6j
theorem tA {x0 x1 x2 x3 x4 r} {Ad v5}:MW x0 x1 x2 x3 x4 Ad v5=some r->CS (eA x0 x1 x2 x3 x4 r) Tryz.f219 [1,1,0,1] [(1,bl x1),(2,il x2),(3,il x3),(4,il x4),(5,pt 1),(10,pt 2),(13,pt 6),(35,bl v5)] ([bx 1 (Zf.enc x0)]++Zf.bk Zf.z0 3++[bx 2 (Zf.rl Zf.z0 3)]++Zf.bk Ad 7++[bx 6 (Zf.rl Ad 7)]):=
 st<|it (jk 3<|jw (Zf.so Ad)<|rt)<|br Yix<|it (jk 2<|jw (Zf.sc Zf.z0)<|jw (Zf.sc Ad)<|cx (A1 1 9) 10 Z5v)<|jk 2<|jw (Zf.sc Zf.z0)<|jw (Zf.sc Ad)<|cx (A1 1 9) 10 Z5v
theorem Yjv {x0 x1 x2 x3 x4 r}  : cJ x0 x1 x2 x3 x4=some r->Zq Tryz.prog Mo (eA x0 x1 x2 x3 x4 r):=
 fK Tryz.func219<|br Z3k λ{r5}=>br Z79<|it (jk 8<|jw (Zf.sc r5)<|cx (fz 1 1 0++fz 2 1 1024++fz 6 2 2048++Zf.ff 7 2 1024) 7 tA)<|jk 2<|br s7<|jk 2<|it (jk 3<|jw (Zf.sc r5)<|cx (fz 1 1 0++fz 2 1 1024++fz 6 2 2048++Zf.ff 7 2 1024) 7 tA)<|jk 1<|it (jk 2<|br Su<|jk 4<|jw (Zf.sc r5)<|cx (fz 1 1 0++fz 2 1 1024++fz 6 2 2048++Zf.ff 7 2 1024) 7 tA)<|jk 6<|jw (Zf.sc r5)<|cx (fz 1 1 0++fz 2 1 1024++fz 6 2 2048++Zf.ff 7 2 1024) 7 tA
abbrev Y6j (x0:Za) (x1:Zi) (r:Zf×Int×Int):Y:=(248,[.rp true (Za.enc x0) 0,.agg (Zi.enc x1)],.AX [.agg (Zf.ow r.1),il r.2.1,il r.2.2],un 2)
theorem Yoi {x0 x1 r}  : cK x0 x1=some r->Zq Tryz.prog Mo (Y6j x0 x1 r):=
 fK Tryz.func248<|bb Zh.enc<|bb Zj.enc<|br dY<|br Ypl<|br Yjv λ{r2}=>jk 3<|jw (Zf.so r2.1)<|rt
abbrev Yl7 (x0:Zh) (r:Zh×Bool):Y:=(283,[.agg (Zh.enc x0)],.AX [.agg [.own 41 (r.1.queue.map Zj.enc),il r.1.Ao,il r.1.done,il r.1.tries,bl r.1.Ay,bl r.1.broken],bl r.2],un 1)
theorem Z9r {x0 r} {Ad v0}:qK x0 Ad v0=some r->CS (Yl7 x0 r) Tryz.f283 [1,1,0,1] [(2,pt 1),(4,pt 3),(16,bl v0)] [rx 2 41 ([].map Zj.enc),bx 1 [sq 2 ([].map Zj.enc).length,il 0,il 0,il 0,bl false,bl false],rx 4 41 (Ad.queue.map Zj.enc),bx 3 [sq 4 (Ad.queue.map Zj.enc).length,il Ad.Ao,il Ad.done,il Ad.tries,bl Ad.Ay,bl Ad.broken]]:=
 st<|it (jk 1<|je Zj.enc Ad.queue<|rt)<|jk 1<|je Zj.enc Ad.queue<|br dX<|it (jp (.num (1:Int).toNat ((Ad.queue.length:Int):Int).toNat (((Ad.queue.length:Int):Int).toNat - (1:Int).toNat) [])<|jk 1<|bn λ{s0} Qr=>jp (.mk 0 (s0.map Zj.enc))<|je Zj.enc Ad.queue<|jo (DV Qr).1<|jo (G7 Zj.enc Ad.queue)<|jo (Em Zj.enc Qr)<|jo (CM 6 Zj.A9 Ad.queue)<|jo (Eq.refl (((Ad.queue.length:Int):Int).toNat - (1:Int).toNat))<|jo (kZ Zj.enc Qr)<|jo (EJ Zj.enc Qr)<|rt)<|jk 1<|je Zj.enc Ad.queue<|rt
theorem Y5x {x0 r}  : qL x0=some r->Zq Tryz.prog Mo (Yl7 x0 r):=
 fK Tryz.func283<|br dZ λ{r1}=>br UP<|it (jk 5<|jn Zj.enc r1.queue<|cx (fz 1 1 1024++fz 3 2 2048++fz 4 2 1024) 7 Z9r)<|jk 5<|jn Zj.enc r1.queue<|cx (fz 1 1 1024++fz 3 2 2048++fz 4 2 1024) 7 Z9r
abbrev Yv7 (x0:Za) (r:Za):Y:=(211,[.agg (Za.ow x0)],.AX [],[.agg (Za.ow r)])
theorem Ydm {x0 r}  : cL x0=some r->Zq Tryz.prog Mo (Yv7 x0 r):=
 fK Tryz.func211<|jk 8<|jw (Za.so x0)<|rt
abbrev tB (x0:Za) (x1:Zi) (r:Za):Y:=(246,[.agg (Za.ow x0),.agg (Zi.enc x1)],.AX [],[.agg (Za.ow r),.undef])
theorem Zvq {x0 x1 r} {Ad At}:qM x0 x1 Ad At=some r->CS (tB x0 x1 r) Tryz.f246 [1,1,1,1,1,1,1,1] [(0,.ptr (0,63) 0 0),(3,pt 9),(10,pt 10)] (Za.bk Ad 1++[((0,63),⟨true,true,true,0,[(Za.rl Ad 1)]⟩),bx 9 (Zi.enc x1),rx 11 41 (At.queue.map Zj.enc),bx 10 [sq 11 (At.queue.map Zj.enc).length,il At.Ao,il At.done,il At.tries,bl At.Ay,bl At.broken]]):=
 st<|bn λW9=>bn λ{y0} Kk=>jw (xq Zh.enc W9 y0)<|jk 9<|je Zj.enc At.queue<|jo (Ie Zh.enc Kk)<|je Zd.enc Ad.Ae.Ab<|jo (Kc Zh.enc Kk)<|je Zk.enc Ad.buckets<|je Zc Ad.splits<|jw (Zf.so Ad.model)<|je Zt.enc Ad.log<|rt
theorem Zwh {x0 x1 r} {Ad At v0}:qN x0 x1 Ad At v0=some r->CS (tB x0 x1 r) Tryz.f246 [1,1,1,1,1,1,1,0,1] [(0,.ptr (0,63) 0 0),(3,pt 9),(10,pt 10),(87,bl v0)] (Za.bk Ad 1++[((0,63),⟨true,true,true,0,[(Za.rl Ad 1)]⟩),bx 9 (Zi.enc x1),rx 11 41 (At.queue.map Zj.enc),bx 10 [sq 11 (At.queue.map Zj.enc).length,il At.Ao,il At.done,il At.tries,bl At.Ay,bl At.broken]]):=
 st<|it (jk 8<|jw (Za.so Ad)<|br Ydm λ{r0}=>jw (Za.sc r0)<|jn Zj.enc At.queue<|cx (Za.ff 1 2 1536++A1 9 3) 2 Zvq)<|jw (Za.sc Ad)<|jn Zj.enc At.queue<|cx (A1 1 11) 2 Zvq
theorem Zxv {x0 x1 r} {Ad At AJ}:cM x0 x1 Ad At AJ=some r->CS (tB x0 x1 r) Tryz.f246 [1,1,1,1,1] [(0,.ptr (0,63) 0 0),(3,pt 9),(4,pt 10),(6,pt 11)] (Za.bk Ad 1++[((0,63),⟨true,true,true,0,[(Za.rl Ad 1)]⟩),bx 9 (Zi.enc x1),bx 10 (Zh.enc At),bx 11 (Zt.enc AJ)]):=
 st<|bn λ{z0} Xe=>jt Zt.enc [AJ] z0<|jk 1<|ja 7 Zt.A9 AJ<|jx Zt.enc Xe<|je Zt.enc z0<|br Y5x λ{r1}=>it (jk 2<|js Zj.enc r1.1.queue<|jk 3<|js Zj.enc At.queue<|jk 2<|jw (Za.sc {Ad with log:=z0})<|jn Zj.enc r1.1.queue<|cx (A1 1 7++fz 8 2 7168++A1 9 1++fz 10 3 5120++fz 11 3 1024) 7 Zwh)<|jk 7<|jw (Za.sc {Ad with log:=z0})<|jn Zj.enc r1.1.queue<|cx (A1 1 7++fz 8 2 7168++A1 9 1++fz 10 3 5120++fz 11 3 1024) 7 Zwh
theorem Yk9 {x0 x1 r}  : qO x0 x1=some r->Zq Tryz.prog Mo (tB x0 x1 r):=
 fK Tryz.func246<|bd Zh.enc<|bb Zj.enc<|br dY<|it (jk 8<|jw (Za.so x0)<|br Yoi λ{r3}=>jw (Za.sc {x0 with model:=r3.1})<|cx (fz 1 0 0++fz 2 0 7++fz 3 0 10++fz 4 0 11++fz 5 6 2048++fz 6 6 2049++fz 7 6 2051++fz 8 0 36++fz 9 1 0++fz 10 2 8192++fz 11 4 17408) 17 Zxv)<|jw (Za.sc x0)<|cx (Za.ff 1 0 0++fz 9 1 0++fz 10 2 8192++fz 11 4 17408) 13 Zxv
abbrev Zyc (x0:Za) (x1:Zb) (x2:Zr) (r:Bool×Za×Zr):Y:=(210,[.agg (Za.ow x0),.agg (Zb.enc x1),.agg [il x2.A5,il x2.addr,il x2.kind,il x2.Aj,il x2.Aa,il x2.from_,bl x2.ready,il x2.Ar,il x2.C5]],bl r.1,[.agg (Za.ow r.2.1),.undef,.agg [il r.2.2.A5,il r.2.2.addr,il r.2.2.kind,il r.2.2.Aj,il r.2.2.Aa,il r.2.2.from_,bl r.2.2.ready,il r.2.2.Ar,il r.2.2.C5]])
theorem Z0o {x0 x1 x2 r} {Ad}:qP x0 x1 x2 Ad=some r->CS (Zyc x0 x1 x2 r) Tryz.f210 [1,1,1,1,0,1,0,1,1] [] (Za.bk Ad 1++[((0,63),⟨true,true,true,0,[(Za.rl Ad 1)]⟩),((0,191),⟨true,true,true,0,[(Zr.enc {x2 with Ar:=x0.Aa.Ar})]⟩)]):=
 st<|jk 8<|jw (Za.so Ad)<|rt
theorem Z0c {x0 x1 x2 r} {v0}:Ux x0 x1 x2 v0=some r->CS (Zyc x0 x1 x2 r) Tryz.f210 [1,1,1,1,0,1] [(0,.ptr (0,63) 0 0),(4,pt 9),(7,pt 10),(41,bl v0)] (Za.bk x0 1++[((0,63),⟨true,true,true,0,[(Za.rl x0 1)]⟩),((0,191),⟨true,true,true,0,[(Zr.enc {x2 with Ar:=x0.Aa.Ar})]⟩),bx 9 (Zb.enc x1),bx 10 (Zi.enc x0.Aa)]):=
 st<|it (it (jk 8<|jw (Za.so x0)<|br Zyl λ{r0}=>jw (Za.sc {r0 with addr:=Zi.z0})<|cx (Za.ff 1 4 5632) 10 Z0o)<|jw (Za.sc {x0 with Aa:={x0.Aa with second:=true}})<|cx (A1 1 8) 8 Z0o)<|it (bn λW9=>jw (xd Zh.enc W9)<|bn λKk=>jw (xp Zh.enc W9 Kk)<|jk 8<|je Zd.enc x0.Ae.Ab<|jo (Kc Zh.enc Kk)<|je Zk.enc x0.buckets<|je Zc x0.splits<|jw (Zf.so x0.model)<|je Zt.enc x0.log<|br Zyl λ{r1}=>jk 8<|jw (Za.so r1)<|rt)<|it (bn λBU=>bn λCp=>jw (xp Zh.enc BU Cp)<|jk 1<|je Zd.enc x0.Ae.Ab<|br Y0c<|bn λDd=>bn λD8=>jw (xp Zc Dd D8)<|jk 8<|je Zd.enc x0.Ae.Ab<|jo (Kc Zh.enc Cp)<|je Zk.enc x0.buckets<|jo (Kc Zc D8)<|jw (Zf.so x0.model)<|je Zt.enc x0.log<|br Zyl λ{r3}=>jk 8<|jw (Za.so r3)<|rt)<|jk 8<|jw (Za.so x0)<|br Yk9 λ{r4}=>jk 8<|jw (Za.so r4)<|rt
theorem Yrf {x0 x1 x2 r}  : qQ x0 x1 x2=some r->Zq Tryz.prog Mo (Zyc x0 x1 x2 r):=
 fK Tryz.func210<|it (jk 8<|jw (Za.so x0)<|rt)<|it (jk 8<|jw (Za.so x0)<|rt)<|it (jk 3<|jw (Za.sc x0)<|cx (Za.ff 1 0 0++fz 9 1 0++fz 10 2 4096) 19 Z0c)<|jk 3<|jw (Za.sc x0)<|cx (Za.ff 1 0 0++fz 9 1 0++fz 10 2 4096) 19 Z0c
abbrev Y4i (x0:Zg) (x1:Zb) (x2:Int) (r:Int):Y:=(249,[.agg (Zg.enc x0),.agg (Zb.enc x1),il x2],il r,un 3)
theorem Y4h {x0 x1 x2 r}  : qR x0 x1 x2=some r->Zq Tryz.prog Mo (Y4i x0 x1 x2 r):=
 fK Tryz.func249<|br Z8i<|rt
abbrev Y6e (x0:Zb) (x1:Int) (r:Int):Y:=(250,[.agg (Zb.enc x0),il x1],il r,un 2)
theorem Y5v {x0 x1 r}  : qS x0 x1=some r->Zq Tryz.prog Mo (Y6e x0 x1 r):=
 fK Tryz.func250<|br Z8i<|it (jk 3<|rt)<|jk 2<|it rt<|rt
abbrev tC (x0:Za) (x1:Zb) (x2:Zi) (r:Int×Int):Y:=(212,[.rp true (Za.enc x0) 0,.agg (Zb.enc x1),.agg (Zi.enc x2)],.AX [il r.1,il r.2],un 3)
theorem Zqr {x0 x1 x2 r} {Ad v0 v1 v2 v3 v4}:Jf x0 x1 x2 Ad v0 v1 v2 v3 v4=some r->CS (tC x0 x1 x2 r) Tryz.f212 [1,1,1,1,1,1,1,0,1,0,1] [(0,.rp true (Za.enc x0) 0),(5,pt 1),(8,pt 2),(9,il v0),(12,il v1),(13,il v2),(14,il v3),(61,bl v4)] [bx 1 (Zi.enc x2),bx 2 (Zh.enc Ad)]:=
 st<|it rt<|it (jk 2<|it (jk 3<|it (jk 7<|it rt<|rt)<|jk 8<|rt)<|jk 12<|rt)<|jk 15<|rt
theorem Z0g {x0 x1 x2 r} {At v0 v1 v2}:cN x0 x1 x2 At v0 v1 v2=some r->CS (tC x0 x1 x2 r) Tryz.f212 [1,1,1,1,1,1,1] [(0,.rp true (Za.enc x0) 0),(4,pt 1),(5,pt 2),(8,pt 3),(9,il v0),(12,il v1),(13,il v2)] [bx 1 (Zb.enc x1),bx 2 (Zi.enc x2),bx 3 (Zh.enc At)]:=
 st<|br Y5v<|it (jk 2<|it (jk 8<|cx (fz 1 1 2++fz 2 1 3) 6 Zqr)<|jk 8<|cx (fz 1 1 2++fz 2 1 3) 6 Zqr)<|jk 11<|cx (fz 1 1 2++fz 2 1 3) 6 Zqr
theorem Z0s {x0 x1 x2 r} {At v0 v5}:Sg x0 x1 x2 At v0 v5=some r->CS (tC x0 x1 x2 r) Tryz.f212 [1,1,1,0,1] [(0,.rp true (Za.enc x0) 0),(4,pt 1),(5,pt 2),(8,pt 3),(9,il v0),(33,bl v5)] [bx 1 (Zb.enc x1),bx 2 (Zi.enc x2),bx 3 (Zh.enc At)]:=
 st<|it rt<|br Yoi<|br Y4h<|it (cx (A1 1 3) 11 Z0g)<|cx (A1 1 3) 11 Z0g
theorem Ypu {x0 x1 x2 r}  : qT x0 x1 x2=some r->Zq Tryz.prog Mo (tC x0 x1 x2 r):=
 fK Tryz.func212<|bb Zh.enc<|br dY<|br Yix<|it (jk 2<|cx (fz 1 1 0++fz 2 1 1024++fz 3 2 8192) 9 Z0s)<|jk 2<|cx (fz 1 1 0++fz 2 1 1024++fz 3 2 8192) 9 Z0s
abbrev Yxn (x0:Zh) (r:Bool):Y:=(285,[.agg (Zh.enc x0)],bl r,un 1)
theorem Ye3 {x0 r}  : cO x0=some r->Zq Tryz.prog Mo (Yxn x0 r):=
 fK Tryz.func285<|br UP<|it (jk 2<|br dX<|jk 2<|rt)<|jk 4<|rt
abbrev Z9l (x0:Zk) (x1:Zd) (r:Zk×Bool):Y:=(286,[.agg (Zk.enc x0),.agg (Zd.enc x1)],.AX [.agg (Zk.enc r.1),bl r.2],un 2)
theorem Zz1 {x0 x1 r} {v0}:qU x0 x1 v0=some r->CS (Z9l x0 x1 r) Tryz.f286 [1,0,1] [(2,pt 1),(4,pt 2),(14,bl v0)] [bx 1 (Zk.enc x0),bx 2 (Zk.enc Zk.z0)]:=
 st<|it rt<|rt
theorem Yqi {x0 x1 r}  : qV x0 x1=some r->Zq Tryz.prog Mo (Z9l x0 x1 r):=
 fK Tryz.func286<|br Yab<|it (jk 3<|cx (fz 1 1 0++fz 2 1 2048) 5 Zz1)<|jk 3<|cx (fz 1 1 0++fz 2 1 2048) 5 Zz1
abbrev tD (x0:Yg) (x1:Zg) (x2:List Bool) (r:Yg×Int):Y:=(287,[.agg (Yg.enc x0),.agg (Zg.enc x1),.tr (x2.map Yc)],.AX [.agg (Yg.enc r.1),il r.2],un 3)
theorem Yl8 {x0 x1 x2 r}:∀{m v0},qW x0 x1 x2 m v0=some r->CS (tD x0 x1 x2 r) Tryz.f287 [1,1,1,1,0,1,0] [(2,.tr (x2.map Yc)),(3,pt 1),(4,pt 2),(6,pt 3),(8,il (x1.Ab.length:Int)),(9,il v0)] [bx 1 (Yg.enc x0),bx 2 (Zg.enc x1),bx 3 (Yg.enc Yg.z0)]:=by
 intro m
 induction m with
 | zero=>intro v0 h;cases h
 | succ m ih=>exact st<|it (jl<|bo H7<|bb Yc<|it (br Ybj<|rt)<|cx (A1 1 3) 16 ih)<|rt
theorem Z6a {x0 x1 x2 r} {v1}:qX x0 x1 x2 v1=some r->CS (tD x0 x1 x2 r) Tryz.f287 [1,1,1,0,1] [(2,.tr (x2.map Yc)),(3,pt 1),(4,pt 2),(6,pt 3),(8,il (x1.Ab.length:Int)),(34,bl v1)] [bx 1 (Yg.enc x0),bx 2 (Zg.enc x1),bx 3 (Yg.enc Yg.z0)]:=
 st<|it rt<|cx (A1 1 3) 6 Yl8
theorem Z5u {x0 x1 x2 r} {v2}:qY x0 x1 x2 v2=some r->CS (tD x0 x1 x2 r) Tryz.f287 [1,1,0,1] [(2,.tr (x2.map Yc)),(3,pt 1),(4,pt 2),(6,pt 3),(8,il (x1.Ab.length:Int)),(23,bl v2)] [bx 1 (Yg.enc x0),bx 2 (Zg.enc x1),bx 3 (Yg.enc Yg.z0)]:=
 st<|it rt<|it (jk 3<|bb Yc<|jk 2<|cx (A1 1 3) 5 Z6a)<|jk 5<|cx (A1 1 3) 5 Z6a
theorem Y05 {x0 x1 x2 r}  : qZ x0 x1 x2=some r->Zq Tryz.prog Mo (tD x0 x1 x2 r):=
 fK Tryz.func287<|js Zd.enc x1.Ab<|br Ye6<|it (jk 4<|cx (fz 1 1 0++fz 2 1 1024++fz 3 1 2048) 7 Z5u)<|jk 1<|js Yc x2<|jk 3<|cx (fz 1 1 0++fz 2 1 1024++fz 3 1 2048) 7 Z5u
abbrev tE (x0:Za) (r:Int×Int×Za):Y:=(251,[.agg (Za.ow x0)],.AX [il r.1,il r.2.1],[.agg (Za.ow r.2.2)])
theorem Yk7 {x0 r}:∀{m v0 v1 v2},cQ x0 m v0 v1 v2=some r->CS (tE x0 r) Tryz.f251 [1,1,1,1,0,1,0] [(0,.ptr (0,63) 0 0),(4,sq 9 (v0.map Yc).length),(73,sq 9 (v0.map Yc).length),(74,il v1),(75,il v2)] (Za.bk x0 1++[((0,63),⟨true,true,true,0,[(Za.rl x0 1)]⟩),rx 9 4 (v0.map Yc)]):=by
 intro m
 induction m with
 | zero=>intro v0 v1 v2 h;cases h
 | succ m ih=>exactλ{v0} {v1} {v2}=>st<|it (bd Yc<|it (jn Yc v0<|jn Yc v0<|jw (Za.sc x0)<|cx (A1 1 9) 18 ih)<|bn λBU=>jw (xd Zk.enc BU)<|bd Zd.enc<|br Yqi<|it (bn λKk=>jw (xp Zk.enc BU Kk)<|jk 8<|je Zd.enc x0.Ae.Ab<|je Zh.enc x0.m<|jo (Kc Zk.enc Kk)<|je Zc x0.splits<|jw (Zf.so x0.model)<|je Zt.enc x0.log<|rt)<|jn Yc v0<|jn Yc v0<|jw (Za.sc x0)<|cx (A1 1 9) 23 ih)<|it (jk 8<|jw (Za.so x0)<|rt)<|jk 2<|je Zd.enc x0.Ae.Ab<|je Yc v0<|br Y05<|jk 8<|jw (Za.so x0)<|rt
theorem Z4z {x0 r} {v0 v3}:q6 x0 v0 v3=some r->CS (tE x0 r) Tryz.f251 [1,1,1,0,1] [(0,.ptr (0,63) 0 0),(4,sq 9 (v0.map Yc).length),(68,bl v3)] (Za.bk x0 1++[((0,63),⟨true,true,true,0,[(Za.rl x0 1)]⟩),rx 9 4 (v0.map Yc)]):=
 st<|it (jk 8<|jw (Za.so x0)<|rt)<|js Yc v0<|jn Yc v0<|jn Yc v0<|jw (Za.sc x0)<|cx (A1 1 9) 6 Yk7
end Go.Proofs.YthdljdelfgofdaaGreatDoor.Ev
