/- A part of the proof of FnExactDesk: see the text YthdljdelfgofdaaGreatDoorLawFnExactDesk for what is proved and its conditions. Conditions here: those in each line. -/
import Derived.Test.YthdljdelfgofdaaGreatDoorA5
set_option linter.unusedSimpArgs false
set_option linter.unusedVariables false
set_option linter.unusedSectionVars false
namespace Go.Proofs.YthdljdelfgofdaaGreatDoor.Ev
open Go Go.Proofs
variable [Anchor] [BG]
theorem Yj2 {x0 r}:∀{m v0 v1},T1 x0 m v0 v1=some r->CS (Yhg x0 r) Tryz.f24 [1,1,0,1,0] [(0,.tr (x0.map Zp)),(3,sq 1 (v0.map Zc).length),(4,il v1)] [rx 1 3 (v0.map Zc)]:=by
 intro m
 induction m with
 | zero=>intro v0 v1 h;cases h
 | succ m ih=>exactλ{v0} {v1}=>st<|js Zp x0<|it (bb Zp<|br Yc4 λ{r0}=>bn λ{z0} Xf=>jt Zc [r0] z0<|jk 1<|ja 1 Ju r0<|jx Zc Xf<|jn Zc z0<|je Zc z0<|cx (fz 1 3 7168) 11 ih)<|jk 1<|je Zc v0<|rt
theorem Z5v {x0 r}  : Rn x0=some r->Zr Tryz.prog Mo (Yhg x0 r):=
 fK Tryz.func24<|jp (.num ([].map Zc).length 0 0 [])<|jo (show 0=([].map Zc).length from rfl)<|cx (fz 1 2 0) 8 Yj2
abbrev qL (x0:Zk) (r:ByteArray):Y:=(58,[.agg (Zk.enc x0)],ss r,un 1)
theorem Ykh {x0 r}:∀{m v0 v1},T2 x0 m v0 v1=some r->CS (qL x0 r) Tryz.f58 [1,1,1,1,1,1,0,1,0] [(1,pt 1),(3,ss v0),(4,il v1)] [bx 1 (Zk.enc x0)]:=by
 intro m
 induction m with
 | zero=>intro v0 v1 h;cases h
 | succ m ih=>exact st<|js Zc x0.Aa<|it (jl<|bo Yi<|bb Zc<|br K6<|jl<|bo Yi<|cx (Ay 1 1) 11 ih)<|rt
theorem Z3y {x0 r} {v0}:mF x0 v0=some r->CS (qL x0 r) Tryz.f58 [1,1,1,1,1,1] [(1,pt 1),(3,ss v0)] [bx 1 (Zk.enc x0)]:=
 st<|cx (Ay 1 1) 4 Ykh
theorem Z46 {x0 r} {v0}:Zip x0 v0=some r->CS (qL x0 r) Tryz.f58 [1,1,1,1] [(1,pt 1),(3,ss v0)] [bx 1 (Zk.enc x0)]:=
 st<|jl<|bo Yi<|bd Zp<|jl<|jl<|bo Yi<|bo Yi<|bd Zp<|jl<|jl<|bo Yi<|bo Yi<|br K6<|jl<|bo Yi<|it (jl<|bo Yi<|cx (Ay 1 1) 7 Z3y)<|cx (Ay 1 1) 7 Z3y
theorem Ygl {x0 r}  : T3 x0=some r->Zr Tryz.prog Mo (qL x0 r):=
 fK Tryz.func58<|br zR<|it rt<|it (cx (fz 1 1 0) 14 Z46)<|cx (fz 1 1 0) 14 Z46
abbrev qM (x0:ByteArray) (r:Zk×Bool):Y:=(25,[ss x0],.AW [.agg [bl r.1.write,il r.1.addr,il r.1.size,il r.1.Az,bl r.1.lock,.own 3 (r.1.Aa.map Zc)],bl r.2],un 1)
theorem Ymn {x0 r}:∀{m Ad v0 v1},Kv x0 m Ad v0 v1=some r->CS (qM x0 r) Tryz.f25 [1,1,1,1,1,1,1,0,1,0] [(0,ss x0),(2,pt 1),(4,.tr (v0.map Zp)),(5,pt 3),(6,il v1)] [rx 2 3 ([].map Zc),bx 1 [bl false,il 0,il 0,il 0,bl false,sq 2 ([].map Zc).length],rx 4 3 (Ad.Aa.map Zc),bx 3 [bl Ad.write,il Ad.addr,il Ad.size,il Ad.Az,bl Ad.lock,sq 4 (Ad.Aa.map Zc).length]]:=by
 intro m
 induction m with
 | zero=>intro Ad v0 v1 h;cases h
 | succ m ih=>exactλ{Ad} {v0} {v1}=>st<|js Zp v0<|it (bb Zp<|br Yc4 λ{r0}=>bn λ{z0} Xf=>jt Zc [r0] z0<|jk 1<|ja 1 Ju r0<|jx Zc Xf<|je Zc z0<|jn Zc []<|jn Zc z0<|cx (Ay 1 3++fz 4 3 8192) 11 ih)<|jk 1<|je Zc Ad.Aa<|br Ygl<|it rt<|jk 1<|je Zc Ad.Aa<|rt
theorem Z3u {x0 r} {Ad v0}:T4 x0 Ad v0=some r->CS (qM x0 r) Tryz.f25 [1,1,1,1,1,1,1] [(0,ss x0),(2,pt 1),(4,.tr (v0.map Zp)),(5,pt 3)] [rx 2 3 ([].map Zc),bx 1 [bl false,il 0,il 0,il 0,bl false,sq 2 ([].map Zc).length],rx 4 3 (Ad.Aa.map Zc),bx 3 [bl Ad.write,il Ad.addr,il Ad.size,il Ad.Az,bl Ad.lock,sq 4 (Ad.Aa.map Zc).length]]:=
 st<|jn Zc []<|jn Zc Ad.Aa<|cx (Ay 1 4) 4 Ymn
theorem Z4r {x0 r} {Ad v0 v2}:Oh x0 Ad v0 v2=some r->CS (qM x0 r) Tryz.f25 [1,1,1,1,1,1,0,1] [(0,ss x0),(2,pt 1),(4,.tr (v0.map Zp)),(5,pt 3),(43,bl v2)] [rx 2 3 ([].map Zc),bx 1 [bl false,il 0,il 0,il 0,bl false,sq 2 ([].map Zc).length],rx 4 3 (Ad.Aa.map Zc),bx 3 [bl Ad.write,il Ad.addr,il Ad.size,il Ad.Az,bl Ad.lock,sq 4 (Ad.Aa.map Zc).length]]:=
 st<|it (bn λ{s0} Qu=>jp (.num (1:Int).toNat ((v0.length:Int):Int).toNat 0 (s0.map Zp))<|jo (DL Qu).1<|jo (Gi Zp v0)<|jo (Eb Zp Qu)<|jo (CF 1 Qx v0)<|jo (E3 Zp Qu)<|jn Zc []<|jn Zc Ad.Aa<|cx (Ay 1 4) 4 Z3u)<|jn Zc []<|jn Zc Ad.Aa<|cx (Ay 1 4) 2 Z3u
theorem Yx9 {x0 r}  : T5 x0=some r->Zr Tryz.prog Mo (qM x0 r):=
 fK Tryz.func25<|br RG λ{r2}=>js Zp r2<|it rt<|bb Zp<|bb Zp<|jk 1<|jo (show 3=([(Zd [98,121,116,101]),(Zd [104,97,108,102]),(Zd [119,111,114,100])].map Zp).length from rfl)<|br zM<|bb Zp<|jk 1<|jo (show 4=([(Zd [111,110,101]),(Zd [102,111,117,114]),(Zd [119,114,97,112]),(Zd [101,105,103,104,116])].map Zp).length from rfl)<|br zM<|bb Zp<|br Yc4<|bn λ{s1} Cc=>jp (.num (4:Int).toNat ((r2.length:Int):Int).toNat 0 (s1.map Zp))<|jo (DL Cc).1<|jo (Gi Zp r2)<|jo (Eb Zp Cc)<|jo (CF 1 Qx r2)<|jo (E3 Zp Cc)<|js Zp s1<|it (jk 1<|bb Zp<|jk 3<|cx (fz 1 1 0++fz 3 4 15360) 18 Z4r)<|jk 4<|cx (fz 1 1 0++fz 3 4 15360) 18 Z4r
abbrev Yhb (x0:ByteArray) (x1:List Int) (r:ByteArray):Y:=(63,[ss x0,.tr (x1.map Zc)],ss r,un 2)
theorem Yls {x0 x1 r}:∀{m v0 v1},ZN x0 x1 m v0 v1=some r->CS (Yhb x0 x1 r) Tryz.f63 [1,1,1,0,1,0] [(1,.tr (x1.map Zc)),(5,ss v0),(6,il v1)] []:=by
 intro m
 induction m with
 | zero=>intro v0 v1 h;cases h
 | succ m ih=>exact st<|js Zc x1<|it (jl<|bo Yi<|bb Zc<|br K6<|jl<|bo Yi<|cx [] 11 ih)<|jl<|bo Yi<|rt
theorem Yhp {x0 x1 r}  : ZO x0 x1=some r->Zr Tryz.prog Mo (Yhb x0 x1 r):=
 fK Tryz.func63<|js Zc x1<|it rt<|cx [] 13 Yls
abbrev Z73 (x0:Zb) (r:ByteArray):Y:=(26,[.agg (Zb.enc x0)],ss r,un 1)
theorem Ybi {x0 r}:∀{m v0 v1},ZP x0 m v0 v1=some r->CS (Z73 x0 r) Tryz.f26 [1,1,0,1,0] [(1,pt 1),(3,ss v0),(4,il v1)] [bx 1 (Zb.enc x0)]:=by
 intro m
 induction m with
 | zero=>intro v0 v1 h;cases h
 | succ m ih=>exact st<|js Zl.enc x0.Al<|it (bn λQe=>jb Zl.enc Qe<|br Ygl<|it rt<|jl<|bo Yi<|jb Zl.enc Qe<|br K6<|jl<|jl<|bo Yi<|bo Yi<|jb Zl.enc Qe<|br K6<|jl<|jl<|jl<|jl<|bo Yi<|bo Yi<|bo Yi<|bo Yi<|cx (Ay 1 1) 18 ih)<|rt
theorem Yov {x0 r}  : mH x0=some r->Zr Tryz.prog Mo (Z73 x0 r):=
 fK Tryz.func26<|br Yhp<|br Yhp<|jl<|bo Yi<|cx (fz 1 1 0) 8 Ybi
abbrev Z7m (x0:ByteArray) (r:Zb×Bool):Y:=(7,[ss x0],.AW [.agg (Zb.ow r.1),bl r.2],un 1)
theorem Yej {x0 r}:∀{m Ad v0 v1},Ro x0 m Ad v0 v1=some r->CS (Z7m x0 r) Tryz.f7 [1,1,1,0,1,0] [(0,ss x0),(2,pt 1),(4,pt 5),(5,.tr (v0.map Zp)),(6,il v1)] (Zb.bk Zb.z0 2++[bx 1 (Zb.rl Zb.z0 2)]++Zb.bk Ad 6++[bx 5 (Zb.rl Ad 6)]):=by
 intro m
 induction m with
 | zero=>intro Ad v0 v1 h;cases h
 | succ m ih=>exactλ{Ad} {v0} {v1}=>st<|js Zp v0<|it (bn λQe=>jb Zp Qe<|br RG λ{r0}=>bn λCz=>jb Zp Cz<|it (bn λ{s0} Qu=>jp (.num (1:Int).toNat ((r0.length:Int):Int).toNat 0 (s0.map Zp))<|jo (DL Qu).1<|jo (Gi Zp r0)<|jo (Eb Zp Qu)<|jo (CF 1 Qx r0)<|jo (E3 Zp Qu)<|br Z5v λ{r1}=>jw (Zb.sc Zb.z0)<|jw (Zb.sc {Ad with waits:=r1})<|cx (Ay 1 6++fz 7 5 2048++Ay 8 1) 18 ih)<|jb Zp Cz<|it (bn λ{s1} Cc=>jp (.num (1:Int).toNat ((r0.length:Int):Int).toNat 0 (s1.map Zp))<|jo (DL Cc).1<|jo (Gi Zp r0)<|jo (Eb Zp Cc)<|jo (CF 1 Qx r0)<|jo (E3 Zp Cc)<|br Z5v λ{r2}=>jw (Zb.sc Zb.z0)<|jw (Zb.sc {Ad with A3:=r2})<|cx (Ay 1 7++fz 8 6 2048) 21 ih)<|js Zp r0<|it (bn λ{s2} Dj=>jp (.num (1:Int).toNat (3:Int).toNat 0 (s2.map Zp))<|jo (DL Dj).1<|jo (DL Dj).2<|jo (Eb Zp Dj)<|jo (CF 1 Qx r0)<|jo (E3 Zp Dj)<|br Z5v<|jb Zp Qe<|jb Zp Qe<|jb Zp Cz<|bb Zp<|bb Zp<|bn λ{s3} hs3=>jp (.val (.lit (.string s3)))<|jo (Mv hs3)<|br Yx9 λ{r4}=>bd Zc λ{a4}=>bd Zc λ{a5}=>jk 1<|bn λ{z0} Xf=>jt Zl.enc [(Zl.mk a4 a5 r4.1)] z0<|jk 1<|je Zc r4.1.Aa<|ja 8 Zl.A8 (Zl.mk a4 a5 r4.1)<|jx Zl.enc Xf<|je Zl.enc z0<|jw (Zb.sc Zb.z0)<|jw (Zb.sc {Ad with Al:=z0})<|cx (Ay 1 5++fz 6 9 11264++Ay 7 2) 28 ih)<|jw (Zb.sc Zb.z0)<|jw (Zb.sc Ad)<|cx (Ay 1 8) 24 ih)<|jk 3<|jw (Zb.so Ad)<|br Yov<|it rt<|jk 3<|jw (Zb.so Ad)<|rt
theorem Yok {x0 r}  : Rp x0=some r->Zr Tryz.prog Mo (Z7m x0 r):=
 fK Tryz.func7<|br RG<|cx (fz 1 1 0++fz 5 2 1024) 10 Yej
abbrev Yf2 (x0:Zx) (x1:ByteArray) (r:Zx×ByteArray):Y:=(53,[.agg (Zx.ow x0),ss x1],.AW [.agg (Zx.ow r.1),ss r.2],un 2)
theorem Zux {x0 x1 r} {v0 v1}:T6 x0 x1 v0 v1=some r->CS (Yf2 x0 x1 r) Tryz.f53 [1,1,1,0,1,0,1,1,1] [(1,ss x1),(2,pt 1),(4,pt 14),(6,.tr (v0.map Zp)),(37,bl v1)] (Zx.bk x0 2++[bx 1 (Zx.rl x0 2)]++Zx.bk Zx.z0 15++[bx 14 (Zx.rl Zx.z0 15)]):=
 st<|it (jl<|bo Yi<|br Yok λ{r0}=>it (jk 12<|jw (Zx.so x0)<|rt)<|bn λQe=>jb Zp Qe<|it (jk 12<|je Ze.enc x0.c.Ab<|je Zl.enc x0.s.Al<|je Zc r0.1.waits<|je Zc x0.s.A3<|jw (Za.so x0.b)<|rt)<|jb Zp Qe<|it (jk 12<|je Ze.enc x0.c.Ab<|je Zl.enc x0.s.Al<|je Zc x0.s.waits<|je Zc r0.1.A3<|jw (Za.so x0.b)<|rt)<|bn λ{z0} Xf=>jt Zl.enc x0.s.Al z0<|jk 1<|bn λ{z1} Ej=>jt Zl.enc r0.1.Al z1<|jk 13<|je Zl.enc x0.s.Al<|jo (Eq.refl (x0.s.Al.map Zl.enc))<|jo (CF 8 Zl.A8 x0.s.Al)<|jo (show 0=([].map Zl.enc).length from rfl)<|jo (Fu Zl.enc Xf)<|jo (GH Zl.enc Xf)<|je Zl.enc z0<|je Zl.enc r0.1.Al<|jo (Eq.refl (r0.1.Al.map Zl.enc))<|jo (CF 8 Zl.A8 r0.1.Al)<|jx Zl.enc Ej<|je Zl.enc z1<|je Ze.enc x0.c.Ab<|je Zl.enc z1<|je Zc x0.s.waits<|je Zc x0.s.A3<|jw (Za.so x0.b)<|rt)<|jk 12<|jw (Zx.so x0)<|rt
theorem Yy6 {x0 x1 r}  : Rq x0 x1=some r->Zr Tryz.prog Mo (Yf2 x0 x1 r):=
 fK Tryz.func53<|br RG λ{r1}=>js Zp r1<|it (jk 12<|jw (Zx.so x0)<|br Y15 λ{r2}=>jk 12<|jw (Zx.so r2.1)<|rt)<|bb Zp<|it (bn λ{s0} Qu=>jp (.val (.lit (.string s0)))<|jo (Mv Qu)<|br Ywh λ{r3}=>it (jk 12<|jw (Zx.so x0)<|rt)<|jk 1<|je Ze.enc r3.1.Ab<|rt)<|it (jw (Zx.sc x0)<|cx (fz 1 1 0++Zx.ff 2 0 0++fz 14 1 1024) 21 Zux)<|it (jw (Zx.sc x0)<|cx (fz 1 1 0++Zx.ff 2 0 0++fz 14 1 1024) 24 Zux)<|jw (Zx.sc x0)<|cx (fz 1 1 0++Zx.ff 2 0 0++fz 14 1 1024) 24 Zux
abbrev qN (x0:ByteArray) (r:ByteArray):Y:=(20,[ss x0],ss r,un 1)
theorem Ywd {x0 r}:∀{m Ad v0 v1 v2},ZQ x0 m Ad v0 v1 v2=some r->CS (qN x0 r) Tryz.f20 [1,1,1,1,1,1,0,1,0] [(3,.tr (v0.map Zp)),(4,pt 1),(5,ss v1),(6,il v2)] (Zx.bk Ad 2++[bx 1 (Zx.rl Ad 2)]):=by
 intro m
 induction m with
 | zero=>intro Ad v0 v1 v2 h;cases h
 | succ m ih=>exactλ{Ad} {v0} {v1} {v2}=>st<|js Zp v0<|it (bn λQe=>jb Zp Qe<|it (jw (Zx.sc Ad)<|cx (Ay 1 13) 16 ih)<|jb Zp Qe<|jk 12<|jw (Zx.so Ad)<|br Yy6 λ{r0}=>jl<|jl<|bo Yi<|bo Yi<|jw (Zx.sc r0.1)<|cx (Ay 1 1++Zx.ff 2 4 5120) 20 ih)<|rt
theorem Yem {x0 r} {v0 v3}:y6 x0 v0 v3=some r->CS (qN x0 r) Tryz.f20 [1,1,1,0,1] [(3,.tr (v0.map Zp)),(30,bl v3)] []:=
 st<|it rt<|cx (fz 1 2 1024) 10 Ywd
theorem Ycl {x0 r} {v0}:Rr x0 v0=some r->CS (qN x0 r) Tryz.f20 [1,1,1] [(0,ss x0),(3,.tr (v0.map Zp))] []:=
 st<|it (jk 3<|cx [] 3 Yem)<|jk 1<|js Zp v0<|jk 2<|cx [] 3 Yem
theorem Y9u {x0 r}  : mI x0=some r->Zr Tryz.prog Mo (qN x0 r):=
 fK Tryz.func20<|br RG λ{r1}=>js Zp r1<|bb Zp<|it (js Zp r1<|bn λ{s0} Qu=>jp (.num (0:Int).toNat ((Xd (r1.length:Int) 1):Int).toNat 0 (s0.map Zp))<|jo (Eq.refl 0)<|jo (DL Qu).2<|jo (Eb Zp Qu)<|jo (CF 1 Qx r1)<|jo (E3 Zp Qu)<|cx [] 9 Ycl)<|cx [] 9 Ycl
abbrev Ygm (x0:List ByteArray) (r:List Int×Bool):Y:=(29,[.tr (x0.map Zp)],.AW [.own 3 (r.1.map Zc),bl r.2],un 1)
theorem Yli {x0 r}:∀{m v0 v1},Oj x0 m v0 v1=some r->CS (Ygm x0 r) Tryz.f29 [1,1,0,1,0] [(4,sq 1 (v0.map Zc).length),(10,.tr (x0.map Zp)),(11,il (x0.length:Int)),(12,il v1)] [rx 1 3 (v0.map Zc)]:=by
 intro m
 induction m with
 | zero=>intro v0 v1 h;cases h
 | succ m ih=>exactλ{v0} {v1}=>st<|it (bb Zp<|br Ykr λ{r0}=>it rt<|bn λ{z0} Xf=>jt Zc [r0.1] z0<|jk 1<|ja 1 Ju r0.1<|jx Zc Xf<|jn Zc z0<|je Zc z0<|cx (fz 1 6 3072) 20 ih)<|jk 1<|je Zc v0<|rt
theorem bW {x0 r}  : Lb x0=some r->Zr Tryz.prog Mo (Ygm x0 r):=
 fK Tryz.func29<|js Zp x0<|jp (.num ([].map Zc).length 0 0 [])<|jo (show 0=([].map Zc).length from rfl)<|cx (fz 1 2 0) 8 Yli
abbrev Y2z (x0:Int) (x1:Int) (x2:Int) (r:Bool):Y:=(180,[il x0,il x1,il x2],bl r,un 3)
theorem Xc {x0 x1 x2 r}  : Ym x0 x1 x2=some r->Zr Tryz.prog Mo (Y2z x0 x1 x2 r):=
 fK Tryz.func180<|it (jk 3<|rt)<|jk 3<|rt
abbrev Yky (x0:Zh) (r:Int):Y:=(235,[.agg (Zh.enc x0)],il r,un 1)
theorem Z7s {x0 r} {v0}:y7 x0 v0=some r->CS (Yky x0 r) Tryz.f235 [1,0,1] [(1,pt 1),(12,bl v0)] [bx 1 (Zh.enc x0)]:=
 st<|it rt<|rt
theorem Ykl {x0 r}  : ZR x0=some r->Zr Tryz.prog Mo (Yky x0 r):=
 fK Tryz.func235<|br Xc<|it (jk 4<|cx (fz 1 1 0) 5 Z7s)<|jk 2<|br Xc<|jk 2<|cx (fz 1 1 0) 5 Z7s
abbrev Y37 (x0:Zh) (r:Int):Y:=(197,[.agg (Zh.enc x0)],il r,un 1)
theorem Ymb {x0 r}  : ZS x0=some r->Zr Tryz.prog Mo (Y37 x0 r):=
 fK Tryz.func197<|br Ykl<|it (jk 5<|rt)<|jk 2<|br Xc<|jk 2<|it rt<|br Ykl<|rt
abbrev Yqa (x0:Zh) (r:Int):Y:=(237,[.agg (Zh.enc x0)],il r,un 1)
theorem Yr7 {x0 r}:∀{m v0 v1},mJ x0 m v0 v1=some r->CS (Yqa x0 r) Tryz.f237 [1,1,0,1,0] [(3,il v0),(7,.tr (x0.Ab.map Ze.enc)),(8,il (x0.Ab.length:Int)),(9,il v1)] []:=by
 intro m
 induction m with
 | zero=>intro v0 v1 h;cases h
 | succ m ih=>exact st<|it (bb Ze.enc<|it (cx [] 16 ih)<|cx [] 16 ih)<|rt
theorem Y5v {x0 r}  : mK x0=some r->Zr Tryz.prog Mo (Yqa x0 r):=
 fK Tryz.func237<|js Ze.enc x0.Ab<|cx [] 8 Yr7
abbrev Ynm (x0:Zh) (r:Int):Y:=(200,[.agg (Zh.enc x0)],il r,un 1)
theorem Yon {x0 r}  : mL x0=some r->Zr Tryz.prog Mo (Ynm x0 r):=
 fK Tryz.func200<|br Ymb<|br Y5v<|rt
abbrev Ysv (x0:Ze) (x1:Zh) (r:Bool):Y:=(199,[.agg (Ze.enc x0),.rp true (Zh.enc x1) 0],bl r,un 2)
theorem Ywa {x0 x1 r}  : mM x0 x1=some r->Zr Tryz.prog Mo (Ysv x0 x1 r):=
 fK Tryz.func199<|br Xc<|it rt<|it (br Yon<|br Xc<|it (jk 4<|rt)<|jk 2<|br Xc<|jk 2<|rt)<|it (jk 3<|rt)<|jk 3<|rt
abbrev Zb2 (x0:List Ze) (Bf:Zh) (r:Int):Y:=(236,[.tr (x0.map Ze.enc),.fn 199 [.rp true (Zh.enc Bf) 0]],il r,un 2)
theorem Zhx {x0 Bf r}:∀{m v0},Y8 x0 Bf m v0=some r->CS (Zb2 x0 Bf r) Tryz.f236 [1,0,1,0] [(0,.tr (x0.map Ze.enc)),(1,.fn 199 [.rp true (Zh.enc Bf) 0]),(7,il (x0.length:Int)),(8,il v0)] []:=by
 intro m
 induction m with
 | zero=>intro v0 h;cases h
 | succ m ih=>exact st<|it (bb Ze.enc<|br Ywa<|it rt<|cx [] 16 ih)<|rt
theorem Zkm {x0 Bf r}  : Kq x0 Bf=some r->Zr Tryz.prog Mo (Zb2 x0 Bf r):=
 fK Tryz.func236<|js Ze.enc x0<|cx [] 6 Zhx
abbrev Ziu (x0:List Ze) (Bf:Zh) (r:Bool):Y:=(198,[.tr (x0.map Ze.enc),.fn 199 [.rp true (Zh.enc Bf) 0]],bl r,un 2)
theorem Zi3 {x0 Bf r}  : Wk x0 Bf=some r->Zr Tryz.prog Mo (Ziu x0 Bf r):=
 fK Tryz.func198<|br Zkm<|rt
abbrev Y2p (x0:Zh) (r:Bool):Y:=(156,[.agg (Zh.enc x0)],bl r,un 1)
theorem Uc {x0 r}  : Lc x0=some r->Zr Tryz.prog Mo (Y2p x0 r):=
 fK Tryz.func156<|js Ze.enc x0.Ab<|br Xc<|it (jk 14<|rt)<|jk 2<|br Xc<|jk 2<|it (jk 9<|rt)<|jk 2<|br Xc<|jk 2<|it (jk 4<|rt)<|jk 1<|br Ymb<|jk 2<|it rt<|br Zi3<|rt
abbrev Xb6 (x0:Int) (r:ByteArray):Y:=(76,[il x0],ss r,un 1)
theorem Hm {x0 r}  : FL x0=some r->Zr Tryz.prog Mo (Xb6 x0 r):=
 fK Tryz.func76<|br Ynl<|rt
abbrev Ys6 (x0:List Int) (r:List ByteArray):Y:=(125,[.tr (x0.map Zc)],.own 9 (r.map Zp),un 1)
theorem Yud {x0 r}:∀{m v0 v1},mP x0 m v0 v1=some r->CS (Ys6 x0 r) Tryz.f125 [1,1,0,1,0] [(3,sq 1 (v0.map Zp).length),(7,.tr (x0.map Zc)),(8,il (x0.length:Int)),(9,il v1)] [rx 1 9 (v0.map Zp)]:=by
 intro m
 induction m with
 | zero=>intro v0 v1 h;cases h
 | succ m ih=>exactλ{v0} {v1}=>st<|it (bb Zc<|br Hm λ{r0}=>bn λ{z0} Xf=>jt Zp [r0] z0<|jk 1<|ja 1 Qx r0<|jx Zp Xf<|jn Zp z0<|je Zp z0<|cx (fz 1 4 4096) 13 ih)<|jk 1<|je Zp v0<|rt
theorem bX {x0 r}  : Ld x0=some r->Zr Tryz.prog Mo (Ys6 x0 r):=
 fK Tryz.func125<|js Zc x0<|jp (.num ([].map Zp).length 0 0 [])<|jo (show 0=([].map Zp).length from rfl)<|cx (fz 1 2 0) 8 Yud
abbrev Yc3 (x0:Zh) (r:ByteArray):Y:=(104,[.agg (Zh.enc x0)],ss r,un 1)
theorem Yie {x0 r}:∀{m v0 v1},mR x0 m v0 v1=some r->CS (Yc3 x0 r) Tryz.f104 [1,1,1,0,1,0] [(3,sq 1 (v0.map Zp).length),(23,.tr (x0.Ab.map Ze.enc)),(24,il (x0.Ab.length:Int)),(25,il v1)] [rx 1 9 (v0.map Zp)]:=by
 intro m
 induction m with
 | zero=>intro v0 v1 h;cases h
 | succ m ih=>exactλ{v0} {v1}=>st<|it (bb Ze.enc λ{a0}=>br Hm λ{r0}=>it (jk 1<|jo (show 3=([a0.weight,a0.every,a0.cap].map Zc).length from rfl)<|br bX λ{r1}=>jk 1<|je Zp r1<|br Ou λ{r2}=>bn λ{z0} Xf=>jt Zp [r2] z0<|jk 1<|ja 1 Qx r2<|jx Zp Xf<|jn Zp z0<|je Zp z0<|cx (fz 1 7 3072) 20 ih)<|bn λ{z0} Xf=>jt Zp [r0] z0<|jk 1<|ja 1 Qx r0<|jx Zp Xf<|jn Zp z0<|je Zp z0<|cx (fz 1 6 3072) 20 ih)<|jk 1<|je Zp v0<|br Ou<|rt
theorem Z2t {x0 r}  : Rv x0=some r->Zr Tryz.prog Mo (Yc3 x0 r):=
 fK Tryz.func104<|br Uc<|it rt<|jk 1<|jo (show 5=([x0.Av,x0.As,x0.An,x0.Ap,x0.Am].map Zc).length from rfl)<|br bX λ{r5}=>js Ze.enc x0.Ab<|jn Zp r5<|cx (fz 1 3 11264) 13 Yie
abbrev RH (x0:ByteArray) (r:Zh×Bool):Y:=(102,[ss x0],.AW [.agg [.own 83 (r.1.Ab.map Ze.enc),il r.1.Av,il r.1.As,il r.1.An,il r.1.Ap,il r.1.Am],bl r.2],un 1)
theorem Z12 {x0 r} {AM:Zh->(List ByteArray)->Int->Int->Option (Zh×Bool)} (By:∀{Ad v1 v2 v3},AM Ad v1 v2 v3=some r->CS (RH x0 r) Tryz.f102 [1,1,1,1,1,1,0,1,0] [(0,ss x0),(2,pt 1),(7,pt 3),(49,.tr (v1.map Zp)),(50,il v2),(51,il v3)] [rx 2 83 ([].map Ze.enc),bx 1 [sq 2 ([].map Ze.enc).length,il 0,il 0,il 0,il 0,il 0],rx 4 83 (Ad.Ab.map Ze.enc),bx 3 [sq 4 (Ad.Ab.map Ze.enc).length,il Ad.Av,il Ad.As,il Ad.An,il Ad.Ap,il Ad.Am]]) {Ad v0 v1 v2 v3 v4}:Rw x0 AM Ad v0 v1 v2 v3 v4=some r->CS (RH x0 r) Tryz.f102 [1,1,1,1,1,1,0,1,0,0,1,1,0,0,1,1,0,1,1,1] [(0,ss x0),(2,pt 1),(7,pt 3),(10,sq 5 (v0.map Zc).length),(49,.tr (v1.map Zp)),(50,il v2),(51,il v3),(78,bl v4)] [rx 2 83 ([].map Ze.enc),bx 1 [sq 2 ([].map Ze.enc).length,il 0,il 0,il 0,il 0,il 0],rx 4 83 (Ad.Ab.map Ze.enc),bx 3 [sq 4 (Ad.Ab.map Ze.enc).length,il Ad.Av,il Ad.As,il Ad.An,il Ad.Ap,il Ad.Am],rx 5 3 (v0.map Zc)]:=
 st<|it (bd Zc λ{a0}=>bd Zc λ{a1}=>bd Zc λ{a2}=>bn λ{z0} Xf=>jt Ze.enc [(Ze.mk a0 true a1 a2)] z0<|jk 1<|ja 4 Ze.A8 (Ze.mk a0 true a1 a2)<|jx Ze.enc Xf<|je Ze.enc z0<|jn Ze.enc []<|jn Ze.enc z0<|cx (Ay 1 3++fz 4 2 13312) 5 By)<|rt
theorem Z18 {x0 r} {AM:Zh->(List ByteArray)->Int->Int->Option (Zh×Bool)} (By:∀{Ad v1 v2 v3},AM Ad v1 v2 v3=some r->CS (RH x0 r) Tryz.f102 [1,1,1,1,1,1,0,1,0] [(0,ss x0),(2,pt 1),(7,pt 3),(49,.tr (v1.map Zp)),(50,il v2),(51,il v3)] [rx 2 83 ([].map Ze.enc),bx 1 [sq 2 ([].map Ze.enc).length,il 0,il 0,il 0,il 0,il 0],rx 4 83 (Ad.Ab.map Ze.enc),bx 3 [sq 4 (Ad.Ab.map Ze.enc).length,il Ad.Av,il Ad.As,il Ad.An,il Ad.Ap,il Ad.Am]]) {Ad v0 v5 v1 v2 v3 v6}:Rx x0 AM Ad v0 v5 v1 v2 v3 v6=some r->CS (RH x0 r) Tryz.f102 [1,1,1,1,1,1,0,1,0,0,1,1,0,0,1,1,0,1] [(0,ss x0),(2,pt 1),(7,pt 3),(10,sq 5 (v0.map Zc).length),(11,bl v5),(49,.tr (v1.map Zp)),(50,il v2),(51,il v3),(62,bl v6)] [rx 2 83 ([].map Ze.enc),bx 1 [sq 2 ([].map Ze.enc).length,il 0,il 0,il 0,il 0,il 0],rx 4 83 (Ad.Ab.map Ze.enc),bx 3 [sq 4 (Ad.Ab.map Ze.enc).length,il Ad.Av,il Ad.As,il Ad.An,il Ad.Ap,il Ad.Am],rx 5 3 (v0.map Zc)]:=
 st<|it (bd Zc λ{a3}=>bn λ{z1} Ej=>jt Ze.enc [(Ze.mk a3 false 0 0)] z1<|jk 1<|ja 4 Ze.A8 (Ze.mk a3 false 0 0)<|jx Ze.enc Ej<|je Ze.enc z1<|jn Ze.enc []<|jn Ze.enc z1<|cx (Ay 1 3++fz 4 2 7168) 5 By)<|it (jk 1<|js Zc v0<|jk 2<|jn Zc v0<|jn Ze.enc []<|jn Ze.enc Ad.Ab<|cx (Ay 1 5) 3 (Z12 By))<|jk 3<|jn Zc v0<|jn Ze.enc []<|jn Ze.enc Ad.Ab<|cx (Ay 1 5) 3 (Z12 By)
theorem Yix {x0 r}:∀{m Ad v1 v2 v3},Ql x0 m Ad v1 v2 v3=some r->CS (RH x0 r) Tryz.f102 [1,1,1,1,1,1,0,1,0] [(0,ss x0),(2,pt 1),(7,pt 3),(49,.tr (v1.map Zp)),(50,il v2),(51,il v3)] [rx 2 83 ([].map Ze.enc),bx 1 [sq 2 ([].map Ze.enc).length,il 0,il 0,il 0,il 0,il 0],rx 4 83 (Ad.Ab.map Ze.enc),bx 3 [sq 4 (Ad.Ab.map Ze.enc).length,il Ad.Av,il Ad.As,il Ad.An,il Ad.Ap,il Ad.Am]]:=by
 intro m
 induction m with
 | zero=>intro Ad v1 v2 v3 h;cases h
 | succ m ih=>exactλ{Ad} {v1} {v2} {v3}=>st<|it (bb Zp<|br TT<|br bW λ{r1}=>it (jk 1<|js Zc r1.1<|jk 2<|jn Zc r1.1<|jn Ze.enc []<|jn Ze.enc Ad.Ab<|cx (Ay 1 4++fz 5 4 2048) 15 (Z18 ih))<|jk 3<|jn Zc r1.1<|jn Ze.enc []<|jn Ze.enc Ad.Ab<|cx (Ay 1 4++fz 5 4 2048) 15 (Z18 ih))<|jk 1<|je Ze.enc Ad.Ab<|br Uc<|it (jk 5<|rt)<|jk 2<|je Ze.enc Ad.Ab<|br Z2t<|jk 3<|it rt<|jk 1<|je Ze.enc Ad.Ab<|rt
theorem Z1y {x0 r} {v7 v8}:T7 x0 v7 v8=some r->CS (RH x0 r) Tryz.f102 [1,1,0,1] [(0,ss x0),(2,pt 1),(4,.tr (v7.map Zp)),(21,bl v8)] [rx 2 83 ([].map Ze.enc),bx 1 [sq 2 ([].map Ze.enc).length,il 0,il 0,il 0,il 0,il 0]]:=
 st<|it rt<|bn λ{s0} Qu=>jp (.num (0:Int).toNat (5:Int).toNat 0 (s0.map Zp))<|jo (Eq.refl 0)<|jo (DL Qu).2<|jo (Eb Zp Qu)<|jo (CF 1 Qx v7)<|jo (E3 Zp Qu)<|br bW<|it rt<|bd Zc<|bd Zc<|bd Zc<|bd Zc<|bd Zc<|bn λ{s1} Cc=>jp (.num (5:Int).toNat ((v7.length:Int):Int).toNat 0 (s1.map Zp))<|jo (DL Cc).1<|jo (Gi Zp v7)<|jo (Eb Zp Cc)<|jo (CF 1 Qx v7)<|jo (E3 Zp Cc)<|js Zp s1<|jn Ze.enc []<|cx (Ay 1 2++fz 3 4 16384) 15 Yix
theorem Yco {x0 r}  : Le x0=some r->Zr Tryz.prog Mo (RH x0 r):=
 fK Tryz.func102<|br TT λ{r5}=>js Zp r5<|it (jk 3<|cx (fz 1 1 0) 7 Z1y)<|jk 1<|js Zp r5<|jk 2<|cx (fz 1 1 0) 7 Z1y
abbrev Yre  (r:List ByteArray):Y:=(68,[],.own 9 (r.map Zp),[])
theorem Yas {r}  : T8  = some r->Zr Tryz.prog Mo (Yre  r):=
 fK Tryz.func68<|jk 1<|jo (show 3=([(Zd [98,121,116,101]),(Zd [104,97,108,102]),(Zd [119,111,114,100])].map Zp).length from rfl)<|rt
abbrev Zkz (x0:List ByteArray) (x1:ByteArray) (r:Int):Y:=(67,[.tr (x0.map Zp),ss x1],il r,un 2)
theorem Zti {x0 x1 r}:∀{m v0},Wo x0 x1 m v0=some r->CS (Zkz x0 x1 r) Tryz.f67 [1,0,1,0] [(0,.tr (x0.map Zp)),(1,ss x1),(7,il (x0.length:Int)),(8,il v0)] []:=by
 intro m
 induction m with
 | zero=>intro v0 h;cases h
 | succ m ih=>exact st<|it (bb Zp<|it rt<|cx [] 16 ih)<|rt
theorem Zk6 {x0 x1 r}  : Xy x0 x1=some r->Zr Tryz.prog Mo (Zkz x0 x1 r):=
 fK Tryz.func67<|js Zp x0<|cx [] 6 Zti
abbrev Yop  (r:List ByteArray):Y:=(69,[],.own 9 (r.map Zp),[])
theorem Z7t {r}  : T9  = some r->Zr Tryz.prog Mo (Yop  r):=
 fK Tryz.func69<|jk 1<|jo (show 4=([(Zd [111,110,101]),(Zd [102,111,117,114]),(Zd [119,114,97,112]),(Zd [101,105,103,104,116])].map Zp).length from rfl)<|rt
abbrev Yxy (x0:Int) (r:Int):Y:=(119,[il x0],il r,un 1)
theorem qO {x0 r}  : Ry x0=some r->Zr Tryz.prog Mo (Yxy x0 r):=
 fK Tryz.func119<|br Xc<|it rt<|bd Zc<|rt
abbrev Yyq (x0:Int) (r:Int):Y:=(230,[il x0],il r,un 1)
theorem Oz {x0 r}  : IK x0=some r->Zr Tryz.prog Mo (Yyq x0 r):=
 fK Tryz.func230<|br Xc<|it rt<|jl<|bo Tg<|rt
abbrev Yzy (x0:Int) (x1:Int) (r:Bool):Y:=(265,[il x0,il x1],bl r,un 2)
theorem qP {x0 x1 r}  : Rz x0 x1=some r->Zr Tryz.prog Mo (Yzy x0 x1 r):=
 fK Tryz.func265<|br Xc<|it (jk 2<|it (jk 2<|br Oz<|jk 1<|jl<|jk 2<|bo KV<|rt)<|jk 5<|rt)<|jk 8<|rt
abbrev Ycf (x0:Int) (x1:Int) (x2:Int) (r:Int):Y:=(229,[il x0,il x1,il x2],il r,un 3)
theorem Zto {x0 x1 x2 r} {v0}:ZT x0 x1 x2 v0=some r->CS (Ycf x0 x1 x2 r) Tryz.f229 [1,0,1] [(0,il x0),(1,il x1),(2,il x2),(21,bl v0)] []:=
 st<|it rt<|br Oz<|br Oz<|it (jk 2<|jl<|jk 2<|bo KV<|it rt<|rt)<|jk 5<|rt
theorem Yt5 {x0 x1 x2 r}  : mS x0 x1 x2=some r->Zr Tryz.prog Mo (Ycf x0 x1 x2 r):=
 fK Tryz.func229<|br qP<|it (jk 6<|cx [] 5 Zto)<|jk 2<|it (jk 3<|cx [] 5 Zto)<|jk 1<|br qO<|jk 2<|cx [] 5 Zto
abbrev Z7x (x0:Int) (x1:Int) (x2:Int) (r:List Int):Y:=(181,[il x0,il x1,il x2],.own 3 (r.map Zc),un 3)
theorem Yca {x0 x1 x2 r}:∀{m v0 v1 v2 v3},mT x0 x1 x2 m v0 v1 v2 v3=some r->CS (Z7x x0 x1 x2 r) Tryz.f181 [1,1,0,1,0] [(0,il v0),(1,il x1),(2,il x2),(7,sq 1 (v1.map Zc).length),(11,il v2),(12,il v3)] [rx 1 3 (v1.map Zc)]:=by
 intro m
 induction m with
 | zero=>intro v0 v1 v2 v3 h;cases h
 | succ m ih=>exactλ{v0} {v1} {v2} {v3}=>st<|it (br Yt5<|it rt<|bn λ{z0} Xf=>jt Zc [v0] z0<|jk 1<|ja 1 Ju v0<|jx Zc Xf<|jn Zc z0<|je Zc z0<|cx (fz 1 5 3072) 20 ih)<|jk 1<|je Zc v1<|rt
theorem Z7z {x0 x1 x2 r}  : ZV x0 x1 x2=some r->Zr Tryz.prog Mo (Z7x x0 x1 x2 r):=
 fK Tryz.func181<|br qO<|jp (.num ([].map Zc).length 0 0 [])<|jo (show 0=([].map Zc).length from rfl)<|cx (fz 1 2 0) 8 Yca
abbrev Yg2 (x0:Int) (x1:Int) (x2:Int) (r:Bool):Y:=(120,[il x0,il x1,il x2],bl r,un 3)
theorem Ymx {x0 x1 x2 r}:∀{m v0 v1 v2},mU x0 x1 x2 m v0 v1 v2=some r->CS (Yg2 x0 x1 x2 r) Tryz.f120 [1,1,0,1,0] [(7,sq 1 (v0.map Zc).length),(14,sq 1 (v0.map Zc).length),(15,il v1),(16,il v2)] [rx 1 3 (v0.map Zc)]:=by
 intro m
 induction m with
 | zero=>intro v0 v1 v2 h;cases h
 | succ m ih=>exactλ{v0} {v1} {v2}=>st<|it (bd Zc<|jk 1<|bd Zc<|jk 1<|it rt<|jn Zc v0<|jn Zc v0<|cx (Ay 1 1) 16 ih)<|js Zc v0<|rt
theorem Y0f {x0 x1 x2 r}  : mV x0 x1 x2=some r->Zr Tryz.prog Mo (Yg2 x0 x1 x2 r):=
 fK Tryz.func120<|br Z7z λ{r0}=>js Zc r0<|jn Zc r0<|jn Zc r0<|cx (fz 1 2 3072) 8 Ymx
abbrev Yym (x0:Int) (r:Int):Y:=(183,[il x0],il r,un 1)
theorem Yf4 {x0 r}  : ZW x0=some r->Zr Tryz.prog Mo (Yym x0 r):=
 fK Tryz.func183<|br Oz<|it rt<|br Oz<|jl<|bo Tg<|rt
abbrev Y55 (x0:Int) (x1:Int) (r:Bool):Y:=(123,[il x0,il x1],bl r,un 2)
theorem RI {x0 x1 r}  : Lf x0 x1=some r->Zr Tryz.prog Mo (Y55 x0 x1 r):=
 fK Tryz.func123<|br Yf4<|br Xc<|rt
abbrev Yyg (x0:Int) (x1:Zk) (r:Bool):Y:=(122,[il x0,.rp true (Zk.enc x1) 0],bl r,un 2)
theorem Yzb {x0 x1 r}  : mX x0 x1=some r->Zr Tryz.prog Mo (Yyg x0 x1 r):=
 fK Tryz.func122<|br RI<|rt
abbrev Zec (x0:List Int) (Bf:Zk) (r:Int):Y:=(182,[.tr (x0.map Zc),.fn 122 [.rp true (Zk.enc Bf) 0]],il r,un 2)
theorem Zla {x0 Bf r}:∀{m v0},Kz x0 Bf m v0=some r->CS (Zec x0 Bf r) Tryz.f182 [1,0,1,0] [(0,.tr (x0.map Zc)),(1,.fn 122 [.rp true (Zk.enc Bf) 0]),(7,il (x0.length:Int)),(8,il v0)] []:=by
 intro m
 induction m with
 | zero=>intro v0 h;cases h
 | succ m ih=>exact st<|it (bb Zc<|br Yzb<|it rt<|cx [] 16 ih)<|rt
theorem Zpc {x0 Bf r}  : J5 x0 Bf=some r->Zr Tryz.prog Mo (Zec x0 Bf r):=
 fK Tryz.func182<|js Zc x0<|cx [] 6 Zla
abbrev Zmj (x0:List Int) (Bf:Zk) (r:Bool):Y:=(121,[.tr (x0.map Zc),.fn 122 [.rp true (Zk.enc Bf) 0]],bl r,un 2)
theorem Zl9 {x0 Bf r}  : W4 x0 Bf=some r->Zr Tryz.prog Mo (Zmj x0 Bf r):=
 fK Tryz.func121<|br Zpc<|rt
abbrev Yqb (x0:Zk) (r:Bool):Y:=(70,[.agg (Zk.enc x0)],bl r,un 1)
theorem Yay {x0 r} {v0}:mY x0 v0=some r->CS (Yqb x0 r) Tryz.f70 [1,1,1] [(1,pt 1),(3,il v0)] [bx 1 (Zk.enc x0)]:=
 st<|br Y0f<|it (jk 2<|js Zc x0.Aa<|jk 3<|it (jk 3<|br Zl9<|jk 2<|rt)<|jk 5<|rt)<|jk 11<|rt
theorem qQ {x0 r}  : Ok x0=some r->Zr Tryz.prog Mo (Yqb x0 r):=
 fK Tryz.func70<|it (br qO<|cx (fz 1 1 0) 9 Yay)<|cx (fz 1 1 0) 9 Yay
abbrev Yr1 (x0:Bool) (r:ByteArray):Y:=(124,[bl x0],ss r,un 1)
theorem Ya8 {x0 r}  : R0 x0=some r->Zr Tryz.prog Mo (Yr1 x0 r):=
 fK Tryz.func124<|it rt<|rt
abbrev Yyo (x0:Zk) (r:ByteArray):Y:=(71,[.agg (Zk.enc x0)],ss r,un 1)
theorem Yhu {x0 r}  : TA x0=some r->Zr Tryz.prog Mo (Yyo x0 r):=
 fK Tryz.func71<|br qQ<|it rt<|br Ya8 λ{r1}=>br Yas<|bd Zp λ{a0}=>br Z7t<|bd Zp λ{a1}=>br Hm λ{r4}=>it (bn λ{z0} Xf=>jt Zp [(Zd [108,111,99,107])] z0<|jk 1<|ja 1 Qx (Zd [108,111,99,107])<|jo (show 4=([r1,a0,a1,r4].map Zp).length from rfl)<|jo (Fu Zp Xf)<|jo (GH Zp Xf)<|je Zp z0<|br bX λ{r5}=>bn λ{z1} Ej=>jt Zp r5 z1<|jk 2<|je Zp r5<|jo (Eq.refl (r5.map Zp))<|jo (CF 1 Qx r5)<|jx Zp Ej<|je Zp z1<|je Zp z1<|br Ou<|rt)<|br bX λ{r5}=>bn λ{z1} Ej=>jt Zp r5 z1<|jk 2<|je Zp r5<|jo (Eq.refl (r5.map Zp))<|jo (CF 1 Qx r5)<|jo (show 4=([r1,a0,a1,r4].map Zp).length from rfl)<|jo (Fu Zp Ej)<|jo (GH Zp Ej)<|je Zp z1<|je Zp z1<|br Ou<|rt
abbrev Z6c (x0:ByteArray) (r:Zk×Bool):Y:=(30,[ss x0],.AW [.agg [bl r.1.write,il r.1.addr,il r.1.size,il r.1.Az,bl r.1.lock,.own 3 (r.1.Aa.map Zc)],bl r.2],un 1)
theorem Z4s {x0 r} {Ad v0 v1}:R1 x0 Ad v0 v1=some r->CS (Z6c x0 r) Tryz.f30 [1,1,1,1,1] [(0,ss x0),(2,pt 1),(4,.tr (v0.map Zp)),(5,pt 3),(6,.tr (v1.map Zp))] [rx 2 3 ([].map Zc),bx 1 [bl false,il 0,il 0,il 0,bl false,sq 2 ([].map Zc).length],rx 4 3 (Ad.Aa.map Zc),bx 3 [bl Ad.write,il Ad.addr,il Ad.size,il Ad.Az,bl Ad.lock,sq 4 (Ad.Aa.map Zc).length]]:=
 st<|bb Zp<|br Ykr<|br bW λ{r1}=>it (jk 12<|rt)<|jk 2<|it (jk 9<|rt)<|jk 2<|je Zc r1.1<|br qQ<|jk 2<|it (jk 5<|rt)<|jk 2<|je Zc r1.1<|br Yhu<|jk 3<|it rt<|jk 1<|je Zc r1.1<|rt
theorem Z4o {x0 r} {Ad v0 v1 v2}:Ol x0 Ad v0 v1 v2=some r->CS (Z6c x0 r) Tryz.f30 [1,1,1,1,0,1] [(0,ss x0),(2,pt 1),(4,.tr (v0.map Zp)),(5,pt 3),(6,.tr (v1.map Zp)),(42,bl v2)] [rx 2 3 ([].map Zc),bx 1 [bl false,il 0,il 0,il 0,bl false,sq 2 ([].map Zc).length],rx 4 3 (Ad.Aa.map Zc),bx 3 [bl Ad.write,il Ad.addr,il Ad.size,il Ad.Az,bl Ad.lock,sq 4 (Ad.Aa.map Zc).length]]:=
 st<|it (bn λ{s0} Qu=>jp (.num (1:Int).toNat ((v1.length:Int):Int).toNat 0 (s0.map Zp))<|jo (DL Qu).1<|jo (Gi Zp v1)<|jo (Eb Zp Qu)<|jo (CF 1 Qx v1)<|jo (E3 Zp Qu)<|jn Zc []<|jn Zc Ad.Aa<|cx (Ay 1 4) 2 Z4s)<|jn Zc []<|jn Zc Ad.Aa<|cx (Ay 1 4) 2 Z4s
theorem Yxp {x0 r}  : TB x0=some r->Zr Tryz.prog Mo (Z6c x0 r):=
 fK Tryz.func30<|br TT λ{r4}=>js Zp r4<|it rt<|bb Zp<|br Yas λ{r5}=>bb Zp<|jk 1<|je Zp r5<|br Zk6<|br Z7t λ{r7}=>bb Zp<|jk 1<|je Zp r7<|br Zk6<|bn λ{s1} Cc=>jp (.num (4:Int).toNat ((r4.length:Int):Int).toNat 0 (s1.map Zp))<|jo (DL Cc).1<|jo (Gi Zp r4)<|jo (Eb Zp Cc)<|jo (CF 1 Qx r4)<|jo (E3 Zp Cc)<|js Zp s1<|it (jk 1<|bb Zp<|jk 3<|cx (fz 1 1 0++fz 3 4 17408) 14 Z4o)<|jk 4<|cx (fz 1 1 0++fz 3 4 17408) 14 Z4o
abbrev Yuk (x0:ByteArray) (x1:List Int) (r:ByteArray):Y:=(75,[ss x0,.tr (x1.map Zc)],ss r,un 2)
theorem Yb1 {x0 x1 r}  : ZX x0 x1=some r->Zr Tryz.prog Mo (Yuk x0 x1 r):=
 fK Tryz.func75<|js Zc x1<|it rt<|jl<|bo Yi<|br bX λ{r0}=>jk 1<|je Zp r0<|br Ou<|jl<|jl<|bo Yi<|bo Yi<|rt
abbrev Z62 (x0:Zb) (r:ByteArray):Y:=(32,[.agg (Zb.enc x0)],ss r,un 1)
theorem Yeo {x0 r}:∀{m v0 v1},ZY x0 m v0 v1=some r->CS (Z62 x0 r) Tryz.f32 [1,1,0,1,0] [(3,ss v0),(15,.tr (x0.Al.map Zl.enc)),(16,il (x0.Al.length:Int)),(17,il v1)] []:=by
 intro m
 induction m with
 | zero=>intro v0 v1 h;cases h
 | succ m ih=>exact st<|it (bb Zl.enc<|br Yhu<|it rt<|br Hm<|jl<|jl<|bo Yi<|bo Yi<|br Hm<|jl<|jl<|jl<|jl<|jl<|bo Yi<|bo Yi<|bo Yi<|bo Yi<|bo Yi<|cx [] 20 ih)<|rt
theorem Yo8 {x0 r}  : mZ x0=some r->Zr Tryz.prog Mo (Z62 x0 r):=
 fK Tryz.func32<|br Yb1<|br Yb1<|jl<|bo Yi<|js Zl.enc x0.Al<|cx [] 8 Yeo
abbrev O0 (x0:ByteArray) (r:Zb×Bool):Y:=(8,[ss x0],.AW [.agg (Zb.ow r.1),bl r.2],un 1)
theorem Zyy {x0 r} {AM:Zb->(List ByteArray)->Int->Int->Option (Zb×Bool)} (By:∀{Ad v1 v2 v3},AM Ad v1 v2 v3=some r->CS (O0 x0 r) Tryz.f8 [1,1,0,1,0] [(0,ss x0),(2,pt 1),(4,pt 5),(17,.tr (v1.map Zp)),(18,il v2),(19,il v3)] (Zb.bk Zb.z0 2++[bx 1 (Zb.rl Zb.z0 2)]++Zb.bk Ad 6++[bx 5 (Zb.rl Ad 6)])) {Ad A2 v0 v1 v2 v3 v4}:ZZ x0 AM Ad A2 v0 v1 v2 v3 v4=some r->CS (O0 x0 r) Tryz.f8 [1,1,0,1,0,0,1,1,0,0,1,1,0,1,0,1,1,0,1] [(0,ss x0),(2,pt 1),(4,pt 5),(8,sq 11 (v0.map Zc).length),(10,pt 9),(17,.tr (v1.map Zp)),(18,il v2),(19,il v3),(53,bl v4)] (Zb.bk Zb.z0 2++[bx 1 (Zb.rl Zb.z0 2)]++Zb.bk Ad 6++[bx 5 (Zb.rl Ad 6),rx 10 3 (A2.Aa.map Zc),bx 9 [bl A2.write,il A2.addr,il A2.size,il A2.Az,bl A2.lock,sq 10 (A2.Aa.map Zc).length],rx 11 3 (v0.map Zc)]):=
 st<|it rt<|bd Zc λ{a0}=>bd Zc λ{a1}=>jk 1<|bn λ{z0} Xf=>jt Zl.enc [(Zl.mk a0 a1 A2)] z0<|jk 1<|je Zc A2.Aa<|ja 8 Zl.A8 (Zl.mk a0 a1 A2)<|jx Zl.enc Xf<|je Zl.enc z0<|jw (Zb.sc Zb.z0)<|jw (Zb.sc {Ad with Al:=z0})<|cx (Ay 1 5++fz 6 2 11264++Ay 7 2) 6 By
theorem Zy0 {x0 r} {AM:Zb->(List ByteArray)->Int->Int->Option (Zb×Bool)} (By:∀{Ad v1 v2 v3},AM Ad v1 v2 v3=some r->CS (O0 x0 r) Tryz.f8 [1,1,0,1,0] [(0,ss x0),(2,pt 1),(4,pt 5),(17,.tr (v1.map Zp)),(18,il v2),(19,il v3)] (Zb.bk Zb.z0 2++[bx 1 (Zb.rl Zb.z0 2)]++Zb.bk Ad 6++[bx 5 (Zb.rl Ad 6)])) {Ad v5 v1 v2 v3 v6}:J7 x0 AM Ad v5 v1 v2 v3 v6=some r->CS (O0 x0 r) Tryz.f8 [1,1,0,1,0,0,1,1,0,0,1,1,0,1,1,1] [(0,ss x0),(2,pt 1),(4,pt 5),(7,.tr (v5.map Zp)),(17,.tr (v1.map Zp)),(18,il v2),(19,il v3),(68,bl v6)] (Zb.bk Zb.z0 2++[bx 1 (Zb.rl Zb.z0 2)]++Zb.bk Ad 6++[bx 5 (Zb.rl Ad 6)]):=
 st<|it (bn λ{s0} Qu=>jp (.num (1:Int).toNat ((v5.length:Int):Int).toNat 0 (s0.map Zp))<|jo (DL Qu).1<|jo (Gi Zp v5)<|jo (Eb Zp Qu)<|jo (CF 1 Qx v5)<|jo (E3 Zp Qu)<|br bW λ{r0}=>it rt<|bb Zp<|it (jw (Zb.sc Zb.z0)<|jw (Zb.sc {Ad with waits:=r0.1})<|cx (Ay 1 6++fz 7 2 2048++Ay 8 1) 15 By)<|jw (Zb.sc Zb.z0)<|jw (Zb.sc {Ad with A3:=r0.1})<|cx (Ay 1 7++fz 8 2 2048) 15 By)<|jw (Zb.sc Zb.z0)<|jw (Zb.sc Ad)<|cx (Ay 1 8) 5 By
theorem Zzf {x0 r} {AM:Zb->(List ByteArray)->Int->Int->Option (Zb×Bool)} (By:∀{Ad v1 v2 v3},AM Ad v1 v2 v3=some r->CS (O0 x0 r) Tryz.f8 [1,1,0,1,0] [(0,ss x0),(2,pt 1),(4,pt 5),(17,.tr (v1.map Zp)),(18,il v2),(19,il v3)] (Zb.bk Zb.z0 2++[bx 1 (Zb.rl Zb.z0 2)]++Zb.bk Ad 6++[bx 5 (Zb.rl Ad 6)])) {Ad v5 v1 v2 v3 v7}:Q6 x0 AM Ad v5 v1 v2 v3 v7=some r->CS (O0 x0 r) Tryz.f8 [1,1,0,1,0,0,1,1,0,0,1,1,0,1] [(0,ss x0),(2,pt 1),(4,pt 5),(7,.tr (v5.map Zp)),(17,.tr (v1.map Zp)),(18,il v2),(19,il v3),(25,bl v7)] (Zb.bk Zb.z0 2++[bx 1 (Zb.rl Zb.z0 2)]++Zb.bk Ad 6++[bx 5 (Zb.rl Ad 6)]):=
 st<|it (bn λ{s1} Cc=>jp (.num (1:Int).toNat (3:Int).toNat 0 (s1.map Zp))<|jo (DL Cc).1<|jo (DL Cc).2<|jo (Eb Zp Cc)<|jo (CF 1 Qx v5)<|jo (E3 Zp Cc)<|br bW λ{r1}=>bn λ{s2} Dj=>jp (.num (3:Int).toNat ((v5.length:Int):Int).toNat 0 (s2.map Zp))<|jo (DL Dj).1<|jo (Gi Zp v5)<|jo (Eb Zp Dj)<|jo (CF 1 Qx v5)<|jo (E3 Zp Dj)<|br Ou<|br Yxp λ{r3}=>it (jk 2<|jn Zc r1.1<|jw (Zb.sc Zb.z0)<|jw (Zb.sc Ad)<|jn Zc r3.1.Aa<|cx (Ay 1 8++fz 9 3 7168++fz 10 3 3077++fz 11 2 2048) 8 (Zyy By))<|jk 2<|jn Zc r1.1<|jw (Zb.sc Zb.z0)<|jw (Zb.sc Ad)<|jn Zc r3.1.Aa<|cx (Ay 1 8++fz 9 3 7168++fz 10 3 3077++fz 11 2 2048) 8 (Zyy By))<|bn λTY=>jb Zp TY<|it (jk 4<|jw (Zb.sc Zb.z0)<|jw (Zb.sc Ad)<|cx (Ay 1 8) 3 (Zy0 By))<|jk 1<|jb Zp TY<|jk 3<|jw (Zb.sc Zb.z0)<|jw (Zb.sc Ad)<|cx (Ay 1 8) 3 (Zy0 By)
theorem Yct {x0 r}:∀{m Ad v1 v2 v3},Q4 x0 m Ad v1 v2 v3=some r->CS (O0 x0 r) Tryz.f8 [1,1,0,1,0] [(0,ss x0),(2,pt 1),(4,pt 5),(17,.tr (v1.map Zp)),(18,il v2),(19,il v3)] (Zb.bk Zb.z0 2++[bx 1 (Zb.rl Zb.z0 2)]++Zb.bk Ad 6++[bx 5 (Zb.rl Ad 6)]):=by
 intro m
 induction m with
 | zero=>intro Ad v1 v2 v3 h;cases h
 | succ m ih=>exactλ{Ad} {v1} {v2} {v3}=>st<|it (bb Zp<|br TT λ{r4}=>bb Zp<|it (jk 1<|js Zp r4<|jk 2<|jw (Zb.sc Zb.z0)<|jw (Zb.sc Ad)<|cx (Ay 1 8) 15 (Zzf ih))<|jk 3<|jw (Zb.sc Zb.z0)<|jw (Zb.sc Ad)<|cx (Ay 1 8) 15 (Zzf ih))<|jk 3<|jw (Zb.so Ad)<|br Yo8<|it rt<|jk 3<|jw (Zb.so Ad)<|rt
theorem Z60 {x0 r}  : M5 x0=some r->Zr Tryz.prog Mo (O0 x0 r):=
 fK Tryz.func8<|br Z96<|br TT λ{r7}=>js Zp r7<|cx (fz 1 1 0++fz 5 2 1024) 8 Yct
abbrev Yaw (At:Zh) (Aq:Zb) (x1:ByteArray) (r:ByteArray×Z3):Y:=(51,[.agg [.own 83 (At.Ab.map Ze.enc),il At.Av,il At.As,il At.An,il At.Ap,il At.Am,.own 60 (Aq.Al.map Zl.enc),.own 3 (Aq.waits.map Zc),.own 3 (Aq.A3.map Zc),.lit (.pointer none)],ss x1],ss r.1,[.agg [.own 83 (r.2.Ae.Ab.map Ze.enc),il r.2.Ae.Av,il r.2.Ae.As,il r.2.Ae.An,il r.2.Ae.Ap,il r.2.Ae.Am,.own 60 (r.2.script.Al.map Zl.enc),.own 3 (r.2.script.waits.map Zc),.own 3 (r.2.script.A3.map Zc),Za.oE r.2.DM],.undef])
theorem Zrw {At Aq x1 r} {v0 v1}:nA At Aq x1 v0 v1=some r->CS (Yaw At Aq x1 r) Tryz.f51 [1,1,0,1,0,1,1,1] [(0,.ptr (0,63) 0 0),(1,ss x1),(5,ss v0),(32,bl v1)] [rx 1 83 (At.Ab.map Ze.enc),rx 2 60 (Aq.Al.map Zl.enc),rx 3 3 (Aq.waits.map Zc),rx 4 3 (Aq.A3.map Zc),((0,63),⟨true,true,true,0,[[sq 1 (At.Ab.map Ze.enc).length,il At.Av,il At.As,il At.An,il At.Ap,il At.Am,sq 2 (Aq.Al.map Zl.enc).length,sq 3 (Aq.waits.map Zc).length,sq 4 (Aq.A3.map Zc).length,.lit (.pointer none)]]⟩)]:=
 st<|it (jl<|bo Yi<|br Z60 λ{r0}=>it (jk 4<|je Ze.enc At.Ab<|jw (Zb.so Aq)<|rt)<|it (jk 4<|je Ze.enc At.Ab<|je Zl.enc Aq.Al<|je Zc r0.1.waits<|je Zc Aq.A3<|rt)<|it (jk 4<|je Ze.enc At.Ab<|je Zl.enc Aq.Al<|je Zc Aq.waits<|je Zc r0.1.A3<|rt)<|bn λ{z0} Xf=>jt Zl.enc r0.1.Al z0<|jk 5<|je Zl.enc r0.1.Al<|jo (Eq.refl (r0.1.Al.map Zl.enc))<|jo (CF 8 Zl.A8 r0.1.Al)<|jx Zl.enc Xf<|je Zl.enc z0<|je Ze.enc At.Ab<|je Zl.enc z0<|je Zc Aq.waits<|je Zc Aq.A3<|rt)<|jk 4<|je Ze.enc At.Ab<|jw (Zb.so Aq)<|rt
theorem Yrv {At Aq x1 r}  : nB At Aq x1=some r->Zr Tryz.prog Mo (Yaw At Aq x1 r):=
 fK Tryz.func51<|br Ya2<|it (br Yco λ{r2}=>it (jk 4<|je Ze.enc At.Ab<|jw (Zb.so Aq)<|rt)<|jk 1<|je Ze.enc r2.1.Ab<|rt)<|it (jn Ze.enc At.Ab<|jp (.num (Aq.Al.map Zl.enc).length 0 0 [])<|jp (.num (Aq.waits.map Zc).length 0 0 [])<|jp (.num (Aq.A3.map Zc).length 0 0 [])<|jw (Zb.so Aq)<|cx (fz 1 0 0++fz 2 0 6++fz 3 0 7++fz 4 0 8) 16 Zrw)<|it (jn Ze.enc At.Ab<|jp (.num (Aq.Al.map Zl.enc).length 0 0 [])<|jp (.num (Aq.waits.map Zc).length 0 0 [])<|jp (.num (Aq.A3.map Zc).length 0 0 [])<|jw (Zb.so Aq)<|cx (fz 1 0 0++fz 2 0 6++fz 3 0 7++fz 4 0 8) 19 Zrw)<|jn Ze.enc At.Ab<|jp (.num (Aq.Al.map Zl.enc).length 0 0 [])<|jp (.num (Aq.waits.map Zc).length 0 0 [])<|jp (.num (Aq.A3.map Zc).length 0 0 [])<|jw (Zb.so Aq)<|cx (fz 1 0 0++fz 2 0 6++fz 3 0 7++fz 4 0 8) 19 Zrw
abbrev Zmv (x0:List Ze) (r:List Ze):Y:=(201,[.tr (x0.map Ze.enc)],.own 83 (r.map Ze.enc),[.undef])
theorem Zzq {x0:List Ze} {r:List Ze} (h:nC x0=some r):Zr Tryz.prog Mo (Zmv x0 r):=by
 refine p7 Tryz.func201 ?_;unfold nC at h;cases x0 with
 | nil=>
  obtain rfl:[]=r:=(iU h);have hn:CS (Zmv [] []) Tryz.f201 [1,0,0] [(0,.tr [])] []:=iR Mo Lg (k:=at_ [1,0,1] (Mw Tryz.f201) []) (x0:=.tmp 0) (d0:=3) (d1:=4) (t:=35) (e:=83) (y:=.const (.slice none 0 0)) (by kernel_rfl) (by kernel_rfl) rfl rfl λb=>by
   cases b with
   | true=>exact HH rfl [.k] tt
   | false=>exact HH rfl [.k,.app [] true [] 0,.k] (aa (Eq.refl ([]:List (List V))) (aa (Eq.refl true) (aa (Eq.refl true) (aa (Eq.refl 0) (aa (iV 32) (aa (Eq.refl ([]:List (List V))) (aa (Eq.refl 0) (aa (Eq.refl 0) tt))))))))
  exact MB [] 4 [] tt hn
 | cons a l=>
  exact HH rfl [.k,.app ((a::l).map Ze.enc) true (r.map Ze.enc) (r.map Ze.enc).length,.k] (aa (fA (Ze.enc a) (l.map Ze.enc)) (aa (Eq.refl ((a::l).map Ze.enc)) (aa (XS Ze.BZ (a::l)) (aa (CF 4 Ze.A8 (a::l)) (aa (Eq.refl 0) (aa (Fu Ze.enc h) (aa (Mt Ze.enc h) (aa (NR Ze.enc r) (aa (NR Ze.enc r) tt)))))))))
abbrev Yzz (x0:Zh) (r:Zh):Y:=(157,[.agg (Zh.enc x0)],.agg [.own 83 (r.Ab.map Ze.enc),il r.Av,il r.As,il r.An,il r.Ap,il r.Am],un 1)
theorem Yhr {x0 r}  : aA x0=some r->Zr Tryz.prog Mo (Yzz x0 r):=
 fK Tryz.func157<|br Zzq λ{r0}=>jk 1<|je Ze.enc r0<|rt
abbrev Y28  (r:Zm):Y:=(202,[],.agg (Zm.ow r),[])
theorem Y3j {r}  : Yll  = some r->Zr Tryz.prog Mo (Y28  r):=
 fK Tryz.func202<|bn λ{m0} Dn=>jp (.mk (4:Int).toNat (m0.map Zc))<|jk 1<|jo (KT Dn)<|jo (KT Dn)<|jo (XT Dn)<|jo (XU Zc Dn)<|je Zc m0<|rt
abbrev Yvq  (r:Zf):Y:=(158,[],.agg (Zf.ow r),[])
theorem Ydk {r}  : aB  = some r->Zr Tryz.prog Mo (Yvq  r):=
 fK Tryz.func158<|bn λ{m0} Dn=>jp (.mk (192:Int).toNat (m0.map Zc))<|jo (KT Dn)<|jo (KT Dn)<|jo (XT Dn)<|jo (XU Zc Dn)<|br Y3j λ{r0}=>jk 3<|je Zc m0<|jw (Zm.so r0)<|rt
abbrev Yrj (x0:Ze) (r:Zj):Y:=(159,[.agg (Ze.enc x0)],.agg (Zj.enc r),un 1)
theorem Yq7 {x0 r}  : nD x0=some r->Zr Tryz.prog Mo (Yrj x0 r):=
 fK Tryz.func159<|it rt<|rt
abbrev Ykk (x0:Zh) (r:Za×Bool):Y:=(103,[.agg (Zh.enc x0)],.AW [.agg (Za.ow r.1),bl r.2],un 1)
theorem Yn7 {x0 r}:∀{m Ad v0},nF x0 m Ad v0=some r->CS (Ykk x0 r) Tryz.f103 [1,1,1,0,1,0] [(2,pt 1),(4,pt 10),(16,.tr (x0.Ab.map Ze.enc)),(17,il (x0.Ab.length:Int)),(18,il v0)] (Za.bk Za.z0 2++[bx 1 (Za.rl Za.z0 2)]++Za.bk Ad 11++[bx 10 (Za.rl Ad 11)]):=by
 intro m
 induction m with
 | zero=>intro Ad v0 h;cases h
 | succ m ih=>exactλ{Ad} {v0}=>st<|it (bb Ze.enc<|bn λ{z0} Xf=>jt Zg.enc [Zg.z0] z0<|jk 1<|ja 6 Zg.A8 Zg.z0<|jx Zg.enc Xf<|je Zg.enc z0<|br Yq7 λ{r0}=>bn λ{z1} Ej=>jt Zj.enc [r0] z1<|jk 1<|bn λ{z2} TV=>jt Zc [0] z2<|jk 1<|ja 2 Zj.A8 r0<|jx Zj.enc Ej<|je Zj.enc z1<|ja 1 Ju 0<|jx Zc TV<|je Zc z2<|jw (Za.sc Za.z0)<|jw (Za.sc {Ad with m:=z0,buckets:=z1,splits:=z2})<|cx (Ay 1 11++fz 12 4 4096++fz 13 5 5120++fz 14 6 3072++Ay 15 4) 17 ih)<|jk 8<|jw (Za.so Ad)<|rt
theorem Yjo {x0 r}  : aC x0=some r->Zr Tryz.prog Mo (Ykk x0 r):=
 fK Tryz.func103<|br Uc<|it rt<|br Yhr λ{r2}=>br Ydk λ{r3}=>js Ze.enc x0.Ab<|jn Ze.enc r2.Ab<|jp (.num (r3.mem.map Zc).length 0 0 [])<|jp (.num (r3.dev.AB.map Zc).length 0 0 [])<|jp (.num (r3.dev.A1.map Zc).length 0 0 [])<|jw (Zf.so r3)<|cx (fz 1 1 1024++fz 10 3 4096++fz 11 3 1024++fz 15 3 2048++fz 16 3 2049++fz 17 3 2051) 13 Yn7
abbrev Z61 (At:Zh) (Aq:Zb) (x1:ByteArray) (r:ByteArray×Z3):Y:=(52,[.agg [.own 83 (At.Ab.map Ze.enc),il At.Av,il At.As,il At.An,il At.Ap,il At.Am,.own 60 (Aq.Al.map Zl.enc),.own 3 (Aq.waits.map Zc),.own 3 (Aq.A3.map Zc),.lit (.pointer none)],ss x1],ss r.1,[.agg [.own 83 (r.2.Ae.Ab.map Ze.enc),il r.2.Ae.Av,il r.2.Ae.As,il r.2.Ae.An,il r.2.Ae.Ap,il r.2.Ae.Am,.own 60 (r.2.script.Al.map Zl.enc),.own 3 (r.2.script.waits.map Zc),.own 3 (r.2.script.A3.map Zc),Za.oE r.2.DM],.undef])
theorem bY {At Aq x1 r} {v0}:R2 At Aq x1 v0=some r->CS (Z61 At Aq x1 r) Tryz.f52 [1,0,1,0,1,1,1,1,1] [(0,.ptr (0,63) 0 0),(1,ss x1),(34,bl v0)] [rx 1 83 (At.Ab.map Ze.enc),rx 2 60 (Aq.Al.map Zl.enc),rx 3 3 (Aq.waits.map Zc),rx 4 3 (Aq.A3.map Zc),((0,63),⟨true,true,true,0,[[sq 1 (At.Ab.map Ze.enc).length,il At.Av,il At.As,il At.An,il At.Ap,il At.Am,sq 2 (Aq.Al.map Zl.enc).length,sq 3 (Aq.waits.map Zc).length,sq 4 (Aq.A3.map Zc).length,.lit (.pointer none)]]⟩)]:=
 st<|it (jk 5<|je Ze.enc At.Ab<|jw (Zb.so Aq)<|rt)<|jk 4<|je Ze.enc At.Ab<|jw (Zb.so Aq)<|rt
theorem Yn4 {At Aq x1 r}  : aD At Aq x1=some r->Zr Tryz.prog Mo (Z61 At Aq x1 r):=
 fK Tryz.func52<|it (jk 1<|je Ze.enc At.Ab<|br Yjo λ{r0}=>it (jk 4<|je Ze.enc At.Ab<|jw (Zb.so Aq)<|rt)<|jk 12<|je Ze.enc At.Ab<|jw (Zb.so Aq)<|jw (Za.so r0.1)<|rt)<|it (jk 1<|je Ze.enc At.Ab<|br Z2t<|it (jk 4<|je Ze.enc At.Ab<|jw (Zb.so Aq)<|rt)<|jk 4<|je Ze.enc At.Ab<|jw (Zb.so Aq)<|rt)<|it (jn Ze.enc At.Ab<|jp (.num (Aq.Al.map Zl.enc).length 0 0 [])<|jp (.num (Aq.waits.map Zc).length 0 0 [])<|jp (.num (Aq.A3.map Zc).length 0 0 [])<|jw (Zb.so Aq)<|cx (fz 1 0 0++fz 2 0 6++fz 3 0 7++fz 4 0 8) 17 bY)<|it (jn Ze.enc At.Ab<|jp (.num (Aq.Al.map Zl.enc).length 0 0 [])<|jp (.num (Aq.waits.map Zc).length 0 0 [])<|jp (.num (Aq.A3.map Zc).length 0 0 [])<|jw (Zb.so Aq)<|cx (fz 1 0 0++fz 2 0 6++fz 3 0 7++fz 4 0 8) 20 bY)<|it (jn Ze.enc At.Ab<|jp (.num (Aq.Al.map Zl.enc).length 0 0 [])<|jp (.num (Aq.waits.map Zc).length 0 0 [])<|jp (.num (Aq.A3.map Zc).length 0 0 [])<|jw (Zb.so Aq)<|cx (fz 1 0 0++fz 2 0 6++fz 3 0 7++fz 4 0 8) 23 bY)<|it (jn Ze.enc At.Ab<|jp (.num (Aq.Al.map Zl.enc).length 0 0 [])<|jp (.num (Aq.waits.map Zc).length 0 0 [])<|jp (.num (Aq.A3.map Zc).length 0 0 [])<|jw (Zb.so Aq)<|cx (fz 1 0 0++fz 2 0 6++fz 3 0 7++fz 4 0 8) 26 bY)<|jn Ze.enc At.Ab<|jp (.num (Aq.Al.map Zl.enc).length 0 0 [])<|jp (.num (Aq.waits.map Zc).length 0 0 [])<|jp (.num (Aq.A3.map Zc).length 0 0 [])<|jw (Zb.so Aq)<|cx (fz 1 0 0++fz 2 0 6++fz 3 0 7++fz 4 0 8) 26 bY
abbrev Z7r (At:Zh) (Aq:Zb) (AG:Za) (x1:ByteArray) (r:ByteArray×Z3):Y:=(51,[.agg [.own 83 (At.Ab.map Ze.enc),il At.Av,il At.As,il At.An,il At.Ap,il At.Am,.own 60 (Aq.Al.map Zl.enc),.own 3 (Aq.waits.map Zc),.own 3 (Aq.A3.map Zc),.CM (Za.ow AG)],ss x1],ss r.1,[.agg [.own 83 (r.2.Ae.Ab.map Ze.enc),il r.2.Ae.Av,il r.2.Ae.As,il r.2.Ae.An,il r.2.Ae.Ap,il r.2.Ae.Am,.own 60 (r.2.script.Al.map Zl.enc),.own 3 (r.2.script.waits.map Zc),.own 3 (r.2.script.A3.map Zc),Za.oE r.2.DM],.undef])
theorem Zpg {At Aq AG x1 r} {v0 v1}:nG At Aq AG x1 v0 v1=some r->CS (Z7r At Aq AG x1 r) Tryz.f51 [1,1,0,1,0,1,1,1] [(0,.ptr (0,63) 0 0),(1,ss x1),(5,ss v0),(32,bl v1)] ([rx 1 83 (At.Ab.map Ze.enc),rx 2 60 (Aq.Al.map Zl.enc),rx 3 3 (Aq.waits.map Zc),rx 4 3 (Aq.A3.map Zc),((0,63),⟨true,true,true,0,[[sq 1 (At.Ab.map Ze.enc).length,il At.Av,il At.As,il At.An,il At.Ap,il At.Am,sq 2 (Aq.Al.map Zl.enc).length,sq 3 (Aq.waits.map Zc).length,sq 4 (Aq.A3.map Zc).length,pt 5]]⟩)]++Za.oB 5 (some AG)):=
 st<|it (jl<|bo Yi<|br Z60 λ{r0}=>it (jk 12<|je Ze.enc At.Ab<|jw (Zb.so Aq)<|jw (Za.so AG)<|rt)<|it (jk 12<|je Ze.enc At.Ab<|je Zl.enc Aq.Al<|je Zc r0.1.waits<|je Zc Aq.A3<|jw (Za.so AG)<|rt)<|it (jk 12<|je Ze.enc At.Ab<|je Zl.enc Aq.Al<|je Zc Aq.waits<|je Zc r0.1.A3<|jw (Za.so AG)<|rt)<|bn λ{z0} Xf=>jt Zl.enc r0.1.Al z0<|jk 13<|je Zl.enc r0.1.Al<|jo (Eq.refl (r0.1.Al.map Zl.enc))<|jo (CF 8 Zl.A8 r0.1.Al)<|jx Zl.enc Xf<|je Zl.enc z0<|je Ze.enc At.Ab<|je Zl.enc z0<|je Zc Aq.waits<|je Zc Aq.A3<|jw (Za.so AG)<|rt)<|jk 12<|je Ze.enc At.Ab<|jw (Zb.so Aq)<|jw (Za.so AG)<|rt
theorem Yoy {At Aq AG x1 r}  : nH At Aq AG x1=some r->Zr Tryz.prog Mo (Z7r At Aq AG x1 r):=
 fK Tryz.func51<|br Ya2<|it (br Yco λ{r2}=>it (jk 12<|je Ze.enc At.Ab<|jw (Zb.so Aq)<|jw (Za.so AG)<|rt)<|jk 1<|je Ze.enc r2.1.Ab<|rt)<|it (jn Ze.enc At.Ab<|jp (.num (Aq.Al.map Zl.enc).length 0 0 [])<|jp (.num (Aq.waits.map Zc).length 0 0 [])<|jp (.num (Aq.A3.map Zc).length 0 0 [])<|jw (Zb.so Aq)<|jw (Za.sc AG)<|cx (fz 1 0 0++fz 2 0 6++fz 3 0 7++fz 4 0 8++fz 5 0 9++fz 6 0 10++fz 7 0 17++fz 8 0 20++fz 9 0 21++fz 10 0 41++fz 11 0 42++fz 12 0 44++fz 13 0 46) 16 Zpg)<|it (jn Ze.enc At.Ab<|jp (.num (Aq.Al.map Zl.enc).length 0 0 [])<|jp (.num (Aq.waits.map Zc).length 0 0 [])<|jp (.num (Aq.A3.map Zc).length 0 0 [])<|jw (Zb.so Aq)<|jw (Za.sc AG)<|cx (fz 1 0 0++fz 2 0 6++fz 3 0 7++fz 4 0 8++fz 5 0 9++fz 6 0 10++fz 7 0 17++fz 8 0 20++fz 9 0 21++fz 10 0 41++fz 11 0 42++fz 12 0 44++fz 13 0 46) 19 Zpg)<|jn Ze.enc At.Ab<|jp (.num (Aq.Al.map Zl.enc).length 0 0 [])<|jp (.num (Aq.waits.map Zc).length 0 0 [])<|jp (.num (Aq.A3.map Zc).length 0 0 [])<|jw (Zb.so Aq)<|jw (Za.sc AG)<|cx (fz 1 0 0++fz 2 0 6++fz 3 0 7++fz 4 0 8++fz 5 0 9++fz 6 0 10++fz 7 0 17++fz 8 0 20++fz 9 0 21++fz 10 0 41++fz 11 0 42++fz 12 0 44++fz 13 0 46) 19 Zpg
abbrev Ycs (x0:Zk) (r:Bool):Y:=(277,[.agg (Zk.enc x0)],bl r,un 1)
theorem Ych {x0 r}  : nI x0=some r->Zr Tryz.prog Mo (Ycs x0 r):=
 fK Tryz.func277<|br qQ<|rt
abbrev Zbh (x0:List Zk) (r:Int):Y:=(300,[.tr (x0.map Zk.enc),.fn 277 []],il r,un 2)
theorem Zgx {x0 r}:∀{m v0},Qm x0 m v0=some r->CS (Zbh x0 r) Tryz.f300 [1,0,1,0] [(0,.tr (x0.map Zk.enc)),(1,.fn 277 []),(7,il (x0.length:Int)),(8,il v0)] []:=by
 intro m
 induction m with
 | zero=>intro v0 h;cases h
 | succ m ih=>exact st<|it (bb Zk.enc<|br Ych<|it rt<|cx [] 16 ih)<|rt
theorem Zjt {x0 r}  : Kc x0=some r->Zr Tryz.prog Mo (Zbh x0 r):=
 fK Tryz.func300<|js Zk.enc x0<|cx [] 6 Zgx
abbrev Zht (x0:List Zk) (r:Bool):Y:=(276,[.tr (x0.map Zk.enc),.fn 277 []],bl r,un 2)
theorem Zhq {x0 r}  : Wc x0=some r->Zr Tryz.prog Mo (Zht x0 r):=
 fK Tryz.func276<|br Zjt<|rt
abbrev Yrm (x0:Zg) (r:Int):Y:=(240,[.rp true (Zg.enc x0) 0],il r,un 1)
theorem bZ {x0 r}  : Om x0=some r->Zr Tryz.prog Mo (Yrm x0 r):=
 fK Tryz.func240<|js Zk.enc x0.queue<|it rt<|bb Zk.enc<|br qO<|rt
abbrev Z1m (x0:Zg) (r:Bool):Y:=(239,[.agg (Zg.enc x0)],bl r,un 1)
theorem Zly {x0 r} {v0}:W3 x0 v0=some r->CS (Z1m x0 r) Tryz.f239 [1,0,1] [(1,pt 1),(16,bl v0)] [bx 1 (Zg.enc x0)]:=
 st<|it rt<|js Zk.enc x0.queue<|it (it (jk 3<|it (jk 3<|it (jk 3<|it (jk 3<|rt)<|jk 3<|rt)<|jk 7<|rt)<|jk 11<|rt)<|jk 15<|rt)<|br bZ<|br Xc<|it (jk 7<|br bZ<|jk 2<|br Xc<|jk 1<|rt)<|jk 10<|rt
theorem Ud {x0 r}  : Jb x0=some r->Zr Tryz.prog Mo (Z1m x0 r):=
 fK Tryz.func239<|js Zk.enc x0.queue<|it (jk 7<|cx (fz 1 1 0) 5 Zly)<|jk 3<|it (jk 3<|cx (fz 1 1 0) 5 Zly)<|jk 2<|br Zhq<|jk 1<|cx (fz 1 1 0) 5 Zly
abbrev Yhh (x0:Zg) (x1:Int) (r:Int):Y:=(205,[.agg (Zg.enc x0),il x1],il r,un 2)
theorem Z35 {x0 x1 r} {v0}:nJ x0 x1 v0=some r->CS (Yhh x0 x1 r) Tryz.f205 [1,0,1] [(1,il x1),(2,pt 1),(15,bl v0)] [bx 1 (Zg.enc x0)]:=
 st<|it rt<|bb Zk.enc<|br Z7z<|bd Zc<|rt
theorem b4 {x0 x1 r}  : On x0 x1=some r->Zr Tryz.prog Mo (Yhh x0 x1 r):=
 fK Tryz.func205<|br Ud<|it (jk 5<|cx (fz 1 1 0) 5 Z35)<|jk 1<|br bZ<|jk 2<|br Xc<|jk 2<|cx (fz 1 1 0) 5 Z35
abbrev Zr3 (x0:List Int) (r:List Int):Y:=(255,[.tr (x0.map Zc)],.own 3 (r.map Zc),[.undef])
theorem Kb {x0:List Int} {r:List Int} (h:Xh x0=some r):Zr Tryz.prog Mo (Zr3 x0 r):=by
 refine p7 Tryz.func255 ?_;unfold Xh at h;cases x0 with
 | nil=>
  obtain rfl:[]=r:=(iU h);have hn:CS (Zr3 [] []) Tryz.f255 [1,0,0] [(0,.tr [])] []:=iR Mo Lg (k:=at_ [1,0,1] (Mw Tryz.f255) []) (x0:=.tmp 0) (d0:=3) (d1:=4) (t:=23) (e:=3) (y:=.const (.slice none 0 0)) (by kernel_rfl) (by kernel_rfl) rfl rfl λb=>by
   cases b with
   | true=>exact HH rfl [.k] tt
   | false=>exact HH rfl [.k,.app [] true [] 0,.k] (aa (Eq.refl ([]:List (List V))) (aa (Eq.refl true) (aa (Eq.refl true) (aa (Eq.refl 0) (aa (iV 8) (aa (Eq.refl ([]:List (List V))) (aa (Eq.refl 0) (aa (Eq.refl 0) tt))))))))
  exact MB [] 4 [] tt hn
 | cons a l=>
  exact HH rfl [.k,.app ((a::l).map Zc) true (r.map Zc) (r.map Zc).length,.k] (aa (fA (Zc a) (l.map Zc)) (aa (Eq.refl ((a::l).map Zc)) (aa (XS QW (a::l)) (aa (CF 1 Ju (a::l)) (aa (Eq.refl 0) (aa (Fu Zc h) (aa (Mt Zc h) (aa (NR Zc r) (aa (NR Zc r) tt)))))))))
abbrev Y21 (x0:Zk) (r:Zk):Y:=(241,[.agg (Zk.enc x0)],.agg [bl r.write,il r.addr,il r.size,il r.Az,bl r.lock,.own 3 (r.Aa.map Zc)],un 1)
theorem Z9n {x0 r}  : R3 x0=some r->Zr Tryz.prog Mo (Y21 x0 r):=
 fK Tryz.func241<|br Kb λ{r0}=>jk 1<|je Zc r0<|rt
abbrev Yf6 (x0:Zb) (x1:Int) (r:List Zl):Y:=(206,[.agg (Zb.enc x0),il x1],.own 60 (r.map Zl.enc),un 2)
theorem Yj5 {x0 x1 r}:∀{m v0 v1},nL x0 x1 m v0 v1=some r->CS (Yf6 x0 x1 r) Tryz.f206 [1,1,0,1,0] [(1,il x1),(5,sq 1 (v0.map Zl.enc).length),(10,.tr (x0.Al.map Zl.enc)),(11,il (x0.Al.length:Int)),(12,il v1)] [rx 1 60 (v0.map Zl.enc)]:=by
 intro m
 induction m with
 | zero=>intro v0 v1 h;cases h
 | succ m ih=>exactλ{v0} {v1}=>st<|it (bb Zl.enc λ{a0}=>it (br Z9n λ{r0}=>jk 1<|bn λ{z0} Xf=>jt Zl.enc [{a0 with Bo:=r0}] z0<|jk 1<|je Zc r0.Aa<|ja 8 Zl.A8 {a0 with Bo:=r0}<|jx Zl.enc Xf<|jn Zl.enc z0<|je Zl.enc z0<|cx (fz 1 6 3072) 18 ih)<|jn Zl.enc v0<|cx (Ay 1 1) 16 ih)<|jk 1<|je Zl.enc v0<|rt
theorem Yyd {x0 x1 r}  : nM x0 x1=some r->Zr Tryz.prog Mo (Yf6 x0 x1 r):=
 fK Tryz.func206<|js Zl.enc x0.Al<|jp (.num ([].map Zl.enc).length 0 0 [])<|jo (show 0=([].map Zl.enc).length from rfl)<|cx (fz 1 2 0) 8 Yj5
abbrev Ytk (x0:Zh) (x1:Int) (r:Bool):Y:=(207,[.agg (Zh.enc x0),il x1],bl r,un 2)
theorem RJ {x0 x1 r}  : IL x0 x1=some r->Zr Tryz.prog Mo (Ytk x0 x1 r):=
 fK Tryz.func207<|js Ze.enc x0.Ab<|br Xc<|rt
abbrev Yln (x0:Zg) (r:Zg):Y:=(242,[.agg (Zg.enc x0)],.agg [.own 41 (r.queue.map Zk.enc),il r.Ao,il r.done,il r.tries,bl r.Ax,bl r.broken],un 1)
theorem Yod {x0 r}:∀{m v0 v1},nN x0 m v0 v1=some r->CS (Yln x0 r) Tryz.f242 [1,1,0,1,0] [(1,pt 1),(2,pt 2),(3,sq 4 (v0.map Zk.enc).length),(8,.tr (x0.queue.map Zk.enc)),(9,il (x0.queue.length:Int)),(10,il v1)] [bx 1 (Zg.enc x0),rx 3 41 ([].map Zk.enc),bx 2 [sq 3 ([].map Zk.enc).length,il 0,il 0,il 0,bl false,bl false],rx 4 41 (v0.map Zk.enc)]:=by
 intro m
 induction m with
 | zero=>intro v0 v1 h;cases h
 | succ m ih=>exactλ{v0} {v1}=>st<|it (bb Zk.enc<|br Z9n λ{r0}=>jk 1<|bn λ{z0} Xf=>jt Zk.enc [r0] z0<|jk 1<|je Zc r0.Aa<|ja 6 Zk.A8 r0<|jx Zk.enc Xf<|jn Zk.enc z0<|je Zk.enc z0<|jn Zk.enc []<|cx (Ay 1 3++fz 4 4 4096) 13 ih)<|jk 1<|je Zk.enc v0<|rt
theorem b6 {x0 r}  : Oo x0=some r->Zr Tryz.prog Mo (Yln x0 r):=
 fK Tryz.func242<|js Zk.enc x0.queue<|jp (.num ([].map Zk.enc).length 0 0 [])<|jo (show 0=([].map Zk.enc).length from rfl)<|cx (fz 1 1 0++fz 2 1 1024++fz 4 2 0) 8 Yod
abbrev Ygn (x0:Zg) (x1:Zk) (r:Zg×Bool):Y:=(208,[.agg (Zg.enc x0),.agg (Zk.enc x1)],.AW [.agg [.own 41 (r.1.queue.map Zk.enc),il r.1.Ao,il r.1.done,il r.1.tries,bl r.1.Ax,bl r.1.broken],bl r.2],un 2)
theorem Zwl {x0 x1 r} {Ad v0}:aE x0 x1 Ad v0=some r->CS (Ygn x0 x1 r) Tryz.f208 [1,1,0,1] [(3,pt 1),(4,pt 2),(6,pt 4),(22,bl v0)] [bx 1 (Zk.enc x1),rx 3 41 ([].map Zk.enc),bx 2 [sq 3 ([].map Zk.enc).length,il 0,il 0,il 0,bl false,bl false],rx 5 41 (Ad.queue.map Zk.enc),bx 4 [sq 5 (Ad.queue.map Zk.enc).length,il Ad.Ao,il Ad.done,il Ad.tries,bl Ad.Ax,bl Ad.broken]]:=
 st<|it (jk 1<|je Zk.enc Ad.queue<|rt)<|br Z9n λ{r0}=>jk 1<|bn λ{z0} Xf=>jt Zk.enc [r0] z0<|jk 2<|je Zc r0.Aa<|ja 6 Zk.A8 r0<|jx Zk.enc Xf<|je Zk.enc z0<|je Zk.enc z0<|rt
theorem Y0d {x0 x1 r}  : nO x0 x1=some r->Zr Tryz.prog Mo (Ygn x0 x1 r):=
 fK Tryz.func208<|br b6 λ{r1}=>br Ud<|it (jk 8<|jn Zk.enc r1.queue<|cx (fz 1 1 1024++fz 2 1 2048++fz 4 2 2048++fz 5 2 1024) 7 Zwl)<|jk 1<|br qQ<|jk 2<|it (jk 4<|jn Zk.enc r1.queue<|cx (fz 1 1 1024++fz 2 1 2048++fz 4 2 2048++fz 5 2 1024) 7 Zwl)<|jk 2<|js Zk.enc x0.queue<|jk 2<|jn Zk.enc r1.queue<|cx (fz 1 1 1024++fz 2 1 2048++fz 4 2 2048++fz 5 2 1024) 7 Zwl
abbrev Yu0 (x0:Zj) (x1:Ze) (r:Bool):Y:=(278,[.agg (Zj.enc x0),.agg (Ze.enc x1)],bl r,un 2)
theorem Ycy {x0 x1 r}  : aF x0 x1=some r->Zr Tryz.prog Mo (Yu0 x0 x1 r):=
 fK Tryz.func278<|it rt<|br Xc<|it (jk 3<|it (jk 5<|rt)<|jk 5<|rt)<|jk 9<|rt
abbrev Y27 (x0:Zj) (x1:Ze) (r:Bool):Y:=(243,[.agg (Zj.enc x0),.agg (Ze.enc x1)],bl r,un 2)
theorem Z8p {x0 x1 r}  : TC x0 x1=some r->Zr Tryz.prog Mo (Y27 x0 x1 r):=
 fK Tryz.func243<|it (jk 2<|br Ycy<|jk 1<|rt)<|jk 3<|rt
abbrev Yo1 (x0:Zj) (x1:Ze) (r:Zj):Y:=(209,[.agg (Zj.enc x0),.agg (Ze.enc x1)],.agg (Zj.enc r),un 2)
theorem Yo0 {x0 x1 r}  : nP x0 x1=some r->Zr Tryz.prog Mo (Yo1 x0 x1 r):=
 fK Tryz.func209<|br Z8p<|it rt<|it rt<|rt
abbrev Yf9 (x0:Zg) (r:Zg×Bool):Y:=(279,[.agg (Zg.enc x0)],.AW [.agg [.own 41 (r.1.queue.map Zk.enc),il r.1.Ao,il r.1.done,il r.1.tries,bl r.1.Ax,bl r.1.broken],bl r.2],un 1)
theorem Z5n {x0 r} {Ad v0}:nQ x0 Ad v0=some r->CS (Yf9 x0 r) Tryz.f279 [1,1,0,1] [(2,pt 1),(4,pt 3),(16,bl v0)] [rx 2 41 ([].map Zk.enc),bx 1 [sq 2 ([].map Zk.enc).length,il 0,il 0,il 0,bl false,bl false],rx 4 41 (Ad.queue.map Zk.enc),bx 3 [sq 4 (Ad.queue.map Zk.enc).length,il Ad.Ao,il Ad.done,il Ad.tries,bl Ad.Ax,bl Ad.broken]]:=
 st<|it (jk 1<|je Zk.enc Ad.queue<|rt)<|jk 1<|je Zk.enc Ad.queue<|rt
theorem Yy5 {x0 r}  : nR x0=some r->Zr Tryz.prog Mo (Yf9 x0 r):=
 fK Tryz.func279<|br b6 λ{r0}=>br Ud<|it (jk 5<|jn Zk.enc r0.queue<|cx (fz 1 1 1024++fz 3 2 2048++fz 4 2 1024) 7 Z5n)<|jk 5<|jn Zk.enc r0.queue<|cx (fz 1 1 1024++fz 3 2 2048++fz 4 2 1024) 7 Z5n
abbrev Yne (x0:Zj) (x1:Ze) (r:Zj):Y:=(280,[.agg (Zj.enc x0),.agg (Ze.enc x1)],.agg (Zj.enc r),un 2)
theorem Yoq {x0 x1 r}  : nS x0 x1=some r->Zr Tryz.prog Mo (Yne x0 x1 r):=
 fK Tryz.func280<|br Z8p<|it (jk 5<|it rt<|rt)<|jk 6<|rt
abbrev Ylt (x0:Zh) (x1:Int) (r:Int):Y:=(289,[.agg (Zh.enc x0),il x1],il r,un 2)
theorem Z7y {x0 x1 r} {v0}:zB x0 x1 v0=some r->CS (Ylt x0 x1 r) Tryz.f289 [1,0,1] [(1,il x1),(2,pt 1),(13,bl v0)] [bx 1 (Zh.enc x0)]:=
 st<|it rt<|bb Ze.enc<|rt
theorem Z84 {x0 x1 r}  : TD x0 x1=some r->Zr Tryz.prog Mo (Ylt x0 x1 r):=
 fK Tryz.func289<|br Uc<|it (jk 4<|cx (fz 1 1 0) 5 Z7y)<|jk 2<|br RJ<|jk 2<|cx (fz 1 1 0) 5 Z7y
abbrev Y7f (x0:Yb) (x1:Zh) (r:Bool):Y:=(259,[.agg (Yb.enc x0),.agg (Zh.enc x1)],bl r,un 2)
theorem Ycr {x0 x1 r}  : R4 x0 x1=some r->Zr Tryz.prog Mo (Y7f x0 x1 r):=
 fK Tryz.func259<|br Uc<|it (jk 3<|br RJ<|jk 1<|it (jk 5<|br Z84<|jk 1<|br Xc<|jk 1<|rt)<|jk 7<|rt)<|jk 12<|rt
abbrev Ygh (x0:Yb) (x1:Zh) (x2:Int) (r:Yb):Y:=(281,[.agg (Yb.enc x0),.agg (Zh.enc x1),il x2],.agg (Yb.enc r),un 3)
theorem Z3s {x0 x1 x2 r} {v0}:nT x0 x1 x2 v0=some r->CS (Ygh x0 x1 x2 r) Tryz.f281 [1,0,1] [(2,il x2),(3,pt 1),(4,pt 2),(6,pt 3),(15,bl v0)] [bx 1 (Yb.enc x0),bx 2 (Zh.enc x1),bx 3 (Yb.enc Yb.z0)]:=
 st<|it (br Z84<|rt)<|rt
theorem Yyt {x0 x1 x2 r}  : nU x0 x1 x2=some r->Zr Tryz.prog Mo (Ygh x0 x1 x2 r):=
 fK Tryz.func281<|br Ycr<|it (jk 4<|cx (fz 1 1 0++fz 2 1 1024++fz 3 1 2048) 5 Z3s)<|jk 4<|cx (fz 1 1 0++fz 2 1 1024++fz 3 1 2048) 5 Z3s
abbrev Yn5 (x0:Za) (x1:Zi) (r:Za):Y:=(244,[.agg (Za.ow x0),.agg (Zi.enc x1)],.AW [],[.agg (Za.ow r),.undef])
theorem Zxb {x0 x1 r}  : TE x0 x1=some r->Zr Tryz.prog Mo (Yn5 x0 x1 r):=
 fK Tryz.func244<|bn λQe=>jw (xd Zg.enc Qe)<|br Yy5 λ{r0}=>bn λ{y0} K4=>jw (xq Zg.enc Qe y0)<|jk 1<|je Zk.enc r0.1.queue<|jo (KU Zg.enc K4)<|it (bn λCz=>jw (xd Zj.enc Cz)<|bd Ze.enc<|br Yoq<|bn λCy=>jw (xp Zj.enc Cz Cy)<|jk 8<|je Ze.enc x0.Ae.Ab<|jo (J0 Zg.enc K4)<|jo (J0 Zj.enc Cy)<|je Zc x0.splits<|jw (Zf.so x0.model)<|je Zt.enc x0.log<|rt)<|it (jk 1<|je Ze.enc x0.Ae.Ab<|br Yyt<|jk 8<|je Ze.enc x0.Ae.Ab<|jo (J0 Zg.enc K4)<|je Zj.enc x0.buckets<|je Zc x0.splits<|jw (Zf.so x0.model)<|je Zt.enc x0.log<|rt)<|jk 8<|je Ze.enc x0.Ae.Ab<|jo (J0 Zg.enc K4)<|je Zj.enc x0.buckets<|je Zc x0.splits<|jw (Zf.so x0.model)<|je Zt.enc x0.log<|rt
abbrev Yhq (x0:List Int) (x1:Int) (r:Int):Y:=(282,[.tr (x0.map Zc),il x1],il r,un 2)
theorem Z4n {x0 x1 r} {v0}:nV x0 x1 v0=some r->CS (Yhq x0 x1 r) Tryz.f282 [1,0,1] [(0,.tr (x0.map Zc)),(1,il x1),(11,bl v0)] []:=
 st<|it rt<|js Zc x0<|jl<|bo KV<|bb Zc<|rt
theorem Z6b {x0 x1 r}  : TF x0 x1=some r->Zr Tryz.prog Mo (Yhq x0 x1 r):=
 fK Tryz.func282<|js Zc x0<|it (jk 2<|cx [] 5 Z4n)<|jk 2<|cx [] 5 Z4n
abbrev Yx4 (x0:Zh) (x1:Zb) (x2:Int) (r:Int):Y:=(245,[.agg (Zh.enc x0),.agg (Zb.enc x1),il x2],il r,un 3)
theorem Yx8 {x0 x1 x2 r}  : nW x0 x1 x2=some r->Zr Tryz.prog Mo (Yx4 x0 x1 x2 r):=
 fK Tryz.func245<|br Z6b<|rt
abbrev Yoz (x0:Zg) (x1:Int) (r:Int):Y:=(284,[.rp true (Zg.enc x0) 0,il x1],il r,un 2)
theorem Yof {x0 x1 r}  : nX x0 x1=some r->Zr Tryz.prog Mo (Yoz x0 x1 r):=
 fK Tryz.func284<|bb Zk.enc<|it (bb Zc<|rt)<|rt
abbrev Y4f (x0:Zm) (r:Zm):Y:=(288,[.agg (Zm.enc x0)],.agg (Zm.ow r),un 1)
theorem Ylj {x0 r}  : aG x0=some r->Zr Tryz.prog Mo (Y4f x0 r):=
 fK Tryz.func288<|br Kb λ{r0}=>br Kb λ{r1}=>jk 2<|je Zc r0<|je Zc r1<|rt
abbrev Yt7 (x0:Zf) (r:Zf):Y:=(256,[.agg (Zf.enc x0)],.agg (Zf.ow r),un 1)
theorem Z2p {x0 r}  : TG x0=some r->Zr Tryz.prog Mo (Yt7 x0 r):=
 fK Tryz.func256<|br Kb λ{r0}=>br Ylj λ{r1}=>jk 3<|je Zc r0<|jw (Zm.so r1)<|rt
abbrev Y2r (x0:Int) (r:Bool):Y:=(301,[il x0],bl r,un 1)
theorem Y1q {x0 r}  : nY x0=some r->Zr Tryz.prog Mo (Y2r x0 r):=
 fK Tryz.func301<|br Xc<|rt
abbrev Ze4 (x0:List Int) (r:Int):Y:=(182,[.tr (x0.map Zc),.fn 301 []],il r,un 2)
theorem Zmi {x0 r}:∀{m v0},K9 x0 m v0=some r->CS (Ze4 x0 r) Tryz.f182 [1,0,1,0] [(0,.tr (x0.map Zc)),(1,.fn 301 []),(7,il (x0.length:Int)),(8,il v0)] []:=by
 intro m
 induction m with
 | zero=>intro v0 h;cases h
 | succ m ih=>exact st<|it (bb Zc<|br Y1q<|it rt<|cx [] 16 ih)<|rt
theorem Zpy {x0 r}  : zC x0=some r->Zr Tryz.prog Mo (Ze4 x0 r):=
 fK Tryz.func182<|js Zc x0<|cx [] 6 Zmi
abbrev Zmz (x0:List Int) (r:Bool):Y:=(121,[.tr (x0.map Zc),.fn 301 []],bl r,un 2)
theorem Zm7 {x0 r}  : Qj x0=some r->Zr Tryz.prog Mo (Zmz x0 r):=
 fK Tryz.func121<|br Zpy<|rt
abbrev Y80 (x0:List Int) (x1:Int) (x2:Int) (r:Bool):Y:=(290,[.tr (x0.map Zc),il x1,il x2],bl r,un 3)
theorem Yi5 {x0 x1 x2 r}  : TH x0 x1 x2=some r->Zr Tryz.prog Mo (Y80 x0 x1 x2 r):=
 fK Tryz.func290<|js Zc x0<|it (jk 1<|br Zm7<|jk 2<|it (jk 2<|br qP<|jk 1<|it (jk 2<|js Zc x0<|jk 2<|br Oz<|jk 3<|rt)<|jk 7<|rt)<|jk 11<|rt)<|jk 15<|rt
abbrev Yz0 (x0:Int) (r:Bool):Y:=(302,[il x0],bl r,un 1)
theorem Yy2 {x0 r}  : nZ x0=some r->Zr Tryz.prog Mo (Yz0 x0 r):=
 fK Tryz.func302<|br RI<|rt
abbrev Zed (x0:List Int) (r:Int):Y:=(182,[.tr (x0.map Zc),.fn 302 []],il r,un 2)
theorem Zk9 {x0 r}:∀{m v0},Kx x0 m v0=some r->CS (Zed x0 r) Tryz.f182 [1,0,1,0] [(0,.tr (x0.map Zc)),(1,.fn 302 []),(7,il (x0.length:Int)),(8,il v0)] []:=by
 intro m
 induction m with
 | zero=>intro v0 h;cases h
 | succ m ih=>exact st<|it (bb Zc<|br Yy2<|it rt<|cx [] 16 ih)<|rt
theorem Zpb {x0 r}  : J4 x0=some r->Zr Tryz.prog Mo (Zed x0 r):=
 fK Tryz.func182<|js Zc x0<|cx [] 6 Zk9
abbrev Zlo (x0:List Int) (r:Bool):Y:=(121,[.tr (x0.map Zc),.fn 302 []],bl r,un 2)
theorem Zc4 {x0 r}  : X9 x0=some r->Zr Tryz.prog Mo (Zlo x0 r):=
 fK Tryz.func121<|br Zpb<|rt
abbrev Y6n (x0:Zm) (r:Bool):Y:=(291,[.agg (Zm.enc x0)],bl r,un 1)
theorem Yqk {x0 r}  : aH x0=some r->Zr Tryz.prog Mo (Y6n x0 r):=
 fK Tryz.func291<|js Zc x0.AB<|it (jk 2<|js Zc x0.A1<|jk 2<|it (jk 3<|br Zc4<|jk 2<|it (jk 3<|br Zc4<|jk 2<|it (jk 2<|br RI<|jk 1<|rt)<|jk 3<|rt)<|jk 9<|rt)<|jk 15<|rt)<|jk 20<|rt
abbrev Yza (x0:Zf) (r:Bool):Y:=(260,[.agg (Zf.enc x0)],bl r,un 1)
theorem Z55 {x0 r}  : R5 x0=some r->Zr Tryz.prog Mo (Yza x0 r):=
 fK Tryz.func260<|js Zc x0.mem<|it (jk 2<|br Yi5<|jk 1<|it (jk 2<|br Yqk<|jk 1<|rt)<|jk 3<|rt)<|jk 7<|rt
abbrev Yga (x0:Int) (r:Int):Y:=(247,[il x0],il r,un 1)
theorem Z5e {x0 r} {v0}:oA x0 v0=some r->CS (Yga x0 r) Tryz.f247 [1,0,0,1] [(0,il x0),(3,bl v0)] []:=
 st<|it rt<|it rt<|it rt<|rt
theorem Yhv {x0 r}  : aI x0=some r->Zr Tryz.prog Mo (Yga x0 r):=
 fK Tryz.func247<|it (jk 2<|cx [] 6 Z5e)<|jk 2<|cx [] 6 Z5e
abbrev Ue (x0:Zm) (x1:Bool) (x2:Int) (x3:Int) (r:Zm×Int×Bool):Y:=(266,[.agg (Zm.enc x0),bl x1,il x2,il x3],.AW [.agg (Zm.ow r.1),il r.2.1,bl r.2.2],un 4)
theorem Zzl {x0 x1 x2 x3 r} {Ad v0}:aJ x0 x1 x2 x3 Ad v0=some r->CS (Ue x0 x1 x2 x3 r) Tryz.f266 [1,1,1,0,0,1,1,1,1,1,1,1,1,1] [(1,bl x1),(2,il x2),(3,il x3),(4,pt 1),(8,pt 2),(11,pt 5),(91,bl v0)] ([bx 1 (Zm.enc x0)]++Zm.bk Zm.z0 3++[bx 2 (Zm.rl Zm.z0 3)]++Zm.bk Ad 6++[bx 5 (Zm.rl Ad 6)]):=
 st<|it (jk 2<|jw (Zm.so Ad)<|rt)<|it (jk 1<|bn λQe=>bn λK4=>jw (xp Zc Qe K4)<|jk 2<|jo (J0 Zc K4)<|je Zc Ad.A1<|rt)<|jk 1<|bb Zc<|jk 2<|jw (Zm.so Ad)<|rt
theorem Zzp {x0 x1 x2 x3 r} {Ad v1}:aK x0 x1 x2 x3 Ad v1=some r->CS (Ue x0 x1 x2 x3 r) Tryz.f266 [1,1,1,0,0,1,1,1,1,1,1,1] [(1,bl x1),(2,il x2),(3,il x3),(4,pt 1),(8,pt 2),(11,pt 5),(69,bl v1)] ([bx 1 (Zm.enc x0)]++Zm.bk Zm.z0 3++[bx 2 (Zm.rl Zm.z0 3)]++Zm.bk Ad 6++[bx 5 (Zm.rl Ad 6)]):=
 st<|it (bb Zc<|bn λ{s0} Qu=>jp (.num (1:Int).toNat ((x0.A1.length:Int):Int).toNat 0 (s0.map Zc))<|jo (DL Qu).1<|jo (Gi Zc x0.A1)<|jo (Eb Zc Qu)<|jo (CF 1 Ju x0.A1)<|jo (E3 Zc Qu)<|br Kb λ{r0}=>jk 2<|je Zc Ad.AB<|je Zc r0<|rt)<|it (jk 6<|jw (Zm.sc Zm.z0)<|jw (Zm.sc Ad)<|cx (Ay 1 7) 3 Zzl)<|jk 2<|it (jk 3<|jw (Zm.sc Zm.z0)<|jw (Zm.sc Ad)<|cx (Ay 1 7) 3 Zzl)<|jk 4<|jw (Zm.sc Zm.z0)<|jw (Zm.sc Ad)<|cx (Ay 1 7) 3 Zzl
theorem Zzt {x0 x1 x2 x3 r} {Ad v2}:aL x0 x1 x2 x3 Ad v2=some r->CS (Ue x0 x1 x2 x3 r) Tryz.f266 [1,1,1,0,0,1,1,1,1,1] [(1,bl x1),(2,il x2),(3,il x3),(4,pt 1),(8,pt 2),(11,pt 5),(51,bl v2)] ([bx 1 (Zm.enc x0)]++Zm.bk Zm.z0 3++[bx 2 (Zm.rl Zm.z0 3)]++Zm.bk Ad 6++[bx 5 (Zm.rl Ad 6)]):=
 st<|it (bn λ{z0} Xf=>jt Zc [x3] z0<|jk 3<|ja 1 Ju x3<|jx Zc Xf<|je Zc z0<|je Zc Ad.AB<|je Zc z0<|rt)<|it (jk 2<|it (jk 2<|js Zc x0.A1<|jk 2<|jw (Zm.sc Zm.z0)<|jw (Zm.sc Ad)<|cx (Ay 1 7) 3 Zzp)<|jk 4<|jw (Zm.sc Zm.z0)<|jw (Zm.sc Ad)<|cx (Ay 1 7) 3 Zzp)<|jk 7<|jw (Zm.sc Zm.z0)<|jw (Zm.sc Ad)<|cx (Ay 1 7) 3 Zzp
theorem Ya3 {x0 x1 x2 x3 r} {Ad v3}:oC x0 x1 x2 x3 Ad v3=some r->CS (Ue x0 x1 x2 x3 r) Tryz.f266 [1,1,1,0,0,1] [(1,bl x1),(2,il x2),(3,il x3),(4,pt 1),(8,pt 2),(11,pt 5),(32,bl v3)] ([bx 1 (Zm.enc x0)]++Zm.bk Zm.z0 3++[bx 2 (Zm.rl Zm.z0 3)]++Zm.bk Ad 6++[bx 5 (Zm.rl Ad 6)]):=
 st<|it (jk 2<|jw (Zm.so Ad)<|rt)<|it (br Yf4<|jl<|jk 2<|bo KV<|jw (Zm.so Ad)<|rt)<|it (jk 1<|it (jk 2<|js Zc x0.A1<|jk 2<|jw (Zm.sc Zm.z0)<|jw (Zm.sc Ad)<|cx (Ay 1 7) 6 Zzt)<|jk 4<|jw (Zm.sc Zm.z0)<|jw (Zm.sc Ad)<|cx (Ay 1 7) 6 Zzt)<|jk 6<|jw (Zm.sc Zm.z0)<|jw (Zm.sc Ad)<|cx (Ay 1 7) 6 Zzt
theorem Zzw {x0 x1 x2 x3 r} {Ad v4}:R6 x0 x1 x2 x3 Ad v4=some r->CS (Ue x0 x1 x2 x3 r) Tryz.f266 [1,1,0,1] [(1,bl x1),(2,il x2),(3,il x3),(4,pt 1),(8,pt 2),(11,pt 5),(24,bl v4)] ([bx 1 (Zm.enc x0)]++Zm.bk Zm.z0 3++[bx 2 (Zm.rl Zm.z0 3)]++Zm.bk Ad 6++[bx 5 (Zm.rl Ad 6)]):=
 st<|it (jk 2<|jw (Zm.so Ad)<|rt)<|it (jk 1<|jw (Zm.sc Zm.z0)<|jw (Zm.sc Ad)<|cx (Ay 1 7) 6 Ya3)<|jk 1<|jw (Zm.sc Zm.z0)<|jw (Zm.sc Ad)<|cx (Ay 1 7) 6 Ya3
theorem Y50 {x0 x1 x2 x3 r}  : oD x0 x1 x2 x3=some r->Zr Tryz.prog Mo (Ue x0 x1 x2 x3 r):=
 fK Tryz.func266<|br Ylj λ{r2}=>br Yqk<|it (jk 3<|jw (Zm.sc r2)<|cx (fz 1 1 0++fz 2 1 1024++fz 5 2 2048++Zm.ff 6 2 1024) 7 Zzw)<|jk 1<|it (jk 1<|br RI<|jk 4<|jw (Zm.sc r2)<|cx (fz 1 1 0++fz 2 1 1024++fz 5 2 2048++Zm.ff 6 2 1024) 7 Zzw)<|jk 5<|jw (Zm.sc r2)<|cx (fz 1 1 0++fz 2 1 1024++fz 5 2 2048++Zm.ff 6 2 1024) 7 Zzw
abbrev Yad (x0:List Int) (x1:Int) (x2:Int) (x3:Int) (r:List Int×Bool):Y:=(267,[.tr (x0.map Zc),il x1,il x2,il x3],.AW [.own 3 (r.1.map Zc),bl r.2],un 4)
theorem Yog {x0 x1 x2 x3 r}:∀{m v0 v1 v2},oF x0 x1 x2 x3 m v0 v1 v2=some r->CS (Yad x0 x1 x2 x3 r) Tryz.f267 [1,1,1,0,1,0] [(1,il x1),(3,il x3),(10,sq 1 (v0.map Zc).length),(27,il v1),(28,il v2)] [rx 1 3 (v0.map Zc)]:=by
 intro m
 induction m with
 | zero=>intro v0 v1 v2 h;cases h
 | succ m ih=>exactλ{v0} {v1} {v2}=>st<|it (jl<|bo Tg<|bn λQe=>bn λ{y0} K4=>jw (xp Zc Qe K4)<|jp (.num (y0.map Zc).length 0 0 [])<|jo (J0 Zc K4)<|cx (Ay 1 1) 13 ih)<|jk 1<|je Zc v0<|rt
theorem Z7n {x0 x1 x2 x3 r} {v0 v3}:oG x0 x1 x2 x3 v0 v3=some r->CS (Yad x0 x1 x2 x3 r) Tryz.f267 [1,1,0,1] [(1,il x1),(2,il x2),(3,il x3),(10,sq 1 (v0.map Zc).length),(24,bl v3)] [rx 1 3 (v0.map Zc)]:=
 st<|it (jk 1<|je Zc v0<|rt)<|br Oz<|jn Zc v0<|cx (Ay 1 1) 6 Yog
theorem Y3h {x0 x1 x2 x3 r}  : oH x0 x1 x2 x3=some r->Zr Tryz.prog Mo (Yad x0 x1 x2 x3 r):=
 fK Tryz.func267<|br Kb λ{r1}=>br Yi5<|it (jk 4<|jn Zc r1<|cx (fz 1 2 1024) 7 Z7n)<|jk 2<|br RI<|jk 2<|jn Zc r1<|cx (fz 1 2 1024) 7 Z7n
abbrev Ykw (x0:List Int) (x1:Int) (x2:Int) (r:Int×Bool):Y:=(268,[.tr (x0.map Zc),il x1,il x2],.AW [il r.1,bl r.2],un 3)
theorem Yol {x0 x1 x2 r}:∀{m v0 v1 v2},oI x0 x1 x2 m v0 v1 v2=some r->CS (Ykw x0 x1 x2 r) Tryz.f268 [1,1,1,0,1,0] [(0,.tr (x0.map Zc)),(1,il x1),(8,il v0),(16,il v1),(17,il v2)] []:=by
 intro m
 induction m with
 | zero=>intro v0 v1 v2 h;cases h
 | succ m ih=>exact st<|it (bb Zc<|jl<|bo Tg<|cx [] 13 ih)<|rt
theorem Y13 {x0 x1 x2 r}  : oJ x0 x1 x2=some r->Zr Tryz.prog Mo (Ykw x0 x1 x2 r):=
 fK Tryz.func268<|br Yi5<|it rt<|br Oz<|cx [] 13 Yol
abbrev b7 (x0:Zf) (x1:Bool) (x2:Int) (x3:Int) (x4:Int) (r:Zf×Int×Int):Y:=(219,[.agg (Zf.enc x0),bl x1,il x2,il x3,il x4],.AW [.agg (Zf.ow r.1),il r.2.1,il r.2.2],un 5)
theorem qR {x0 x1 x2 x3 x4 r} {Ad v0 v1}:TI x0 x1 x2 x3 x4 Ad v0 v1=some r->CS (b7 x0 x1 x2 x3 x4 r) Tryz.f219 [1,1,1,1,1] [(4,il v0),(5,pt 1),(10,pt 2),(13,pt 6),(14,bl v1)] ([bx 1 (Zf.enc x0)]++Zf.bk Zf.z0 3++[bx 2 (Zf.rl Zf.z0 3)]++Zf.bk Ad 7++[bx 6 (Zf.rl Ad 7)]):=
 st<|it (br Z2p λ{r0}=>jk 3<|jw (Zf.so r0)<|rt)<|jk 3<|jw (Zf.so Ad)<|rt
theorem Z49 {x0 x1 x2 x3 x4 r} {Ad v2}:oK x0 x1 x2 x3 x4 Ad v2=some r->CS (b7 x0 x1 x2 x3 x4 r) Tryz.f219 [1,1,1,1,0,1,0,1,1,1] [(1,bl x1),(2,il x2),(3,il x3),(4,il x4),(5,pt 1),(10,pt 2),(13,pt 6),(14,bl false),(58,bl v2)] ([bx 1 (Zf.enc x0)]++Zf.bk Zf.z0 3++[bx 2 (Zf.rl Zf.z0 3)]++Zf.bk Ad 7++[bx 6 (Zf.rl Ad 7)]):=
 st<|it (it (br Y3h λ{r1}=>jw (Zf.sc Zf.z0)<|jw (Zf.sc (Zf.mk r1.1 Ad.dev))<|cx (Ay 1 6++fz 7 3 5120++Ay 8 2) 6 qR)<|br Y13<|jw (Zf.sc Zf.z0)<|jw (Zf.sc Ad)<|cx (Ay 1 9) 6 qR)<|jw (Zf.sc Zf.z0)<|jw (Zf.sc Ad)<|cx (Ay 1 9) 3 qR
theorem Z4u {x0 x1 x2 x3 x4 r} {Ad v3 v4}:oL x0 x1 x2 x3 x4 Ad v3 v4=some r->CS (b7 x0 x1 x2 x3 x4 r) Tryz.f219 [1,1,1,1,0,1,0,1] [(1,bl x1),(2,il x2),(3,il x3),(4,il x4),(5,pt 1),(10,pt 2),(13,pt 6),(14,bl false),(15,il v3),(39,bl v4)] ([bx 1 (Zf.enc x0)]++Zf.bk Zf.z0 3++[bx 2 (Zf.rl Zf.z0 3)]++Zf.bk Ad 7++[bx 6 (Zf.rl Ad 7)]):=
 st<|it (br Y50 λ{r3}=>jw (Zf.sc Zf.z0)<|jw (Zf.sc (Zf.mk Ad.mem r3.1))<|cx (Ay 1 7++fz 8 2 6144++fz 9 2 6146) 3 qR)<|it (jk 2<|jw (Zf.sc Zf.z0)<|jw (Zf.sc Ad)<|cx (Ay 1 9) 3 Z49)<|jk 2<|jw (Zf.sc Zf.z0)<|jw (Zf.sc Ad)<|cx (Ay 1 9) 3 Z49
theorem qS {x0 x1 x2 x3 x4 r} {Ad v5}:J1 x0 x1 x2 x3 x4 Ad v5=some r->CS (b7 x0 x1 x2 x3 x4 r) Tryz.f219 [1,1,0,1] [(1,bl x1),(2,il x2),(3,il x3),(4,il x4),(5,pt 1),(10,pt 2),(13,pt 6),(35,bl v5)] ([bx 1 (Zf.enc x0)]++Zf.bk Zf.z0 3++[bx 2 (Zf.rl Zf.z0 3)]++Zf.bk Ad 7++[bx 6 (Zf.rl Ad 7)]):=
 st<|it (jk 3<|jw (Zf.so Ad)<|rt)<|br Yhv<|it (jk 2<|jw (Zf.sc Zf.z0)<|jw (Zf.sc Ad)<|cx (Ay 1 9) 10 Z4u)<|jk 2<|jw (Zf.sc Zf.z0)<|jw (Zf.sc Ad)<|cx (Ay 1 9) 10 Z4u
theorem Yhk {x0 x1 x2 x3 x4 r}  : aO x0 x1 x2 x3 x4=some r->Zr Tryz.prog Mo (b7 x0 x1 x2 x3 x4 r):=
 fK Tryz.func219<|br Z2p λ{r5}=>br Z55<|it (jk 8<|jw (Zf.sc r5)<|cx (fz 1 1 0++fz 2 1 1024++fz 6 2 2048++Zf.ff 7 2 1024) 7 qS)<|jk 2<|br qP<|jk 2<|it (jk 3<|jw (Zf.sc r5)<|cx (fz 1 1 0++fz 2 1 1024++fz 6 2 2048++Zf.ff 7 2 1024) 7 qS)<|jk 1<|it (jk 2<|br RI<|jk 4<|jw (Zf.sc r5)<|cx (fz 1 1 0++fz 2 1 1024++fz 6 2 2048++Zf.ff 7 2 1024) 7 qS)<|jk 6<|jw (Zf.sc r5)<|cx (fz 1 1 0++fz 2 1 1024++fz 6 2 2048++Zf.ff 7 2 1024) 7 qS
abbrev Y18 (x0:Za) (x1:Zi) (r:Zf×Int×Int):Y:=(248,[.rp true (Za.enc x0) 0,.agg (Zi.enc x1)],.AW [.agg (Zf.ow r.1),il r.2.1,il r.2.2],un 2)
theorem Yms {x0 x1 r}  : aP x0 x1=some r->Zr Tryz.prog Mo (Y18 x0 x1 r):=
 fK Tryz.func248<|bb Zg.enc<|bb Zk.enc<|br b4<|br Yof<|br Yhk λ{r2}=>jk 3<|jw (Zf.so r2.1)<|rt
abbrev Ymp (x0:Zg) (r:Zg×Bool):Y:=(283,[.agg (Zg.enc x0)],.AW [.agg [.own 41 (r.1.queue.map Zk.enc),il r.1.Ao,il r.1.done,il r.1.tries,bl r.1.Ax,bl r.1.broken],bl r.2],un 1)
theorem Z6y {x0 r} {Ad v0}:oM x0 Ad v0=some r->CS (Ymp x0 r) Tryz.f283 [1,1,0,1] [(2,pt 1),(4,pt 3),(16,bl v0)] [rx 2 41 ([].map Zk.enc),bx 1 [sq 2 ([].map Zk.enc).length,il 0,il 0,il 0,bl false,bl false],rx 4 41 (Ad.queue.map Zk.enc),bx 3 [sq 4 (Ad.queue.map Zk.enc).length,il Ad.Ao,il Ad.done,il Ad.tries,bl Ad.Ax,bl Ad.broken]]:=
 st<|it (jk 1<|je Zk.enc Ad.queue<|rt)<|jk 1<|je Zk.enc Ad.queue<|br bZ<|it (jp (.num (1:Int).toNat ((Ad.queue.length:Int):Int).toNat (((Ad.queue.length:Int):Int).toNat - (1:Int).toNat) [])<|jk 1<|bn λ{s0} Qu=>jp (.mk 0 (s0.map Zk.enc))<|je Zk.enc Ad.queue<|jo (DL Qu).1<|jo (Gi Zk.enc Ad.queue)<|jo (Eb Zk.enc Qu)<|jo (CF 6 Zk.A8 Ad.queue)<|jo (Eq.refl (((Ad.queue.length:Int):Int).toNat - (1:Int).toNat))<|jo (iT Zk.enc Qu)<|jo (E3 Zk.enc Qu)<|rt)<|jk 1<|je Zk.enc Ad.queue<|rt
theorem Y2s {x0 r}  : oN x0=some r->Zr Tryz.prog Mo (Ymp x0 r):=
 fK Tryz.func283<|br b6 λ{r1}=>br Ud<|it (jk 5<|jn Zk.enc r1.queue<|cx (fz 1 1 1024++fz 3 2 2048++fz 4 2 1024) 7 Z6y)<|jk 5<|jn Zk.enc r1.queue<|cx (fz 1 1 1024++fz 3 2 2048++fz 4 2 1024) 7 Z6y
abbrev Yvi (x0:Za) (r:Za):Y:=(211,[.agg (Za.ow x0)],.AW [],[.agg (Za.ow r)])
theorem Ybs {x0 r}  : aQ x0=some r->Zr Tryz.prog Mo (Yvi x0 r):=
 fK Tryz.func211<|jk 8<|jw (Za.so x0)<|rt
abbrev qT (x0:Za) (x1:Zi) (r:Za):Y:=(246,[.agg (Za.ow x0),.agg (Zi.enc x1)],.AW [],[.agg (Za.ow r),.undef])
theorem Zui {x0 x1 r} {Ad A2}:oO x0 x1 Ad A2=some r->CS (qT x0 x1 r) Tryz.f246 [1,1,1,1,1,1,1,1] [(0,.ptr (0,63) 0 0),(3,pt 9),(10,pt 10)] (Za.bk Ad 1++[((0,63),⟨true,true,true,0,[(Za.rl Ad 1)]⟩),bx 9 (Zi.enc x1),rx 11 41 (A2.queue.map Zk.enc),bx 10 [sq 11 (A2.queue.map Zk.enc).length,il A2.Ao,il A2.done,il A2.tries,bl A2.Ax,bl A2.broken]]):=
 st<|bn λQe=>bn λ{y0} K4=>jw (xq Zg.enc Qe y0)<|jk 9<|je Zk.enc A2.queue<|jo (KU Zg.enc K4)<|je Ze.enc Ad.Ae.Ab<|jo (J0 Zg.enc K4)<|je Zj.enc Ad.buckets<|je Zc Ad.splits<|jw (Zf.so Ad.model)<|je Zt.enc Ad.log<|rt
theorem Zwe {x0 x1 r} {Ad A2 v0}:oP x0 x1 Ad A2 v0=some r->CS (qT x0 x1 r) Tryz.f246 [1,1,1,1,1,1,1,0,1] [(0,.ptr (0,63) 0 0),(3,pt 9),(10,pt 10),(87,bl v0)] (Za.bk Ad 1++[((0,63),⟨true,true,true,0,[(Za.rl Ad 1)]⟩),bx 9 (Zi.enc x1),rx 11 41 (A2.queue.map Zk.enc),bx 10 [sq 11 (A2.queue.map Zk.enc).length,il A2.Ao,il A2.done,il A2.tries,bl A2.Ax,bl A2.broken]]):=
 st<|it (jk 8<|jw (Za.so Ad)<|br Ybs λ{r0}=>jw (Za.sc r0)<|jn Zk.enc A2.queue<|cx (Za.ff 1 2 1536++Ay 9 3) 2 Zui)<|jw (Za.sc Ad)<|jn Zk.enc A2.queue<|cx (Ay 1 11) 2 Zui
theorem Zu9 {x0 x1 r} {Ad A2 AI}:aR x0 x1 Ad A2 AI=some r->CS (qT x0 x1 r) Tryz.f246 [1,1,1,1,1] [(0,.ptr (0,63) 0 0),(3,pt 9),(4,pt 10),(6,pt 11)] (Za.bk Ad 1++[((0,63),⟨true,true,true,0,[(Za.rl Ad 1)]⟩),bx 9 (Zi.enc x1),bx 10 (Zg.enc A2),bx 11 (Zt.enc AI)]):=
 st<|bn λ{z0} Xf=>jt Zt.enc [AI] z0<|jk 1<|ja 7 Zt.A8 AI<|jx Zt.enc Xf<|je Zt.enc z0<|br Y2s λ{r1}=>it (jk 2<|js Zk.enc r1.1.queue<|jk 3<|js Zk.enc A2.queue<|jk 2<|jw (Za.sc {Ad with log:=z0})<|jn Zk.enc r1.1.queue<|cx (Ay 1 7++fz 8 2 7168++Ay 9 1++fz 10 3 5120++fz 11 3 1024) 7 Zwe)<|jk 7<|jw (Za.sc {Ad with log:=z0})<|jn Zk.enc r1.1.queue<|cx (Ay 1 7++fz 8 2 7168++Ay 9 1++fz 10 3 5120++fz 11 3 1024) 7 Zwe
theorem Yir {x0 x1 r}  : oQ x0 x1=some r->Zr Tryz.prog Mo (qT x0 x1 r):=
 fK Tryz.func246<|bd Zg.enc<|bb Zk.enc<|br b4<|it (jk 8<|jw (Za.so x0)<|br Yms λ{r3}=>jw (Za.sc {x0 with model:=r3.1})<|cx (fz 1 0 0++fz 2 0 7++fz 3 0 10++fz 4 0 11++fz 5 6 2048++fz 6 6 2049++fz 7 6 2051++fz 8 0 36++fz 9 1 0++fz 10 2 8192++fz 11 4 17408) 17 Zu9)<|jw (Za.sc x0)<|cx (Za.ff 1 0 0++fz 9 1 0++fz 10 2 8192++fz 11 4 17408) 13 Zu9
abbrev Zw7 (x0:Za) (x1:Zb) (x2:Zq) (r:Bool×Za×Zq):Y:=(210,[.agg (Za.ow x0),.agg (Zb.enc x1),.agg [il x2.A4,il x2.addr,il x2.kind,il x2.Aj,il x2.Aa,il x2.from_,bl x2.ready,il x2.Ar,il x2.C0]],bl r.1,[.agg (Za.ow r.2.1),.undef,.agg [il r.2.2.A4,il r.2.2.addr,il r.2.2.kind,il r.2.2.Aj,il r.2.2.Aa,il r.2.2.from_,bl r.2.2.ready,il r.2.2.Ar,il r.2.2.C0]])
theorem Zym {x0 x1 x2 r} {Ad}:oR x0 x1 x2 Ad=some r->CS (Zw7 x0 x1 x2 r) Tryz.f210 [1,1,1,1,0,1,0,1,1] [] (Za.bk Ad 1++[((0,63),⟨true,true,true,0,[(Za.rl Ad 1)]⟩),((0,191),⟨true,true,true,0,[(Zq.enc {x2 with Ar:=x0.Aa.Ar})]⟩)]):=
 st<|jk 8<|jw (Za.so Ad)<|rt
theorem Zzb {x0 x1 x2 r} {v0}:TJ x0 x1 x2 v0=some r->CS (Zw7 x0 x1 x2 r) Tryz.f210 [1,1,1,1,0,1] [(0,.ptr (0,63) 0 0),(4,pt 9),(7,pt 10),(41,bl v0)] (Za.bk x0 1++[((0,63),⟨true,true,true,0,[(Za.rl x0 1)]⟩),((0,191),⟨true,true,true,0,[(Zq.enc {x2 with Ar:=x0.Aa.Ar})]⟩),bx 9 (Zb.enc x1),bx 10 (Zi.enc x0.Aa)]):=
 st<|it (it (jk 8<|jw (Za.so x0)<|br Zxb λ{r0}=>jw (Za.sc {r0 with addr:=Zi.z0})<|cx (Za.ff 1 4 5632) 10 Zym)<|jw (Za.sc {x0 with Aa:={x0.Aa with second:=true}})<|cx (Ay 1 8) 8 Zym)<|it (bn λQe=>jw (xd Zg.enc Qe)<|bn λK4=>jw (xp Zg.enc Qe K4)<|jk 8<|je Ze.enc x0.Ae.Ab<|jo (J0 Zg.enc K4)<|je Zj.enc x0.buckets<|je Zc x0.splits<|jw (Zf.so x0.model)<|je Zt.enc x0.log<|br Zxb λ{r1}=>jk 8<|jw (Za.so r1)<|rt)<|it (bn λCz=>bn λCy=>jw (xp Zg.enc Cz Cy)<|jk 1<|je Ze.enc x0.Ae.Ab<|br Yx8<|bn λD1=>bn λDJ=>jw (xp Zc D1 DJ)<|jk 8<|je Ze.enc x0.Ae.Ab<|jo (J0 Zg.enc Cy)<|je Zj.enc x0.buckets<|jo (J0 Zc DJ)<|jw (Zf.so x0.model)<|je Zt.enc x0.log<|br Zxb λ{r3}=>jk 8<|jw (Za.so r3)<|rt)<|jk 8<|jw (Za.so x0)<|br Yir λ{r4}=>jk 8<|jw (Za.so r4)<|rt
theorem Yo2 {x0 x1 x2 r}  : oS x0 x1 x2=some r->Zr Tryz.prog Mo (Zw7 x0 x1 x2 r):=
 fK Tryz.func210<|it (jk 8<|jw (Za.so x0)<|rt)<|it (jk 8<|jw (Za.so x0)<|rt)<|it (jk 3<|jw (Za.sc x0)<|cx (Za.ff 1 0 0++fz 9 1 0++fz 10 2 4096) 19 Zzb)<|jk 3<|jw (Za.sc x0)<|cx (Za.ff 1 0 0++fz 9 1 0++fz 10 2 4096) 19 Zzb
abbrev Y16 (x0:Zh) (x1:Zb) (x2:Int) (r:Int):Y:=(249,[.agg (Zh.enc x0),.agg (Zb.enc x1),il x2],il r,un 3)
theorem Y2t {x0 x1 x2 r}  : oT x0 x1 x2=some r->Zr Tryz.prog Mo (Y16 x0 x1 x2 r):=
 fK Tryz.func249<|br Z6b<|rt
abbrev Y3z (x0:Zb) (x1:Int) (r:Int):Y:=(250,[.agg (Zb.enc x0),il x1],il r,un 2)
theorem Y3r {x0 x1 r}  : oU x0 x1=some r->Zr Tryz.prog Mo (Y3z x0 x1 r):=
 fK Tryz.func250<|br Z6b<|it (jk 3<|rt)<|jk 2<|it rt<|rt
abbrev qU (x0:Za) (x1:Zb) (x2:Zi) (r:Int×Int):Y:=(212,[.rp true (Za.enc x0) 0,.agg (Zb.enc x1),.agg (Zi.enc x2)],.AW [il r.1,il r.2],un 3)
theorem Zpw {x0 x1 x2 r} {Ad v0 v1 v2 v3 v4}:K2 x0 x1 x2 Ad v0 v1 v2 v3 v4=some r->CS (qU x0 x1 x2 r) Tryz.f212 [1,1,1,1,1,1,1,0,1,0,1] [(0,.rp true (Za.enc x0) 0),(5,pt 1),(8,pt 2),(9,il v0),(12,il v1),(13,il v2),(14,il v3),(61,bl v4)] [bx 1 (Zi.enc x2),bx 2 (Zg.enc Ad)]:=
 st<|it rt<|it (jk 2<|it (jk 3<|it (jk 7<|it rt<|rt)<|jk 8<|rt)<|jk 12<|rt)<|jk 15<|rt
theorem Zyo {x0 x1 x2 r} {A2 v0 v1 v2}:aS x0 x1 x2 A2 v0 v1 v2=some r->CS (qU x0 x1 x2 r) Tryz.f212 [1,1,1,1,1,1,1] [(0,.rp true (Za.enc x0) 0),(4,pt 1),(5,pt 2),(8,pt 3),(9,il v0),(12,il v1),(13,il v2)] [bx 1 (Zb.enc x1),bx 2 (Zi.enc x2),bx 3 (Zg.enc A2)]:=
 st<|br Y3r<|it (jk 2<|it (jk 8<|cx (fz 1 1 2++fz 2 1 3) 6 Zpw)<|jk 8<|cx (fz 1 1 2++fz 2 1 3) 6 Zpw)<|jk 11<|cx (fz 1 1 2++fz 2 1 3) 6 Zpw
theorem Zy1 {x0 x1 x2 r} {A2 v0 v5}:R7 x0 x1 x2 A2 v0 v5=some r->CS (qU x0 x1 x2 r) Tryz.f212 [1,1,1,0,1] [(0,.rp true (Za.enc x0) 0),(4,pt 1),(5,pt 2),(8,pt 3),(9,il v0),(33,bl v5)] [bx 1 (Zb.enc x1),bx 2 (Zi.enc x2),bx 3 (Zg.enc A2)]:=
 st<|it rt<|br Yms<|br Y2t<|it (cx (Ay 1 3) 11 Zyo)<|cx (Ay 1 3) 11 Zyo
theorem Ynj {x0 x1 x2 r}  : oW x0 x1 x2=some r->Zr Tryz.prog Mo (qU x0 x1 x2 r):=
 fK Tryz.func212<|bb Zg.enc<|br b4<|br Yhv<|it (jk 2<|cx (fz 1 1 0++fz 2 1 1024++fz 3 2 8192) 9 Zy1)<|jk 2<|cx (fz 1 1 0++fz 2 1 1024++fz 3 2 8192) 9 Zy1
abbrev Yto (x0:Zg) (r:Bool):Y:=(285,[.agg (Zg.enc x0)],bl r,un 1)
theorem Yen {x0 r}  : aT x0=some r->Zr Tryz.prog Mo (Yto x0 r):=
 fK Tryz.func285<|br Ud<|it (jk 2<|br bZ<|jk 2<|rt)<|jk 4<|rt
abbrev Z64 (x0:Zj) (x1:Ze) (r:Zj×Bool):Y:=(286,[.agg (Zj.enc x0),.agg (Ze.enc x1)],.AW [.agg (Zj.enc r.1),bl r.2],un 2)
theorem Zyw {x0 x1 r} {v0}:oX x0 x1 v0=some r->CS (Z64 x0 x1 r) Tryz.f286 [1,0,1] [(2,pt 1),(4,pt 2),(14,bl v0)] [bx 1 (Zj.enc x0),bx 2 (Zj.enc Zj.z0)]:=
 st<|it rt<|rt
theorem Yno {x0 x1 r}  : oY x0 x1=some r->Zr Tryz.prog Mo (Z64 x0 x1 r):=
 fK Tryz.func286<|br Z8p<|it (jk 3<|cx (fz 1 1 0++fz 2 1 2048) 5 Zyw)<|jk 3<|cx (fz 1 1 0++fz 2 1 2048) 5 Zyw
abbrev qV (x0:Yb) (x1:Zh) (x2:List Bool) (r:Yb×Int):Y:=(287,[.agg (Yb.enc x0),.agg (Zh.enc x1),.tr (x2.map Z8)],.AW [.agg (Yb.enc r.1),il r.2],un 3)
theorem Ykm {x0 x1 x2 r}:∀{m v0},oZ x0 x1 x2 m v0=some r->CS (qV x0 x1 x2 r) Tryz.f287 [1,1,1,1,0,1,0] [(2,.tr (x2.map Z8)),(3,pt 1),(4,pt 2),(6,pt 3),(8,il (x1.Ab.length:Int)),(9,il v0)] [bx 1 (Yb.enc x0),bx 2 (Zh.enc x1),bx 3 (Yb.enc Yb.z0)]:=by
 intro m
 induction m with
 | zero=>intro v0 h;cases h
 | succ m ih=>exact st<|it (jl<|bo KV<|bb Z8<|it (br Z84<|rt)<|cx (Ay 1 3) 16 ih)<|rt
theorem Z4k {x0 x1 x2 r} {v1}:o4 x0 x1 x2 v1=some r->CS (qV x0 x1 x2 r) Tryz.f287 [1,1,1,0,1] [(2,.tr (x2.map Z8)),(3,pt 1),(4,pt 2),(6,pt 3),(8,il (x1.Ab.length:Int)),(34,bl v1)] [bx 1 (Yb.enc x0),bx 2 (Zh.enc x1),bx 3 (Yb.enc Yb.z0)]:=
 st<|it rt<|cx (Ay 1 3) 6 Ykm
theorem Z4w {x0 x1 x2 r} {v2}:o5 x0 x1 x2 v2=some r->CS (qV x0 x1 x2 r) Tryz.f287 [1,1,0,1] [(2,.tr (x2.map Z8)),(3,pt 1),(4,pt 2),(6,pt 3),(8,il (x1.Ab.length:Int)),(23,bl v2)] [bx 1 (Yb.enc x0),bx 2 (Zh.enc x1),bx 3 (Yb.enc Yb.z0)]:=
 st<|it rt<|it (jk 3<|bb Z8<|jk 2<|cx (Ay 1 3) 5 Z4k)<|jk 5<|cx (Ay 1 3) 5 Z4k
theorem Yyf {x0 x1 x2 r}  : o6 x0 x1 x2=some r->Zr Tryz.prog Mo (qV x0 x1 x2 r):=
 fK Tryz.func287<|js Ze.enc x1.Ab<|br Ycr<|it (jk 4<|cx (fz 1 1 0++fz 2 1 1024++fz 3 1 2048) 7 Z4w)<|jk 1<|js Z8 x2<|jk 3<|cx (fz 1 1 0++fz 2 1 1024++fz 3 1 2048) 7 Z4w
abbrev qW (x0:Za) (r:Int×Int×Za):Y:=(251,[.agg (Za.ow x0)],.AW [il r.1,il r.2.1],[.agg (Za.ow r.2.2)])
theorem Yi0 {x0 r}:∀{m v0 v1 v2},aV x0 m v0 v1 v2=some r->CS (qW x0 r) Tryz.f251 [1,1,1,1,0,1,0] [(0,.ptr (0,63) 0 0),(4,sq 9 (v0.map Z8).length),(73,sq 9 (v0.map Z8).length),(74,il v1),(75,il v2)] (Za.bk x0 1++[((0,63),⟨true,true,true,0,[(Za.rl x0 1)]⟩),rx 9 4 (v0.map Z8)]):=by
 intro m
 induction m with
 | zero=>intro v0 v1 v2 h;cases h
 | succ m ih=>exactλ{v0} {v1} {v2}=>st<|it (bd Z8<|it (jn Z8 v0<|jn Z8 v0<|jw (Za.sc x0)<|cx (Ay 1 9) 18 ih)<|bn λCz=>jw (xd Zj.enc Cz)<|bd Ze.enc<|br Yno<|it (bn λK4=>jw (xp Zj.enc Cz K4)<|jk 8<|je Ze.enc x0.Ae.Ab<|je Zg.enc x0.m<|jo (J0 Zj.enc K4)<|je Zc x0.splits<|jw (Zf.so x0.model)<|je Zt.enc x0.log<|rt)<|jn Z8 v0<|jn Z8 v0<|jw (Za.sc x0)<|cx (Ay 1 9) 23 ih)<|it (jk 8<|jw (Za.so x0)<|rt)<|jk 2<|je Ze.enc x0.Ae.Ab<|je Z8 v0<|br Yyf<|jk 8<|jw (Za.so x0)<|rt
theorem Z1u {x0 r} {v0 v3}:o7 x0 v0 v3=some r->CS (qW x0 r) Tryz.f251 [1,1,1,0,1] [(0,.ptr (0,63) 0 0),(4,sq 9 (v0.map Z8).length),(68,bl v3)] (Za.bk x0 1++[((0,63),⟨true,true,true,0,[(Za.rl x0 1)]⟩),rx 9 4 (v0.map Z8)]):=
 st<|it (jk 8<|jw (Za.so x0)<|rt)<|js Z8 v0<|jn Z8 v0<|jn Z8 v0<|jw (Za.sc x0)<|cx (Ay 1 9) 6 Yi0
end Go.Proofs.YthdljdelfgofdaaGreatDoor.Ev
