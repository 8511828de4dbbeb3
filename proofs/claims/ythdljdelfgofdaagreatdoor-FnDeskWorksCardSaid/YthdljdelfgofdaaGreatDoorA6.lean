/- A part of the proof of FnDeskWorks: see the text YthdljdelfgofdaaGreatDoorLawFnDeskWorks for what is proved and its conditions. Conditions here: those in each line. -/
import Derived.Test.YthdljdelfgofdaaGreatDoorA5
set_option linter.unusedSimpArgs false
set_option linter.unusedVariables false
set_option linter.unusedSectionVars false
namespace Go.Proofs.YthdljdelfgofdaaGreatDoor.Ev
open Go Go.Proofs
variable [Anchor] [BF]
abbrev Yhl (x0:List ByteArray) (r:List Int×Bool):Y:=(29,[.tr (x0.map Zv)],.AZ [.own 3 (r.1.map Zd),bl r.2],un 1)
theorem Yjo {x0 r}:∀{m v0 v1},O5 x0 m v0 v1=some r->CS (Yhl x0 r) Tryz.f29 [1,1,0,1,0] [(4,sq 1 (v0.map Zd).length),(10,.tr (x0.map Zv)),(11,il (x0.length:Int)),(12,il v1)] [rx 1 3 (v0.map Zd)]:=by
 intro m
 induction m with
 | zero=>intro v0 v1 h;cases h
 | succ m ih=>exactλ{v0} {v1}=>st<|it (bb Zv<|br Yj7 λ{r0}=>it rt<|bn λ{z0} Xr=>jt Zd [r0.1] z0<|jk 1<|ja 1 FM r0.1<|jx Zd Xr<|jn Zd z0<|je Zd z0<|cx (fz 1 6 3072) 20 ih)<|jk 1<|je Zd v0<|rt
theorem cY {x0 r}  : L0 x0=some r->Zq Tryz.prog Mo (Yhl x0 r):=
 fK Tryz.func29<|js Zv x0<|jp (.num ([].map Zd).length 0 0 [])<|jo (show 0=([].map Zd).length from rfl)<|cx (fz 1 2 0) 8 Yjo
abbrev Y30 (x0:Int) (x1:Int) (x2:Int) (r:Bool):Y:=(180,[il x0,il x1,il x2],bl r,un 3)
theorem Xd {x0 x1 x2 r}  : Yn x0 x1 x2=some r->Zq Tryz.prog Mo (Y30 x0 x1 x2 r):=
 fK Tryz.func180<|it (jk 3<|rt)<|jk 3<|rt
abbrev Ylq (x0:Zi) (r:Int):Y:=(235,[.agg (Zi.enc x0)],il r,un 1)
theorem Z7w {x0 r} {v0}:Zw6 x0 v0=some r->CS (Ylq x0 r) Tryz.f235 [1,0,1] [(1,pt 1),(12,bl v0)] [bx 1 (Zi.enc x0)]:=
 st<|it rt<|rt
theorem Yl3 {x0 r}  : aT x0=some r->Zq Tryz.prog Mo (Ylq x0 r):=
 fK Tryz.func235<|br Xd<|it (jk 4<|cx (fz 1 1 0) 5 Z7w)<|jk 2<|br Xd<|jk 2<|cx (fz 1 1 0) 5 Z7w
abbrev Y3c (x0:Zi) (r:Int):Y:=(197,[.agg (Zi.enc x0)],il r,un 1)
theorem Yjr {x0 r}  : aU x0=some r->Zq Tryz.prog Mo (Y3c x0 r):=
 fK Tryz.func197<|br Yl3<|it (jk 5<|rt)<|jk 2<|br Xd<|jk 2<|it rt<|br Yl3<|rt
abbrev Ype (x0:Zi) (r:Int):Y:=(237,[.agg (Zi.enc x0)],il r,un 1)
theorem Yre {x0 r}:∀{m v0 v1},nP x0 m v0 v1=some r->CS (Ype x0 r) Tryz.f237 [1,1,0,1,0] [(3,il v0),(7,.tr (x0.Ab.map Ze.enc)),(8,il (x0.Ab.length:Int)),(9,il v1)] []:=by
 intro m
 induction m with
 | zero=>intro v0 v1 h;cases h
 | succ m ih=>exact st<|it (bb Ze.enc<|it (cx [] 16 ih)<|cx [] 16 ih)<|rt
theorem Y62 {x0 r}  : nQ x0=some r->Zq Tryz.prog Mo (Ype x0 r):=
 fK Tryz.func237<|js Ze.enc x0.Ab<|cx [] 8 Yre
abbrev Yom (x0:Zi) (r:Int):Y:=(200,[.agg (Zi.enc x0)],il r,un 1)
theorem Yod {x0 r}  : nR x0=some r->Zq Tryz.prog Mo (Yom x0 r):=
 fK Tryz.func200<|br Yjr<|br Y62<|rt
abbrev Yul (x0:Ze) (x1:Zi) (r:Bool):Y:=(199,[.agg (Ze.enc x0),.rp true (Zi.enc x1) 0],bl r,un 2)
theorem Yv5 {x0 x1 r}  : nS x0 x1=some r->Zq Tryz.prog Mo (Yul x0 x1 r):=
 fK Tryz.func199<|br Xd<|it rt<|it (br Yod<|br Xd<|it (jk 4<|rt)<|jk 2<|br Xd<|jk 2<|rt)<|it (jk 3<|rt)<|jk 3<|rt
abbrev Zb9 (x0:List Ze) (Bf:Zi) (r:Int):Y:=(236,[.tr (x0.map Ze.enc),.fn 199 [.rp true (Zi.enc Bf) 0]],il r,un 2)
theorem Zhw {x0 Bf r}:∀{m v0},Y6 x0 Bf m v0=some r->CS (Zb9 x0 Bf r) Tryz.f236 [1,0,1,0] [(0,.tr (x0.map Ze.enc)),(1,.fn 199 [.rp true (Zi.enc Bf) 0]),(7,il (x0.length:Int)),(8,il v0)] []:=by
 intro m
 induction m with
 | zero=>intro v0 h;cases h
 | succ m ih=>exact st<|it (bb Ze.enc<|br Yv5<|it rt<|cx [] 16 ih)<|rt
theorem Zk7 {x0 Bf r}  : Kt x0 Bf=some r->Zq Tryz.prog Mo (Zb9 x0 Bf r):=
 fK Tryz.func236<|js Ze.enc x0<|cx [] 6 Zhw
abbrev Zji (x0:List Ze) (Bf:Zi) (r:Bool):Y:=(198,[.tr (x0.map Ze.enc),.fn 199 [.rp true (Zi.enc Bf) 0]],bl r,un 2)
theorem Zjg {x0 Bf r}  : Wo x0 Bf=some r->Zq Tryz.prog Mo (Zji x0 Bf r):=
 fK Tryz.func198<|br Zk7<|rt
abbrev Y1m (x0:Zi) (r:Bool):Y:=(156,[.agg (Zi.enc x0)],bl r,un 1)
theorem U0 {x0 r}  : L1 x0=some r->Zq Tryz.prog Mo (Y1m x0 r):=
 fK Tryz.func156<|js Ze.enc x0.Ab<|br Xd<|it (jk 14<|rt)<|jk 2<|br Xd<|jk 2<|it (jk 9<|rt)<|jk 2<|br Xd<|jk 2<|it (jk 4<|rt)<|jk 1<|br Yjr<|jk 2<|it rt<|br Zjg<|rt
abbrev Xbq (x0:Int) (r:ByteArray):Y:=(76,[il x0],ss r,un 1)
theorem Hx {x0 r}  : FO x0=some r->Zq Tryz.prog Mo (Xbq x0 r):=
 fK Tryz.func76<|br Yn8<|rt
abbrev Ysb (x0:List Int) (r:List ByteArray):Y:=(125,[.tr (x0.map Zd)],.own 9 (r.map Zv),un 1)
theorem Ytn {x0 r}:∀{m v0 v1},nV x0 m v0 v1=some r->CS (Ysb x0 r) Tryz.f125 [1,1,0,1,0] [(3,sq 1 (v0.map Zv).length),(7,.tr (x0.map Zd)),(8,il (x0.length:Int)),(9,il v1)] [rx 1 9 (v0.map Zv)]:=by
 intro m
 induction m with
 | zero=>intro v0 v1 h;cases h
 | succ m ih=>exactλ{v0} {v1}=>st<|it (bb Zd<|br Hx λ{r0}=>bn λ{z0} Xr=>jt Zv [r0] z0<|jk 1<|ja 1 FN r0<|jx Zv Xr<|jn Zv z0<|je Zv z0<|cx (fz 1 4 4096) 13 ih)<|jk 1<|je Zv v0<|rt
theorem cZ {x0 r}  : L2 x0=some r->Zq Tryz.prog Mo (Ysb x0 r):=
 fK Tryz.func125<|js Zd x0<|jp (.num ([].map Zv).length 0 0 [])<|jo (show 0=([].map Zv).length from rfl)<|cx (fz 1 2 0) 8 Ytn
abbrev Ybj (x0:Zi) (r:ByteArray):Y:=(104,[.agg (Zi.enc x0)],ss r,un 1)
theorem Yio {x0 r}:∀{m v0 v1},nY x0 m v0 v1=some r->CS (Ybj x0 r) Tryz.f104 [1,1,1,0,1,0] [(3,sq 1 (v0.map Zv).length),(23,.tr (x0.Ab.map Ze.enc)),(24,il (x0.Ab.length:Int)),(25,il v1)] [rx 1 9 (v0.map Zv)]:=by
 intro m
 induction m with
 | zero=>intro v0 v1 h;cases h
 | succ m ih=>exactλ{v0} {v1}=>st<|it (bb Ze.enc λ{a0}=>br Hx λ{r0}=>it (jk 1<|jo (show 3=([a0.weight,a0.every,a0.cap].map Zd).length from rfl)<|br cZ λ{r1}=>jk 1<|je Zv r1<|br OD λ{r2}=>bn λ{z0} Xr=>jt Zv [r2] z0<|jk 1<|ja 1 FN r2<|jx Zv Xr<|jn Zv z0<|je Zv z0<|cx (fz 1 7 3072) 20 ih)<|bn λ{z0} Xr=>jt Zv [r0] z0<|jk 1<|ja 1 FN r0<|jx Zv Xr<|jn Zv z0<|je Zv z0<|cx (fz 1 6 3072) 20 ih)<|jk 1<|je Zv v0<|br OD<|rt
theorem Z22 {x0 r}  : RA x0=some r->Zq Tryz.prog Mo (Ybj x0 r):=
 fK Tryz.func104<|br U0<|it rt<|jk 1<|jo (show 5=([x0.Aw,x0.Au,x0.Ao,x0.Ar,x0.Am].map Zd).length from rfl)<|br cZ λ{r5}=>js Ze.enc x0.Ab<|jn Zv r5<|cx (fz 1 3 11264) 13 Yio
abbrev RY (x0:ByteArray) (r:Zi×Bool):Y:=(102,[ss x0],.AZ [.agg [.own 83 (r.1.Ab.map Ze.enc),il r.1.Aw,il r.1.Au,il r.1.Ao,il r.1.Ar,il r.1.Am],bl r.2],un 1)
theorem Z3n {x0 r} {AN:Zi->(List ByteArray)->Int->Int->Option (Zi×Bool)} (B4:∀{Ae v1 v2 v3},AN Ae v1 v2 v3=some r->CS (RY x0 r) Tryz.f102 [1,1,1,1,1,1,0,1,0] [(0,ss x0),(2,pt 1),(7,pt 3),(49,.tr (v1.map Zv)),(50,il v2),(51,il v3)] [rx 2 83 ([].map Ze.enc),bx 1 [sq 2 ([].map Ze.enc).length,il 0,il 0,il 0,il 0,il 0],rx 4 83 (Ae.Ab.map Ze.enc),bx 3 [sq 4 (Ae.Ab.map Ze.enc).length,il Ae.Aw,il Ae.Au,il Ae.Ao,il Ae.Ar,il Ae.Am]]) {Ae v0 v1 v2 v3 v4}:RB x0 AN Ae v0 v1 v2 v3 v4=some r->CS (RY x0 r) Tryz.f102 [1,1,1,1,1,1,0,1,0,0,1,1,0,0,1,1,0,1,1,1] [(0,ss x0),(2,pt 1),(7,pt 3),(10,sq 5 (v0.map Zd).length),(49,.tr (v1.map Zv)),(50,il v2),(51,il v3),(78,bl v4)] [rx 2 83 ([].map Ze.enc),bx 1 [sq 2 ([].map Ze.enc).length,il 0,il 0,il 0,il 0,il 0],rx 4 83 (Ae.Ab.map Ze.enc),bx 3 [sq 4 (Ae.Ab.map Ze.enc).length,il Ae.Aw,il Ae.Au,il Ae.Ao,il Ae.Ar,il Ae.Am],rx 5 3 (v0.map Zd)]:=
 st<|it (bd Zd λ{a0}=>bd Zd λ{a1}=>bd Zd λ{a2}=>bn λ{z0} Xr=>jt Ze.enc [(Ze.mk a0 true a1 a2)] z0<|jk 1<|ja 4 Ze.AE (Ze.mk a0 true a1 a2)<|jx Ze.enc Xr<|je Ze.enc z0<|jn Ze.enc []<|jn Ze.enc z0<|cx (Az 1 3++fz 4 2 13312) 5 B4)<|rt
theorem Z2e {x0 r} {AN:Zi->(List ByteArray)->Int->Int->Option (Zi×Bool)} (B4:∀{Ae v1 v2 v3},AN Ae v1 v2 v3=some r->CS (RY x0 r) Tryz.f102 [1,1,1,1,1,1,0,1,0] [(0,ss x0),(2,pt 1),(7,pt 3),(49,.tr (v1.map Zv)),(50,il v2),(51,il v3)] [rx 2 83 ([].map Ze.enc),bx 1 [sq 2 ([].map Ze.enc).length,il 0,il 0,il 0,il 0,il 0],rx 4 83 (Ae.Ab.map Ze.enc),bx 3 [sq 4 (Ae.Ab.map Ze.enc).length,il Ae.Aw,il Ae.Au,il Ae.Ao,il Ae.Ar,il Ae.Am]]) {Ae v0 v5 v1 v2 v3 v6}:RC x0 AN Ae v0 v5 v1 v2 v3 v6=some r->CS (RY x0 r) Tryz.f102 [1,1,1,1,1,1,0,1,0,0,1,1,0,0,1,1,0,1] [(0,ss x0),(2,pt 1),(7,pt 3),(10,sq 5 (v0.map Zd).length),(11,bl v5),(49,.tr (v1.map Zv)),(50,il v2),(51,il v3),(62,bl v6)] [rx 2 83 ([].map Ze.enc),bx 1 [sq 2 ([].map Ze.enc).length,il 0,il 0,il 0,il 0,il 0],rx 4 83 (Ae.Ab.map Ze.enc),bx 3 [sq 4 (Ae.Ab.map Ze.enc).length,il Ae.Aw,il Ae.Au,il Ae.Ao,il Ae.Ar,il Ae.Am],rx 5 3 (v0.map Zd)]:=
 st<|it (bd Zd λ{a3}=>bn λ{z1} EO=>jt Ze.enc [(Ze.mk a3 false 0 0)] z1<|jk 1<|ja 4 Ze.AE (Ze.mk a3 false 0 0)<|jx Ze.enc EO<|je Ze.enc z1<|jn Ze.enc []<|jn Ze.enc z1<|cx (Az 1 3++fz 4 2 7168) 5 B4)<|it (jk 1<|js Zd v0<|jk 2<|jn Zd v0<|jn Ze.enc []<|jn Ze.enc Ae.Ab<|cx (Az 1 5) 3 (Z3n B4))<|jk 3<|jn Zd v0<|jn Ze.enc []<|jn Ze.enc Ae.Ab<|cx (Az 1 5) 3 (Z3n B4)
theorem Yir {x0 r}:∀{m Ae v1 v2 v3},Qt x0 m Ae v1 v2 v3=some r->CS (RY x0 r) Tryz.f102 [1,1,1,1,1,1,0,1,0] [(0,ss x0),(2,pt 1),(7,pt 3),(49,.tr (v1.map Zv)),(50,il v2),(51,il v3)] [rx 2 83 ([].map Ze.enc),bx 1 [sq 2 ([].map Ze.enc).length,il 0,il 0,il 0,il 0,il 0],rx 4 83 (Ae.Ab.map Ze.enc),bx 3 [sq 4 (Ae.Ab.map Ze.enc).length,il Ae.Aw,il Ae.Au,il Ae.Ao,il Ae.Ar,il Ae.Am]]:=by
 intro m
 induction m with
 | zero=>intro Ae v1 v2 v3 h;cases h
 | succ m ih=>exactλ{Ae} {v1} {v2} {v3}=>st<|it (bb Zv<|br Ut<|br cY λ{r1}=>it (jk 1<|js Zd r1.1<|jk 2<|jn Zd r1.1<|jn Ze.enc []<|jn Ze.enc Ae.Ab<|cx (Az 1 4++fz 5 4 2048) 15 (Z2e ih))<|jk 3<|jn Zd r1.1<|jn Ze.enc []<|jn Ze.enc Ae.Ab<|cx (Az 1 4++fz 5 4 2048) 15 (Z2e ih))<|jk 1<|je Ze.enc Ae.Ab<|br U0<|it (jk 5<|rt)<|jk 2<|je Ze.enc Ae.Ab<|br Z22<|jk 3<|it rt<|jk 1<|je Ze.enc Ae.Ab<|rt
theorem Z2k {x0 r} {v7 v8}:TX x0 v7 v8=some r->CS (RY x0 r) Tryz.f102 [1,1,0,1] [(0,ss x0),(2,pt 1),(4,.tr (v7.map Zv)),(21,bl v8)] [rx 2 83 ([].map Ze.enc),bx 1 [sq 2 ([].map Ze.enc).length,il 0,il 0,il 0,il 0,il 0]]:=
 st<|it rt<|bn λ{s0} BT=>jp (.num (0:Int).toNat (5:Int).toNat 0 (s0.map Zv))<|jo (Eq.refl 0)<|jo (Gl BT).2<|jo (Gm Zv BT)<|jo (D3 1 FN v7)<|jo (Hv Zv BT)<|br cY<|it rt<|bd Zd<|bd Zd<|bd Zd<|bd Zd<|bd Zd<|bn λ{s1} C5=>jp (.num (5:Int).toNat ((v7.length:Int):Int).toNat 0 (s1.map Zv))<|jo (Gl C5).1<|jo (JE Zv v7)<|jo (Gm Zv C5)<|jo (D3 1 FN v7)<|jo (Hv Zv C5)<|js Zv s1<|jn Ze.enc []<|cx (Az 1 2++fz 3 4 16384) 15 Yir
theorem Ydq {x0 r}  : L3 x0=some r->Zq Tryz.prog Mo (RY x0 r):=
 fK Tryz.func102<|br Ut λ{r5}=>js Zv r5<|it (jk 3<|cx (fz 1 1 0) 7 Z2k)<|jk 1<|js Zv r5<|jk 2<|cx (fz 1 1 0) 7 Z2k
abbrev Yrh  (r:List ByteArray):Y:=(68,[],.own 9 (r.map Zv),[])
theorem Ya6 {r}  : TY  = some r->Zq Tryz.prog Mo (Yrh  r):=
 fK Tryz.func68<|jk 1<|jo (show 3=([(Zc [98,121,116,101]),(Zc [104,97,108,102]),(Zc [119,111,114,100])].map Zv).length from rfl)<|rt
abbrev Zki (x0:List ByteArray) (x1:ByteArray) (r:Int):Y:=(67,[.tr (x0.map Zv),ss x1],il r,un 2)
theorem Ztz {x0 x1 r}:∀{m v0},Ws x0 x1 m v0=some r->CS (Zki x0 x1 r) Tryz.f67 [1,0,1,0] [(0,.tr (x0.map Zv)),(1,ss x1),(7,il (x0.length:Int)),(8,il v0)] []:=by
 intro m
 induction m with
 | zero=>intro v0 h;cases h
 | succ m ih=>exact st<|it (bb Zv<|it rt<|cx [] 16 ih)<|rt
theorem Zkt {x0 x1 r}  : X3 x0 x1=some r->Zq Tryz.prog Mo (Zki x0 x1 r):=
 fK Tryz.func67<|js Zv x0<|cx [] 6 Ztz
abbrev Yni  (r:List ByteArray):Y:=(69,[],.own 9 (r.map Zv),[])
theorem Z70 {r}  : TZ  = some r->Zq Tryz.prog Mo (Yni  r):=
 fK Tryz.func69<|jk 1<|jo (show 4=([(Zc [111,110,101]),(Zc [102,111,117,114]),(Zc [119,114,97,112]),(Zc [101,105,103,104,116])].map Zv).length from rfl)<|rt
abbrev Yzk (x0:Int) (r:Int):Y:=(119,[il x0],il r,un 1)
theorem rL {x0 r}  : RD x0=some r->Zq Tryz.prog Mo (Yzk x0 r):=
 fK Tryz.func119<|br Xd<|it rt<|bd Zd<|rt
abbrev Yxd (x0:Int) (r:Int):Y:=(230,[il x0],il r,un 1)
theorem OH {x0 r}  : JG x0=some r->Zq Tryz.prog Mo (Yxd x0 r):=
 fK Tryz.func230<|br Xd<|it rt<|jl<|bo T5<|rt
abbrev Yy9 (x0:Int) (x1:Int) (r:Bool):Y:=(265,[il x0,il x1],bl r,un 2)
theorem rM {x0 x1 r}  : RE x0 x1=some r->Zq Tryz.prog Mo (Yy9 x0 x1 r):=
 fK Tryz.func265<|br Xd<|it (jk 2<|it (jk 2<|br OH<|jk 1<|jl<|jk 2<|bo Lt<|rt)<|jk 5<|rt)<|jk 8<|rt
abbrev Yd1 (x0:Int) (x1:Int) (x2:Int) (r:Int):Y:=(229,[il x0,il x1,il x2],il r,un 3)
theorem Ztr {x0 x1 x2 r} {v0}:aV x0 x1 x2 v0=some r->CS (Yd1 x0 x1 x2 r) Tryz.f229 [1,0,1] [(0,il x0),(1,il x1),(2,il x2),(21,bl v0)] []:=
 st<|it rt<|br OH<|br OH<|it (jk 2<|jl<|jk 2<|bo Lt<|it rt<|rt)<|jk 5<|rt
theorem Yuu {x0 x1 x2 r}  : nZ x0 x1 x2=some r->Zq Tryz.prog Mo (Yd1 x0 x1 x2 r):=
 fK Tryz.func229<|br rM<|it (jk 6<|cx [] 5 Ztr)<|jk 2<|it (jk 3<|cx [] 5 Ztr)<|jk 1<|br rL<|jk 2<|cx [] 5 Ztr
abbrev Z7b (x0:Int) (x1:Int) (x2:Int) (r:List Int):Y:=(181,[il x0,il x1,il x2],.own 3 (r.map Zd),un 3)
theorem Yd5 {x0 x1 x2 r}:∀{m v0 v1 v2 v3},oA x0 x1 x2 m v0 v1 v2 v3=some r->CS (Z7b x0 x1 x2 r) Tryz.f181 [1,1,0,1,0] [(0,il v0),(1,il x1),(2,il x2),(7,sq 1 (v1.map Zd).length),(11,il v2),(12,il v3)] [rx 1 3 (v1.map Zd)]:=by
 intro m
 induction m with
 | zero=>intro v0 v1 v2 v3 h;cases h
 | succ m ih=>exactλ{v0} {v1} {v2} {v3}=>st<|it (br Yuu<|it rt<|bn λ{z0} Xr=>jt Zd [v0] z0<|jk 1<|ja 1 FM v0<|jx Zd Xr<|jn Zd z0<|je Zd z0<|cx (fz 1 5 3072) 20 ih)<|jk 1<|je Zd v1<|rt
theorem Z7m {x0 x1 x2 r}  : aX x0 x1 x2=some r->Zq Tryz.prog Mo (Z7b x0 x1 x2 r):=
 fK Tryz.func181<|br rL<|jp (.num ([].map Zd).length 0 0 [])<|jo (show 0=([].map Zd).length from rfl)<|cx (fz 1 2 0) 8 Yd5
abbrev Yf4 (x0:Int) (x1:Int) (x2:Int) (r:Bool):Y:=(120,[il x0,il x1,il x2],bl r,un 3)
theorem Yj6 {x0 x1 x2 r}:∀{m v0 v1 v2},oC x0 x1 x2 m v0 v1 v2=some r->CS (Yf4 x0 x1 x2 r) Tryz.f120 [1,1,0,1,0] [(7,sq 1 (v0.map Zd).length),(14,sq 1 (v0.map Zd).length),(15,il v1),(16,il v2)] [rx 1 3 (v0.map Zd)]:=by
 intro m
 induction m with
 | zero=>intro v0 v1 v2 h;cases h
 | succ m ih=>exactλ{v0} {v1} {v2}=>st<|it (bd Zd<|jk 1<|bd Zd<|jk 1<|it rt<|jn Zd v0<|jn Zd v0<|cx (Az 1 1) 16 ih)<|js Zd v0<|rt
theorem Yxa {x0 x1 x2 r}  : oD x0 x1 x2=some r->Zq Tryz.prog Mo (Yf4 x0 x1 x2 r):=
 fK Tryz.func120<|br Z7m λ{r0}=>js Zd r0<|jn Zd r0<|jn Zd r0<|cx (fz 1 2 3072) 8 Yj6
abbrev Yw9 (x0:Int) (r:Int):Y:=(183,[il x0],il r,un 1)
theorem Yg5 {x0 r}  : aY x0=some r->Zq Tryz.prog Mo (Yw9 x0 r):=
 fK Tryz.func183<|br OH<|it rt<|br OH<|jl<|bo T5<|rt
abbrev Y45 (x0:Int) (x1:Int) (r:Bool):Y:=(123,[il x0,il x1],bl r,un 2)
theorem RZ {x0 x1 r}  : L4 x0 x1=some r->Zq Tryz.prog Mo (Y45 x0 x1 r):=
 fK Tryz.func123<|br Yg5<|br Xd<|rt
abbrev Yzg (x0:Int) (x1:Zj) (r:Bool):Y:=(122,[il x0,.rp true (Zj.enc x1) 0],bl r,un 2)
theorem Yzu {x0 x1 r}  : oF x0 x1=some r->Zq Tryz.prog Mo (Yzg x0 x1 r):=
 fK Tryz.func122<|br RZ<|rt
abbrev Zef (x0:List Int) (Bf:Zj) (r:Int):Y:=(182,[.tr (x0.map Zd),.fn 122 [.rp true (Zj.enc Bf) 0]],il r,un 2)
theorem Zld {x0 Bf r}:∀{m v0},K2 x0 Bf m v0=some r->CS (Zef x0 Bf r) Tryz.f182 [1,0,1,0] [(0,.tr (x0.map Zd)),(1,.fn 122 [.rp true (Zj.enc Bf) 0]),(7,il (x0.length:Int)),(8,il v0)] []:=by
 intro m
 induction m with
 | zero=>intro v0 h;cases h
 | succ m ih=>exact st<|it (bb Zd<|br Yzu<|it rt<|cx [] 16 ih)<|rt
theorem Zpi {x0 Bf r}  : J6 x0 Bf=some r->Zq Tryz.prog Mo (Zef x0 Bf r):=
 fK Tryz.func182<|js Zd x0<|cx [] 6 Zld
abbrev Zmw (x0:List Int) (Bf:Zj) (r:Bool):Y:=(121,[.tr (x0.map Zd),.fn 122 [.rp true (Zj.enc Bf) 0]],bl r,un 2)
theorem Zmj {x0 Bf r}  : Qd x0 Bf=some r->Zq Tryz.prog Mo (Zmw x0 Bf r):=
 fK Tryz.func121<|br Zpi<|rt
abbrev Yo5 (x0:Zj) (r:Bool):Y:=(70,[.agg (Zj.enc x0)],bl r,un 1)
theorem Yau {x0 r} {v0}:oG x0 v0=some r->CS (Yo5 x0 r) Tryz.f70 [1,1,1] [(1,pt 1),(3,il v0)] [bx 1 (Zj.enc x0)]:=
 st<|br Yxa<|it (jk 2<|js Zd x0.Aa<|jk 3<|it (jk 3<|br Zmj<|jk 2<|rt)<|jk 5<|rt)<|jk 11<|rt
theorem rN {x0 r}  : O6 x0=some r->Zq Tryz.prog Mo (Yo5 x0 r):=
 fK Tryz.func70<|it (br rL<|cx (fz 1 1 0) 9 Yau)<|cx (fz 1 1 0) 9 Yau
abbrev Yq3 (x0:Bool) (r:ByteArray):Y:=(124,[bl x0],ss r,un 1)
theorem Yar {x0 r}  : RG x0=some r->Zq Tryz.prog Mo (Yq3 x0 r):=
 fK Tryz.func124<|it rt<|rt
abbrev Yyu (x0:Zj) (r:ByteArray):Y:=(71,[.agg (Zj.enc x0)],ss r,un 1)
theorem Yg4 {x0 r}  : Ua x0=some r->Zq Tryz.prog Mo (Yyu x0 r):=
 fK Tryz.func71<|br rN<|it rt<|br Yar λ{r1}=>br Ya6<|bd Zv λ{a0}=>br Z70<|bd Zv λ{a1}=>br Hx λ{r4}=>it (bn λ{z0} Xr=>jt Zv [(Zc [108,111,99,107])] z0<|jk 1<|ja 1 FN (Zc [108,111,99,107])<|jo (show 4=([r1,a0,a1,r4].map Zv).length from rfl)<|jo (FL Zv Xr)<|jo (Hu Zv Xr)<|je Zv z0<|br cZ λ{r5}=>bn λ{z1} EO=>jt Zv r5 z1<|jk 2<|je Zv r5<|jo (Eq.refl (r5.map Zv))<|jo (D3 1 FN r5)<|jx Zv EO<|je Zv z1<|je Zv z1<|br OD<|rt)<|br cZ λ{r5}=>bn λ{z1} EO=>jt Zv r5 z1<|jk 2<|je Zv r5<|jo (Eq.refl (r5.map Zv))<|jo (D3 1 FN r5)<|jo (show 4=([r1,a0,a1,r4].map Zv).length from rfl)<|jo (FL Zv EO)<|jo (Hu Zv EO)<|je Zv z1<|je Zv z1<|br OD<|rt
abbrev Z6d (x0:ByteArray) (r:Zj×Bool):Y:=(30,[ss x0],.AZ [.agg [bl r.1.write,il r.1.addr,il r.1.size,il r.1.Ay,bl r.1.lock,.own 3 (r.1.Aa.map Zd)],bl r.2],un 1)
theorem Z38 {x0 r} {Ae v0 v1}:RH x0 Ae v0 v1=some r->CS (Z6d x0 r) Tryz.f30 [1,1,1,1,1] [(0,ss x0),(2,pt 1),(4,.tr (v0.map Zv)),(5,pt 3),(6,.tr (v1.map Zv))] [rx 2 3 ([].map Zd),bx 1 [bl false,il 0,il 0,il 0,bl false,sq 2 ([].map Zd).length],rx 4 3 (Ae.Aa.map Zd),bx 3 [bl Ae.write,il Ae.addr,il Ae.size,il Ae.Ay,bl Ae.lock,sq 4 (Ae.Aa.map Zd).length]]:=
 st<|bb Zv<|br Yj7<|br cY λ{r1}=>it (jk 12<|rt)<|jk 2<|it (jk 9<|rt)<|jk 2<|je Zd r1.1<|br rN<|jk 2<|it (jk 5<|rt)<|jk 2<|je Zd r1.1<|br Yg4<|jk 3<|it rt<|jk 1<|je Zd r1.1<|rt
theorem Z5l {x0 r} {Ae v0 v1 v2}:O7 x0 Ae v0 v1 v2=some r->CS (Z6d x0 r) Tryz.f30 [1,1,1,1,0,1] [(0,ss x0),(2,pt 1),(4,.tr (v0.map Zv)),(5,pt 3),(6,.tr (v1.map Zv)),(42,bl v2)] [rx 2 3 ([].map Zd),bx 1 [bl false,il 0,il 0,il 0,bl false,sq 2 ([].map Zd).length],rx 4 3 (Ae.Aa.map Zd),bx 3 [bl Ae.write,il Ae.addr,il Ae.size,il Ae.Ay,bl Ae.lock,sq 4 (Ae.Aa.map Zd).length]]:=
 st<|it (bn λ{s0} BT=>jp (.num (1:Int).toNat ((v1.length:Int):Int).toNat 0 (s0.map Zv))<|jo (Gl BT).1<|jo (JE Zv v1)<|jo (Gm Zv BT)<|jo (D3 1 FN v1)<|jo (Hv Zv BT)<|jn Zd []<|jn Zd Ae.Aa<|cx (Az 1 4) 2 Z38)<|jn Zd []<|jn Zd Ae.Aa<|cx (Az 1 4) 2 Z38
theorem Yzs {x0 r}  : Ub x0=some r->Zq Tryz.prog Mo (Z6d x0 r):=
 fK Tryz.func30<|br Ut λ{r4}=>js Zv r4<|it rt<|bb Zv<|br Ya6 λ{r5}=>bb Zv<|jk 1<|je Zv r5<|br Zkt<|br Z70 λ{r7}=>bb Zv<|jk 1<|je Zv r7<|br Zkt<|bn λ{s1} C5=>jp (.num (4:Int).toNat ((r4.length:Int):Int).toNat 0 (s1.map Zv))<|jo (Gl C5).1<|jo (JE Zv r4)<|jo (Gm Zv C5)<|jo (D3 1 FN r4)<|jo (Hv Zv C5)<|js Zv s1<|it (jk 1<|bb Zv<|jk 3<|cx (fz 1 1 0++fz 3 4 17408) 14 Z5l)<|jk 4<|cx (fz 1 1 0++fz 3 4 17408) 14 Z5l
abbrev Yu3 (x0:ByteArray) (x1:List Int) (r:ByteArray):Y:=(75,[ss x0,.tr (x1.map Zd)],ss r,un 2)
theorem Yd6 {x0 x1 r}  : aZ x0 x1=some r->Zq Tryz.prog Mo (Yu3 x0 x1 r):=
 fK Tryz.func75<|js Zd x1<|it rt<|jl<|bo Xx<|br cZ λ{r0}=>jk 1<|je Zv r0<|br OD<|jl<|jl<|bo Xx<|bo Xx<|rt
abbrev Z63 (x0:Zb) (r:ByteArray):Y:=(32,[.agg (Zb.enc x0)],ss r,un 1)
theorem Ycd {x0 r}:∀{m v0 v1},bA x0 m v0 v1=some r->CS (Z63 x0 r) Tryz.f32 [1,1,0,1,0] [(3,ss v0),(15,.tr (x0.Al.map Zo.enc)),(16,il (x0.Al.length:Int)),(17,il v1)] []:=by
 intro m
 induction m with
 | zero=>intro v0 v1 h;cases h
 | succ m ih=>exact st<|it (bb Zo.enc<|br Yg4<|it rt<|br Hx<|jl<|jl<|bo Xx<|bo Xx<|br Hx<|jl<|jl<|jl<|jl<|jl<|bo Xx<|bo Xx<|bo Xx<|bo Xx<|bo Xx<|cx [] 20 ih)<|rt
theorem Yoh {x0 r}  : oH x0=some r->Zq Tryz.prog Mo (Z63 x0 r):=
 fK Tryz.func32<|br Yd6<|br Yd6<|jl<|bo Xx<|js Zo.enc x0.Al<|cx [] 8 Ycd
abbrev OI (x0:ByteArray) (r:Zb×Bool):Y:=(8,[ss x0],.AZ [.agg (Zb.ow r.1),bl r.2],un 1)
theorem Zy9 {x0 r} {AN:Zb->(List ByteArray)->Int->Int->Option (Zb×Bool)} (B4:∀{Ae v1 v2 v3},AN Ae v1 v2 v3=some r->CS (OI x0 r) Tryz.f8 [1,1,0,1,0] [(0,ss x0),(2,pt 1),(4,pt 5),(17,.tr (v1.map Zv)),(18,il v2),(19,il v3)] (Zb.bk Zb.z0 2++[bx 1 (Zb.rl Zb.z0 2)]++Zb.bk Ae 6++[bx 5 (Zb.rl Ae 6)])) {Ae A1 v0 v1 v2 v3 v4}:bB x0 AN Ae A1 v0 v1 v2 v3 v4=some r->CS (OI x0 r) Tryz.f8 [1,1,0,1,0,0,1,1,0,0,1,1,0,1,0,1,1,0,1] [(0,ss x0),(2,pt 1),(4,pt 5),(8,sq 11 (v0.map Zd).length),(10,pt 9),(17,.tr (v1.map Zv)),(18,il v2),(19,il v3),(53,bl v4)] (Zb.bk Zb.z0 2++[bx 1 (Zb.rl Zb.z0 2)]++Zb.bk Ae 6++[bx 5 (Zb.rl Ae 6),rx 10 3 (A1.Aa.map Zd),bx 9 [bl A1.write,il A1.addr,il A1.size,il A1.Ay,bl A1.lock,sq 10 (A1.Aa.map Zd).length],rx 11 3 (v0.map Zd)]):=
 st<|it rt<|bd Zd λ{a0}=>bd Zd λ{a1}=>jk 1<|bn λ{z0} Xr=>jt Zo.enc [(Zo.mk a0 a1 A1)] z0<|jk 1<|je Zd A1.Aa<|ja 8 Zo.AE (Zo.mk a0 a1 A1)<|jx Zo.enc Xr<|je Zo.enc z0<|jw (Zb.sc Zb.z0)<|jw (Zb.sc {Ae with Al:=z0})<|cx (Az 1 5++fz 6 2 11264++Az 7 2) 6 B4
theorem Zyy {x0 r} {AN:Zb->(List ByteArray)->Int->Int->Option (Zb×Bool)} (B4:∀{Ae v1 v2 v3},AN Ae v1 v2 v3=some r->CS (OI x0 r) Tryz.f8 [1,1,0,1,0] [(0,ss x0),(2,pt 1),(4,pt 5),(17,.tr (v1.map Zv)),(18,il v2),(19,il v3)] (Zb.bk Zb.z0 2++[bx 1 (Zb.rl Zb.z0 2)]++Zb.bk Ae 6++[bx 5 (Zb.rl Ae 6)])) {Ae v5 v1 v2 v3 v6}:RI x0 AN Ae v5 v1 v2 v3 v6=some r->CS (OI x0 r) Tryz.f8 [1,1,0,1,0,0,1,1,0,0,1,1,0,1,1,1] [(0,ss x0),(2,pt 1),(4,pt 5),(7,.tr (v5.map Zv)),(17,.tr (v1.map Zv)),(18,il v2),(19,il v3),(68,bl v6)] (Zb.bk Zb.z0 2++[bx 1 (Zb.rl Zb.z0 2)]++Zb.bk Ae 6++[bx 5 (Zb.rl Ae 6)]):=
 st<|it (bn λ{s0} BT=>jp (.num (1:Int).toNat ((v5.length:Int):Int).toNat 0 (s0.map Zv))<|jo (Gl BT).1<|jo (JE Zv v5)<|jo (Gm Zv BT)<|jo (D3 1 FN v5)<|jo (Hv Zv BT)<|br cY λ{r0}=>it rt<|bb Zv<|it (jw (Zb.sc Zb.z0)<|jw (Zb.sc {Ae with waits:=r0.1})<|cx (Az 1 6++fz 7 2 2048++Az 8 1) 15 B4)<|jw (Zb.sc Zb.z0)<|jw (Zb.sc {Ae with A4:=r0.1})<|cx (Az 1 7++fz 8 2 2048) 15 B4)<|jw (Zb.sc Zb.z0)<|jw (Zb.sc Ae)<|cx (Az 1 8) 5 B4
theorem Zzh {x0 r} {AN:Zb->(List ByteArray)->Int->Int->Option (Zb×Bool)} (B4:∀{Ae v1 v2 v3},AN Ae v1 v2 v3=some r->CS (OI x0 r) Tryz.f8 [1,1,0,1,0] [(0,ss x0),(2,pt 1),(4,pt 5),(17,.tr (v1.map Zv)),(18,il v2),(19,il v3)] (Zb.bk Zb.z0 2++[bx 1 (Zb.rl Zb.z0 2)]++Zb.bk Ae 6++[bx 5 (Zb.rl Ae 6)])) {Ae v5 v1 v2 v3 v7}:Kc x0 AN Ae v5 v1 v2 v3 v7=some r->CS (OI x0 r) Tryz.f8 [1,1,0,1,0,0,1,1,0,0,1,1,0,1] [(0,ss x0),(2,pt 1),(4,pt 5),(7,.tr (v5.map Zv)),(17,.tr (v1.map Zv)),(18,il v2),(19,il v3),(25,bl v7)] (Zb.bk Zb.z0 2++[bx 1 (Zb.rl Zb.z0 2)]++Zb.bk Ae 6++[bx 5 (Zb.rl Ae 6)]):=
 st<|it (bn λ{s1} C5=>jp (.num (1:Int).toNat (3:Int).toNat 0 (s1.map Zv))<|jo (Gl C5).1<|jo (Gl C5).2<|jo (Gm Zv C5)<|jo (D3 1 FN v5)<|jo (Hv Zv C5)<|br cY λ{r1}=>bn λ{s2} DX=>jp (.num (3:Int).toNat ((v5.length:Int):Int).toNat 0 (s2.map Zv))<|jo (Gl DX).1<|jo (JE Zv v5)<|jo (Gm Zv DX)<|jo (D3 1 FN v5)<|jo (Hv Zv DX)<|br OD<|br Yzs λ{r3}=>it (jk 2<|jn Zd r1.1<|jw (Zb.sc Zb.z0)<|jw (Zb.sc Ae)<|jn Zd r3.1.Aa<|cx (Az 1 8++fz 9 3 7168++fz 10 3 3077++fz 11 2 2048) 8 (Zy9 B4))<|jk 2<|jn Zd r1.1<|jw (Zb.sc Zb.z0)<|jw (Zb.sc Ae)<|jn Zd r3.1.Aa<|cx (Az 1 8++fz 9 3 7168++fz 10 3 3077++fz 11 2 2048) 8 (Zy9 B4))<|bn λUy=>jb Zv Uy<|it (jk 4<|jw (Zb.sc Zb.z0)<|jw (Zb.sc Ae)<|cx (Az 1 8) 3 (Zyy B4))<|jk 1<|jb Zv Uy<|jk 3<|jw (Zb.sc Zb.z0)<|jw (Zb.sc Ae)<|cx (Az 1 8) 3 (Zyy B4)
theorem Ydr {x0 r}:∀{m Ae v1 v2 v3},Q6 x0 m Ae v1 v2 v3=some r->CS (OI x0 r) Tryz.f8 [1,1,0,1,0] [(0,ss x0),(2,pt 1),(4,pt 5),(17,.tr (v1.map Zv)),(18,il v2),(19,il v3)] (Zb.bk Zb.z0 2++[bx 1 (Zb.rl Zb.z0 2)]++Zb.bk Ae 6++[bx 5 (Zb.rl Ae 6)]):=by
 intro m
 induction m with
 | zero=>intro Ae v1 v2 v3 h;cases h
 | succ m ih=>exactλ{Ae} {v1} {v2} {v3}=>st<|it (bb Zv<|br Ut λ{r4}=>bb Zv<|it (jk 1<|js Zv r4<|jk 2<|jw (Zb.sc Zb.z0)<|jw (Zb.sc Ae)<|cx (Az 1 8) 15 (Zzh ih))<|jk 3<|jw (Zb.sc Zb.z0)<|jw (Zb.sc Ae)<|cx (Az 1 8) 15 (Zzh ih))<|jk 3<|jw (Zb.so Ae)<|br Yoh<|it rt<|jk 3<|jw (Zb.so Ae)<|rt
theorem Z61 {x0 r}  : MQ x0=some r->Zq Tryz.prog Mo (OI x0 r):=
 fK Tryz.func8<|br Z98<|br Ut λ{r7}=>js Zv r7<|cx (fz 1 1 0++fz 5 2 1024) 8 Ydr
abbrev Ya1 (As:Zi) (Aq:Zb) (x1:ByteArray) (r:ByteArray×Z1):Y:=(51,[.agg [.own 83 (As.Ab.map Ze.enc),il As.Aw,il As.Au,il As.Ao,il As.Ar,il As.Am,.own 60 (Aq.Al.map Zo.enc),.own 3 (Aq.waits.map Zd),.own 3 (Aq.A4.map Zd),.lit (.pointer none)],ss x1],ss r.1,[.agg [.own 83 (r.2.Ad.Ab.map Ze.enc),il r.2.Ad.Aw,il r.2.Ad.Au,il r.2.Ad.Ao,il r.2.Ad.Ar,il r.2.Ad.Am,.own 60 (r.2.script.Al.map Zo.enc),.own 3 (r.2.script.waits.map Zd),.own 3 (r.2.script.A4.map Zd),Za.oE r.2.DO],.undef])
theorem Zr3 {As Aq x1 r} {v0 v1}:oI As Aq x1 v0 v1=some r->CS (Ya1 As Aq x1 r) Tryz.f51 [1,1,0,1,0,1,1,1] [(0,.ptr (0,63) 0 0),(1,ss x1),(5,ss v0),(32,bl v1)] [rx 1 83 (As.Ab.map Ze.enc),rx 2 60 (Aq.Al.map Zo.enc),rx 3 3 (Aq.waits.map Zd),rx 4 3 (Aq.A4.map Zd),((0,63),⟨true,true,true,0,[[sq 1 (As.Ab.map Ze.enc).length,il As.Aw,il As.Au,il As.Ao,il As.Ar,il As.Am,sq 2 (Aq.Al.map Zo.enc).length,sq 3 (Aq.waits.map Zd).length,sq 4 (Aq.A4.map Zd).length,.lit (.pointer none)]]⟩)]:=
 st<|it (jl<|bo Xx<|br Z61 λ{r0}=>it (jk 4<|je Ze.enc As.Ab<|jw (Zb.so Aq)<|rt)<|it (jk 4<|je Ze.enc As.Ab<|je Zo.enc Aq.Al<|je Zd r0.1.waits<|je Zd Aq.A4<|rt)<|it (jk 4<|je Ze.enc As.Ab<|je Zo.enc Aq.Al<|je Zd Aq.waits<|je Zd r0.1.A4<|rt)<|bn λ{z0} Xr=>jt Zo.enc r0.1.Al z0<|jk 5<|je Zo.enc r0.1.Al<|jo (Eq.refl (r0.1.Al.map Zo.enc))<|jo (D3 8 Zo.AE r0.1.Al)<|jx Zo.enc Xr<|je Zo.enc z0<|je Ze.enc As.Ab<|je Zo.enc z0<|je Zd Aq.waits<|je Zd Aq.A4<|rt)<|jk 4<|je Ze.enc As.Ab<|jw (Zb.so Aq)<|rt
theorem Yro {As Aq x1 r}  : oJ As Aq x1=some r->Zq Tryz.prog Mo (Ya1 As Aq x1 r):=
 fK Tryz.func51<|br Yav<|it (br Ydq λ{r2}=>it (jk 4<|je Ze.enc As.Ab<|jw (Zb.so Aq)<|rt)<|jk 1<|je Ze.enc r2.1.Ab<|rt)<|it (jn Ze.enc As.Ab<|jp (.num (Aq.Al.map Zo.enc).length 0 0 [])<|jp (.num (Aq.waits.map Zd).length 0 0 [])<|jp (.num (Aq.A4.map Zd).length 0 0 [])<|jw (Zb.so Aq)<|cx (fz 1 0 0++fz 2 0 6++fz 3 0 7++fz 4 0 8) 16 Zr3)<|it (jn Ze.enc As.Ab<|jp (.num (Aq.Al.map Zo.enc).length 0 0 [])<|jp (.num (Aq.waits.map Zd).length 0 0 [])<|jp (.num (Aq.A4.map Zd).length 0 0 [])<|jw (Zb.so Aq)<|cx (fz 1 0 0++fz 2 0 6++fz 3 0 7++fz 4 0 8) 19 Zr3)<|jn Ze.enc As.Ab<|jp (.num (Aq.Al.map Zo.enc).length 0 0 [])<|jp (.num (Aq.waits.map Zd).length 0 0 [])<|jp (.num (Aq.A4.map Zd).length 0 0 [])<|jw (Zb.so Aq)<|cx (fz 1 0 0++fz 2 0 6++fz 3 0 7++fz 4 0 8) 19 Zr3
abbrev Zm4 (x0:List Ze) (r:List Ze):Y:=(201,[.tr (x0.map Ze.enc)],.own 83 (r.map Ze.enc),[.undef])
theorem Zzx {x0:List Ze} {r:List Ze} (h:oK x0=some r):Zq Tryz.prog Mo (Zm4 x0 r):=by
 refine q8 Tryz.func201 ?_;unfold oK at h;cases x0 with
 | nil=>
  obtain rfl:[]=r:=(kD h);have hn:CS (Zm4 [] []) Tryz.f201 [1,0,0] [(0,.tr [])] []:=kA Mo L5 (k:=at_ [1,0,1] (MH Tryz.f201) []) (x0:=.tmp 0) (d0:=3) (d1:=4) (t:=35) (e:=83) (y:=.const (.slice none 0 0)) (by kernel_rfl) (by kernel_rfl) rfl rfl λb=>by
   cases b with
   | true=>exact HW rfl [.k] tt
   | false=>exact HW rfl [.k,.app [] true [] 0,.k] (aa (Eq.refl ([]:List (List V))) (aa (Eq.refl true) (aa (Eq.refl true) (aa (Eq.refl 0) (aa (kE 32) (aa (Eq.refl ([]:List (List V))) (aa (Eq.refl 0) (aa (Eq.refl 0) tt))))))))
  exact MX [] 4 [] tt hn
 | cons a l=>
  exact HW rfl [.k,.app ((a::l).map Ze.enc) true (r.map Ze.enc) (r.map Ze.enc).length,.k] (aa (gP (Ze.enc a) (l.map Ze.enc)) (aa (Eq.refl ((a::l).map Ze.enc)) (aa (YU Ze.Ca (a::l)) (aa (D3 4 Ze.AE (a::l)) (aa (Eq.refl 0) (aa (FL Ze.enc h) (aa (MG Ze.enc h) (aa (Om Ze.enc r) (aa (Om Ze.enc r) tt)))))))))
abbrev Yzb (x0:Zi) (r:Zi):Y:=(157,[.agg (Zi.enc x0)],.agg [.own 83 (r.Ab.map Ze.enc),il r.Aw,il r.Au,il r.Ao,il r.Ar,il r.Am],un 1)
theorem Yge {x0 r}  : bC x0=some r->Zq Tryz.prog Mo (Yzb x0 r):=
 fK Tryz.func157<|br Zzx λ{r0}=>jk 1<|je Ze.enc r0<|rt
abbrev Y1f  (r:Zl):Y:=(202,[],.agg (Zl.ow r),[])
theorem Y2l {r}  : Yjl  = some r->Zq Tryz.prog Mo (Y1f  r):=
 fK Tryz.func202<|bn λ{m0} Dn=>jp (.mk (4:Int).toNat (m0.map Zd))<|jk 1<|jo (Lr Dn)<|jo (Lr Dn)<|jo (YV Dn)<|jo (YW Zd Dn)<|je Zd m0<|rt
abbrev Yus  (r:Zf):Y:=(158,[],.agg (Zf.ow r),[])
theorem Yca {r}  : bD  = some r->Zq Tryz.prog Mo (Yus  r):=
 fK Tryz.func158<|bn λ{m0} Dn=>jp (.mk (192:Int).toNat (m0.map Zd))<|jo (Lr Dn)<|jo (Lr Dn)<|jo (YV Dn)<|jo (YW Zd Dn)<|br Y2l λ{r0}=>jk 3<|je Zd m0<|jw (Zl.so r0)<|rt
abbrev Yrn (x0:Ze) (r:Zk):Y:=(159,[.agg (Ze.enc x0)],.agg (Zk.enc r),un 1)
theorem Yqo {x0 r}  : oL x0=some r->Zq Tryz.prog Mo (Yrn x0 r):=
 fK Tryz.func159<|it rt<|rt
abbrev Yk3 (x0:Zi) (r:Za×Bool):Y:=(103,[.agg (Zi.enc x0)],.AZ [.agg (Za.ow r.1),bl r.2],un 1)
theorem Yoc {x0 r}:∀{m Ae v0},oN x0 m Ae v0=some r->CS (Yk3 x0 r) Tryz.f103 [1,1,1,0,1,0] [(2,pt 1),(4,pt 10),(16,.tr (x0.Ab.map Ze.enc)),(17,il (x0.Ab.length:Int)),(18,il v0)] (Za.bk Za.z0 2++[bx 1 (Za.rl Za.z0 2)]++Za.bk Ae 11++[bx 10 (Za.rl Ae 11)]):=by
 intro m
 induction m with
 | zero=>intro Ae v0 h;cases h
 | succ m ih=>exactλ{Ae} {v0}=>st<|it (bb Ze.enc<|bn λ{z0} Xr=>jt Zg.enc [Zg.z0] z0<|jk 1<|ja 6 Zg.AE Zg.z0<|jx Zg.enc Xr<|je Zg.enc z0<|br Yqo λ{r0}=>bn λ{z1} EO=>jt Zk.enc [r0] z1<|jk 1<|bn λ{z2} Uv=>jt Zd [0] z2<|jk 1<|ja 2 Zk.AE r0<|jx Zk.enc EO<|je Zk.enc z1<|ja 1 FM 0<|jx Zd Uv<|je Zd z2<|jw (Za.sc Za.z0)<|jw (Za.sc {Ae with m:=z0,buckets:=z1,splits:=z2})<|cx (Az 1 11++fz 12 4 4096++fz 13 5 5120++fz 14 6 3072++Az 15 4) 17 ih)<|jk 8<|jw (Za.so Ae)<|rt
theorem Yjn {x0 r}  : bE x0=some r->Zq Tryz.prog Mo (Yk3 x0 r):=
 fK Tryz.func103<|br U0<|it rt<|br Yge λ{r2}=>br Yca λ{r3}=>js Ze.enc x0.Ab<|jn Ze.enc r2.Ab<|jp (.num (r3.mem.map Zd).length 0 0 [])<|jp (.num (r3.dev.AH.map Zd).length 0 0 [])<|jp (.num (r3.dev.A2.map Zd).length 0 0 [])<|jw (Zf.so r3)<|cx (fz 1 1 1024++fz 10 3 4096++fz 11 3 1024++fz 15 3 2048++fz 16 3 2049++fz 17 3 2051) 13 Yoc
abbrev Z7o (As:Zi) (Aq:Zb) (x1:ByteArray) (r:ByteArray×Z1):Y:=(52,[.agg [.own 83 (As.Ab.map Ze.enc),il As.Aw,il As.Au,il As.Ao,il As.Ar,il As.Am,.own 60 (Aq.Al.map Zo.enc),.own 3 (Aq.waits.map Zd),.own 3 (Aq.A4.map Zd),.lit (.pointer none)],ss x1],ss r.1,[.agg [.own 83 (r.2.Ad.Ab.map Ze.enc),il r.2.Ad.Aw,il r.2.Ad.Au,il r.2.Ad.Ao,il r.2.Ad.Ar,il r.2.Ad.Am,.own 60 (r.2.script.Al.map Zo.enc),.own 3 (r.2.script.waits.map Zd),.own 3 (r.2.script.A4.map Zd),Za.oE r.2.DO],.undef])
theorem c6 {As Aq x1 r} {v0}:RJ As Aq x1 v0=some r->CS (Z7o As Aq x1 r) Tryz.f52 [1,0,1,0,1,1,1,1,1] [(0,.ptr (0,63) 0 0),(1,ss x1),(34,bl v0)] [rx 1 83 (As.Ab.map Ze.enc),rx 2 60 (Aq.Al.map Zo.enc),rx 3 3 (Aq.waits.map Zd),rx 4 3 (Aq.A4.map Zd),((0,63),⟨true,true,true,0,[[sq 1 (As.Ab.map Ze.enc).length,il As.Aw,il As.Au,il As.Ao,il As.Ar,il As.Am,sq 2 (Aq.Al.map Zo.enc).length,sq 3 (Aq.waits.map Zd).length,sq 4 (Aq.A4.map Zd).length,.lit (.pointer none)]]⟩)]:=
 st<|it (jk 5<|je Ze.enc As.Ab<|jw (Zb.so Aq)<|rt)<|jk 4<|je Ze.enc As.Ab<|jw (Zb.so Aq)<|rt
theorem Yn9 {As Aq x1 r}  : bF As Aq x1=some r->Zq Tryz.prog Mo (Z7o As Aq x1 r):=
 fK Tryz.func52<|it (jk 1<|je Ze.enc As.Ab<|br Yjn λ{r0}=>it (jk 4<|je Ze.enc As.Ab<|jw (Zb.so Aq)<|rt)<|jk 12<|je Ze.enc As.Ab<|jw (Zb.so Aq)<|jw (Za.so r0.1)<|rt)<|it (jk 1<|je Ze.enc As.Ab<|br Z22<|it (jk 4<|je Ze.enc As.Ab<|jw (Zb.so Aq)<|rt)<|jk 4<|je Ze.enc As.Ab<|jw (Zb.so Aq)<|rt)<|it (jn Ze.enc As.Ab<|jp (.num (Aq.Al.map Zo.enc).length 0 0 [])<|jp (.num (Aq.waits.map Zd).length 0 0 [])<|jp (.num (Aq.A4.map Zd).length 0 0 [])<|jw (Zb.so Aq)<|cx (fz 1 0 0++fz 2 0 6++fz 3 0 7++fz 4 0 8) 17 c6)<|it (jn Ze.enc As.Ab<|jp (.num (Aq.Al.map Zo.enc).length 0 0 [])<|jp (.num (Aq.waits.map Zd).length 0 0 [])<|jp (.num (Aq.A4.map Zd).length 0 0 [])<|jw (Zb.so Aq)<|cx (fz 1 0 0++fz 2 0 6++fz 3 0 7++fz 4 0 8) 20 c6)<|it (jn Ze.enc As.Ab<|jp (.num (Aq.Al.map Zo.enc).length 0 0 [])<|jp (.num (Aq.waits.map Zd).length 0 0 [])<|jp (.num (Aq.A4.map Zd).length 0 0 [])<|jw (Zb.so Aq)<|cx (fz 1 0 0++fz 2 0 6++fz 3 0 7++fz 4 0 8) 23 c6)<|it (jn Ze.enc As.Ab<|jp (.num (Aq.Al.map Zo.enc).length 0 0 [])<|jp (.num (Aq.waits.map Zd).length 0 0 [])<|jp (.num (Aq.A4.map Zd).length 0 0 [])<|jw (Zb.so Aq)<|cx (fz 1 0 0++fz 2 0 6++fz 3 0 7++fz 4 0 8) 26 c6)<|jn Ze.enc As.Ab<|jp (.num (Aq.Al.map Zo.enc).length 0 0 [])<|jp (.num (Aq.waits.map Zd).length 0 0 [])<|jp (.num (Aq.A4.map Zd).length 0 0 [])<|jw (Zb.so Aq)<|cx (fz 1 0 0++fz 2 0 6++fz 3 0 7++fz 4 0 8) 26 c6
abbrev Z7y (As:Zi) (Aq:Zb) (AF:Za) (x1:ByteArray) (r:ByteArray×Z1):Y:=(51,[.agg [.own 83 (As.Ab.map Ze.enc),il As.Aw,il As.Au,il As.Ao,il As.Ar,il As.Am,.own 60 (Aq.Al.map Zo.enc),.own 3 (Aq.waits.map Zd),.own 3 (Aq.A4.map Zd),.CL (Za.ow AF)],ss x1],ss r.1,[.agg [.own 83 (r.2.Ad.Ab.map Ze.enc),il r.2.Ad.Aw,il r.2.Ad.Au,il r.2.Ad.Ao,il r.2.Ad.Ar,il r.2.Ad.Am,.own 60 (r.2.script.Al.map Zo.enc),.own 3 (r.2.script.waits.map Zd),.own 3 (r.2.script.A4.map Zd),Za.oE r.2.DO],.undef])
theorem Zp5 {As Aq AF x1 r} {v0 v1}:oO As Aq AF x1 v0 v1=some r->CS (Z7y As Aq AF x1 r) Tryz.f51 [1,1,0,1,0,1,1,1] [(0,.ptr (0,63) 0 0),(1,ss x1),(5,ss v0),(32,bl v1)] ([rx 1 83 (As.Ab.map Ze.enc),rx 2 60 (Aq.Al.map Zo.enc),rx 3 3 (Aq.waits.map Zd),rx 4 3 (Aq.A4.map Zd),((0,63),⟨true,true,true,0,[[sq 1 (As.Ab.map Ze.enc).length,il As.Aw,il As.Au,il As.Ao,il As.Ar,il As.Am,sq 2 (Aq.Al.map Zo.enc).length,sq 3 (Aq.waits.map Zd).length,sq 4 (Aq.A4.map Zd).length,pt 5]]⟩)]++Za.oB 5 (some AF)):=
 st<|it (jl<|bo Xx<|br Z61 λ{r0}=>it (jk 12<|je Ze.enc As.Ab<|jw (Zb.so Aq)<|jw (Za.so AF)<|rt)<|it (jk 12<|je Ze.enc As.Ab<|je Zo.enc Aq.Al<|je Zd r0.1.waits<|je Zd Aq.A4<|jw (Za.so AF)<|rt)<|it (jk 12<|je Ze.enc As.Ab<|je Zo.enc Aq.Al<|je Zd Aq.waits<|je Zd r0.1.A4<|jw (Za.so AF)<|rt)<|bn λ{z0} Xr=>jt Zo.enc r0.1.Al z0<|jk 13<|je Zo.enc r0.1.Al<|jo (Eq.refl (r0.1.Al.map Zo.enc))<|jo (D3 8 Zo.AE r0.1.Al)<|jx Zo.enc Xr<|je Zo.enc z0<|je Ze.enc As.Ab<|je Zo.enc z0<|je Zd Aq.waits<|je Zd Aq.A4<|jw (Za.so AF)<|rt)<|jk 12<|je Ze.enc As.Ab<|jw (Zb.so Aq)<|jw (Za.so AF)<|rt
theorem Ynr {As Aq AF x1 r}  : oP As Aq AF x1=some r->Zq Tryz.prog Mo (Z7y As Aq AF x1 r):=
 fK Tryz.func51<|br Yav<|it (br Ydq λ{r2}=>it (jk 12<|je Ze.enc As.Ab<|jw (Zb.so Aq)<|jw (Za.so AF)<|rt)<|jk 1<|je Ze.enc r2.1.Ab<|rt)<|it (jn Ze.enc As.Ab<|jp (.num (Aq.Al.map Zo.enc).length 0 0 [])<|jp (.num (Aq.waits.map Zd).length 0 0 [])<|jp (.num (Aq.A4.map Zd).length 0 0 [])<|jw (Zb.so Aq)<|jw (Za.sc AF)<|cx (fz 1 0 0++fz 2 0 6++fz 3 0 7++fz 4 0 8++fz 5 0 9++fz 6 0 10++fz 7 0 17++fz 8 0 20++fz 9 0 21++fz 10 0 41++fz 11 0 42++fz 12 0 44++fz 13 0 46) 16 Zp5)<|it (jn Ze.enc As.Ab<|jp (.num (Aq.Al.map Zo.enc).length 0 0 [])<|jp (.num (Aq.waits.map Zd).length 0 0 [])<|jp (.num (Aq.A4.map Zd).length 0 0 [])<|jw (Zb.so Aq)<|jw (Za.sc AF)<|cx (fz 1 0 0++fz 2 0 6++fz 3 0 7++fz 4 0 8++fz 5 0 9++fz 6 0 10++fz 7 0 17++fz 8 0 20++fz 9 0 21++fz 10 0 41++fz 11 0 42++fz 12 0 44++fz 13 0 46) 19 Zp5)<|jn Ze.enc As.Ab<|jp (.num (Aq.Al.map Zo.enc).length 0 0 [])<|jp (.num (Aq.waits.map Zd).length 0 0 [])<|jp (.num (Aq.A4.map Zd).length 0 0 [])<|jw (Zb.so Aq)<|jw (Za.sc AF)<|cx (fz 1 0 0++fz 2 0 6++fz 3 0 7++fz 4 0 8++fz 5 0 9++fz 6 0 10++fz 7 0 17++fz 8 0 20++fz 9 0 21++fz 10 0 41++fz 11 0 42++fz 12 0 44++fz 13 0 46) 19 Zp5
abbrev Yeg (x0:Zj) (r:Bool):Y:=(277,[.agg (Zj.enc x0)],bl r,un 1)
theorem Ybp {x0 r}  : oQ x0=some r->Zq Tryz.prog Mo (Yeg x0 r):=
 fK Tryz.func277<|br rN<|rt
abbrev Zbn (x0:List Zj) (r:Int):Y:=(300,[.tr (x0.map Zj.enc),.fn 277 []],il r,un 2)
theorem Zgv {x0 r}:∀{m v0},Qs x0 m v0=some r->CS (Zbn x0 r) Tryz.f300 [1,0,1,0] [(0,.tr (x0.map Zj.enc)),(1,.fn 277 []),(7,il (x0.length:Int)),(8,il v0)] []:=by
 intro m
 induction m with
 | zero=>intro v0 h;cases h
 | succ m ih=>exact st<|it (bb Zj.enc<|br Ybp<|it rt<|cx [] 16 ih)<|rt
theorem Zju {x0 r}  : Kg x0=some r->Zq Tryz.prog Mo (Zbn x0 r):=
 fK Tryz.func300<|js Zj.enc x0<|cx [] 6 Zgv
abbrev Zhq (x0:List Zj) (r:Bool):Y:=(276,[.tr (x0.map Zj.enc),.fn 277 []],bl r,un 2)
theorem Zhr {x0 r}  : Wh x0=some r->Zq Tryz.prog Mo (Zhq x0 r):=
 fK Tryz.func276<|br Zju<|rt
abbrev Yqk (x0:Zg) (r:Int):Y:=(240,[.rp true (Zg.enc x0) 0],il r,un 1)
theorem c7 {x0 r}  : O8 x0=some r->Zq Tryz.prog Mo (Yqk x0 r):=
 fK Tryz.func240<|js Zj.enc x0.queue<|it rt<|bb Zj.enc<|br rL<|rt
abbrev Z1z (x0:Zg) (r:Bool):Y:=(239,[.agg (Zg.enc x0)],bl r,un 1)
theorem Zmd {x0 r} {v0}:Qh x0 v0=some r->CS (Z1z x0 r) Tryz.f239 [1,0,1] [(1,pt 1),(16,bl v0)] [bx 1 (Zg.enc x0)]:=
 st<|it rt<|js Zj.enc x0.queue<|it (it (jk 3<|it (jk 3<|it (jk 3<|it (jk 3<|rt)<|jk 3<|rt)<|jk 7<|rt)<|jk 11<|rt)<|jk 15<|rt)<|br c7<|br Xd<|it (jk 7<|br c7<|jk 2<|br Xd<|jk 1<|rt)<|jk 10<|rt
theorem U4 {x0 r}  : Jd x0=some r->Zq Tryz.prog Mo (Z1z x0 r):=
 fK Tryz.func239<|js Zj.enc x0.queue<|it (jk 7<|cx (fz 1 1 0) 5 Zmd)<|jk 3<|it (jk 3<|cx (fz 1 1 0) 5 Zmd)<|jk 2<|br Zhr<|jk 1<|cx (fz 1 1 0) 5 Zmd
abbrev Ygr (x0:Zg) (x1:Int) (r:Int):Y:=(205,[.agg (Zg.enc x0),il x1],il r,un 2)
theorem Z4u {x0 x1 r} {v0}:oR x0 x1 v0=some r->CS (Ygr x0 x1 r) Tryz.f205 [1,0,1] [(1,il x1),(2,pt 1),(15,bl v0)] [bx 1 (Zg.enc x0)]:=
 st<|it rt<|bb Zj.enc<|br Z7m<|bd Zd<|rt
theorem c8 {x0 x1 r}  : O9 x0 x1=some r->Zq Tryz.prog Mo (Ygr x0 x1 r):=
 fK Tryz.func205<|br U4<|it (jk 5<|cx (fz 1 1 0) 5 Z4u)<|jk 1<|br c7<|jk 2<|br Xd<|jk 2<|cx (fz 1 1 0) 5 Z4u
abbrev Zst (x0:List Int) (r:List Int):Y:=(255,[.tr (x0.map Zd)],.own 3 (r.map Zd),[.undef])
theorem Ke {x0:List Int} {r:List Int} (h:Xi x0=some r):Zq Tryz.prog Mo (Zst x0 r):=by
 refine q8 Tryz.func255 ?_;unfold Xi at h;cases x0 with
 | nil=>
  obtain rfl:[]=r:=(kD h);have hn:CS (Zst [] []) Tryz.f255 [1,0,0] [(0,.tr [])] []:=kA Mo L5 (k:=at_ [1,0,1] (MH Tryz.f255) []) (x0:=.tmp 0) (d0:=3) (d1:=4) (t:=23) (e:=3) (y:=.const (.slice none 0 0)) (by kernel_rfl) (by kernel_rfl) rfl rfl λb=>by
   cases b with
   | true=>exact HW rfl [.k] tt
   | false=>exact HW rfl [.k,.app [] true [] 0,.k] (aa (Eq.refl ([]:List (List V))) (aa (Eq.refl true) (aa (Eq.refl true) (aa (Eq.refl 0) (aa (kE 8) (aa (Eq.refl ([]:List (List V))) (aa (Eq.refl 0) (aa (Eq.refl 0) tt))))))))
  exact MX [] 4 [] tt hn
 | cons a l=>
  exact HW rfl [.k,.app ((a::l).map Zd) true (r.map Zd) (r.map Zd).length,.k] (aa (gP (Zd a) (l.map Zd)) (aa (Eq.refl ((a::l).map Zd)) (aa (YU Rn (a::l)) (aa (D3 1 FM (a::l)) (aa (Eq.refl 0) (aa (FL Zd h) (aa (MG Zd h) (aa (Om Zd r) (aa (Om Zd r) tt)))))))))
abbrev Y21 (x0:Zj) (r:Zj):Y:=(241,[.agg (Zj.enc x0)],.agg [bl r.write,il r.addr,il r.size,il r.Ay,bl r.lock,.own 3 (r.Aa.map Zd)],un 1)
theorem Z9i {x0 r}  : RL x0=some r->Zq Tryz.prog Mo (Y21 x0 r):=
 fK Tryz.func241<|br Ke λ{r0}=>jk 1<|je Zd r0<|rt
abbrev Yhe (x0:Zb) (x1:Int) (r:List Zo):Y:=(206,[.agg (Zb.enc x0),il x1],.own 60 (r.map Zo.enc),un 2)
theorem Ylk {x0 x1 r}:∀{m v0 v1},oT x0 x1 m v0 v1=some r->CS (Yhe x0 x1 r) Tryz.f206 [1,1,0,1,0] [(1,il x1),(5,sq 1 (v0.map Zo.enc).length),(10,.tr (x0.Al.map Zo.enc)),(11,il (x0.Al.length:Int)),(12,il v1)] [rx 1 60 (v0.map Zo.enc)]:=by
 intro m
 induction m with
 | zero=>intro v0 v1 h;cases h
 | succ m ih=>exactλ{v0} {v1}=>st<|it (bb Zo.enc λ{a0}=>it (br Z9i λ{r0}=>jk 1<|bn λ{z0} Xr=>jt Zo.enc [{a0 with Bm:=r0}] z0<|jk 1<|je Zd r0.Aa<|ja 8 Zo.AE {a0 with Bm:=r0}<|jx Zo.enc Xr<|jn Zo.enc z0<|je Zo.enc z0<|cx (fz 1 6 3072) 18 ih)<|jn Zo.enc v0<|cx (Az 1 1) 16 ih)<|jk 1<|je Zo.enc v0<|rt
theorem Yxq {x0 x1 r}  : oU x0 x1=some r->Zq Tryz.prog Mo (Yhe x0 x1 r):=
 fK Tryz.func206<|js Zo.enc x0.Al<|jp (.num ([].map Zo.enc).length 0 0 [])<|jo (show 0=([].map Zo.enc).length from rfl)<|cx (fz 1 2 0) 8 Ylk
abbrev Yse (x0:Zi) (x1:Int) (r:Bool):Y:=(207,[.agg (Zi.enc x0),il x1],bl r,un 2)
theorem Sa {x0 x1 r}  : JH x0 x1=some r->Zq Tryz.prog Mo (Yse x0 x1 r):=
 fK Tryz.func207<|js Ze.enc x0.Ab<|br Xd<|rt
abbrev Yl0 (x0:Zg) (r:Zg):Y:=(242,[.agg (Zg.enc x0)],.agg [.own 41 (r.queue.map Zj.enc),il r.An,il r.done,il r.tries,bl r.Ax,bl r.broken],un 1)
theorem Yon {x0 r}:∀{m v0 v1},oW x0 m v0 v1=some r->CS (Yl0 x0 r) Tryz.f242 [1,1,0,1,0] [(1,pt 1),(2,pt 2),(3,sq 4 (v0.map Zj.enc).length),(8,.tr (x0.queue.map Zj.enc)),(9,il (x0.queue.length:Int)),(10,il v1)] [bx 1 (Zg.enc x0),rx 3 41 ([].map Zj.enc),bx 2 [sq 3 ([].map Zj.enc).length,il 0,il 0,il 0,bl false,bl false],rx 4 41 (v0.map Zj.enc)]:=by
 intro m
 induction m with
 | zero=>intro v0 v1 h;cases h
 | succ m ih=>exactλ{v0} {v1}=>st<|it (bb Zj.enc<|br Z9i λ{r0}=>jk 1<|bn λ{z0} Xr=>jt Zj.enc [r0] z0<|jk 1<|je Zd r0.Aa<|ja 6 Zj.AE r0<|jx Zj.enc Xr<|jn Zj.enc z0<|je Zj.enc z0<|jn Zj.enc []<|cx (Az 1 3++fz 4 4 4096) 13 ih)<|jk 1<|je Zj.enc v0<|rt
theorem dA {x0 r}  : OA x0=some r->Zq Tryz.prog Mo (Yl0 x0 r):=
 fK Tryz.func242<|js Zj.enc x0.queue<|jp (.num ([].map Zj.enc).length 0 0 [])<|jo (show 0=([].map Zj.enc).length from rfl)<|cx (fz 1 1 0++fz 2 1 1024++fz 4 2 0) 8 Yon
abbrev Yg1 (x0:Zg) (x1:Zj) (r:Zg×Bool):Y:=(208,[.agg (Zg.enc x0),.agg (Zj.enc x1)],.AZ [.agg [.own 41 (r.1.queue.map Zj.enc),il r.1.An,il r.1.done,il r.1.tries,bl r.1.Ax,bl r.1.broken],bl r.2],un 2)
theorem Zvn {x0 x1 r} {Ae v0}:bG x0 x1 Ae v0=some r->CS (Yg1 x0 x1 r) Tryz.f208 [1,1,0,1] [(3,pt 1),(4,pt 2),(6,pt 4),(22,bl v0)] [bx 1 (Zj.enc x1),rx 3 41 ([].map Zj.enc),bx 2 [sq 3 ([].map Zj.enc).length,il 0,il 0,il 0,bl false,bl false],rx 5 41 (Ae.queue.map Zj.enc),bx 4 [sq 5 (Ae.queue.map Zj.enc).length,il Ae.An,il Ae.done,il Ae.tries,bl Ae.Ax,bl Ae.broken]]:=
 st<|it (jk 1<|je Zj.enc Ae.queue<|rt)<|br Z9i λ{r0}=>jk 1<|bn λ{z0} Xr=>jt Zj.enc [r0] z0<|jk 2<|je Zd r0.Aa<|ja 6 Zj.AE r0<|jx Zj.enc Xr<|je Zj.enc z0<|je Zj.enc z0<|rt
theorem Yx5 {x0 x1 r}  : oX x0 x1=some r->Zq Tryz.prog Mo (Yg1 x0 x1 r):=
 fK Tryz.func208<|br dA λ{r1}=>br U4<|it (jk 8<|jn Zj.enc r1.queue<|cx (fz 1 1 1024++fz 2 1 2048++fz 4 2 2048++fz 5 2 1024) 7 Zvn)<|jk 1<|br rN<|jk 2<|it (jk 4<|jn Zj.enc r1.queue<|cx (fz 1 1 1024++fz 2 1 2048++fz 4 2 2048++fz 5 2 1024) 7 Zvn)<|jk 2<|js Zj.enc x0.queue<|jk 2<|jn Zj.enc r1.queue<|cx (fz 1 1 1024++fz 2 1 2048++fz 4 2 2048++fz 5 2 1024) 7 Zvn
abbrev Yr7 (x0:Zk) (x1:Ze) (r:Bool):Y:=(278,[.agg (Zk.enc x0),.agg (Ze.enc x1)],bl r,un 2)
theorem Yby {x0 x1 r}  : bH x0 x1=some r->Zq Tryz.prog Mo (Yr7 x0 x1 r):=
 fK Tryz.func278<|it rt<|br Xd<|it (jk 3<|it (jk 5<|rt)<|jk 5<|rt)<|jk 9<|rt
abbrev Y3t (x0:Zk) (x1:Ze) (r:Bool):Y:=(243,[.agg (Zk.enc x0),.agg (Ze.enc x1)],bl r,un 2)
theorem Z8b {x0 x1 r}  : Uc x0 x1=some r->Zq Tryz.prog Mo (Y3t x0 x1 r):=
 fK Tryz.func243<|it (jk 2<|br Yby<|jk 1<|rt)<|jk 3<|rt
abbrev Ym9 (x0:Zk) (x1:Ze) (r:Zk):Y:=(209,[.agg (Zk.enc x0),.agg (Ze.enc x1)],.agg (Zk.enc r),un 2)
theorem Ync {x0 x1 r}  : oY x0 x1=some r->Zq Tryz.prog Mo (Ym9 x0 x1 r):=
 fK Tryz.func209<|br Z8b<|it rt<|it rt<|rt
abbrev Yfw (x0:Zg) (r:Zg×Bool):Y:=(279,[.agg (Zg.enc x0)],.AZ [.agg [.own 41 (r.1.queue.map Zj.enc),il r.1.An,il r.1.done,il r.1.tries,bl r.1.Ax,bl r.1.broken],bl r.2],un 1)
theorem Z5i {x0 r} {Ae v0}:oZ x0 Ae v0=some r->CS (Yfw x0 r) Tryz.f279 [1,1,0,1] [(2,pt 1),(4,pt 3),(16,bl v0)] [rx 2 41 ([].map Zj.enc),bx 1 [sq 2 ([].map Zj.enc).length,il 0,il 0,il 0,bl false,bl false],rx 4 41 (Ae.queue.map Zj.enc),bx 3 [sq 4 (Ae.queue.map Zj.enc).length,il Ae.An,il Ae.done,il Ae.tries,bl Ae.Ax,bl Ae.broken]]:=
 st<|it (jk 1<|je Zj.enc Ae.queue<|rt)<|jk 1<|je Zj.enc Ae.queue<|rt
theorem Yzv {x0 r}  : o4 x0=some r->Zq Tryz.prog Mo (Yfw x0 r):=
 fK Tryz.func279<|br dA λ{r0}=>br U4<|it (jk 5<|jn Zj.enc r0.queue<|cx (fz 1 1 1024++fz 3 2 2048++fz 4 2 1024) 7 Z5i)<|jk 5<|jn Zj.enc r0.queue<|cx (fz 1 1 1024++fz 3 2 2048++fz 4 2 1024) 7 Z5i
abbrev Yoi (x0:Zk) (x1:Ze) (r:Zk):Y:=(280,[.agg (Zk.enc x0),.agg (Ze.enc x1)],.agg (Zk.enc r),un 2)
theorem Yog {x0 x1 r}  : o5 x0 x1=some r->Zq Tryz.prog Mo (Yoi x0 x1 r):=
 fK Tryz.func280<|br Z8b<|it (jk 5<|it rt<|rt)<|jk 6<|rt
abbrev Yka (x0:Zi) (x1:Int) (r:Int):Y:=(289,[.agg (Zi.enc x0),il x1],il r,un 2)
theorem Z64 {x0 x1 r} {v0}:Zxh x0 x1 v0=some r->CS (Yka x0 x1 r) Tryz.f289 [1,0,1] [(1,il x1),(2,pt 1),(13,bl v0)] [bx 1 (Zi.enc x0)]:=
 st<|it rt<|bb Ze.enc<|rt
theorem Z9x {x0 x1 r}  : Ud x0 x1=some r->Zq Tryz.prog Mo (Yka x0 x1 r):=
 fK Tryz.func289<|br U0<|it (jk 4<|cx (fz 1 1 0) 5 Z64)<|jk 2<|br Sa<|jk 2<|cx (fz 1 1 0) 5 Z64
abbrev Y51 (x0:Ya) (x1:Zi) (r:Bool):Y:=(259,[.agg (Ya.enc x0),.agg (Zi.enc x1)],bl r,un 2)
theorem Ydz {x0 x1 r}  : RM x0 x1=some r->Zq Tryz.prog Mo (Y51 x0 x1 r):=
 fK Tryz.func259<|br U0<|it (jk 3<|br Sa<|jk 1<|it (jk 5<|br Z9x<|jk 1<|br Xd<|jk 1<|rt)<|jk 7<|rt)<|jk 12<|rt
abbrev Yhb (x0:Ya) (x1:Zi) (x2:Int) (r:Ya):Y:=(281,[.agg (Ya.enc x0),.agg (Zi.enc x1),il x2],.agg (Ya.enc r),un 3)
theorem Z5j {x0 x1 x2 r} {v0}:o6 x0 x1 x2 v0=some r->CS (Yhb x0 x1 x2 r) Tryz.f281 [1,0,1] [(2,il x2),(3,pt 1),(4,pt 2),(6,pt 3),(15,bl v0)] [bx 1 (Ya.enc x0),bx 2 (Zi.enc x1),bx 3 (Ya.enc Ya.z0)]:=
 st<|it (br Z9x<|rt)<|rt
theorem Yxs {x0 x1 x2 r}  : o7 x0 x1 x2=some r->Zq Tryz.prog Mo (Yhb x0 x1 x2 r):=
 fK Tryz.func281<|br Ydz<|it (jk 4<|cx (fz 1 1 0++fz 2 1 1024++fz 3 1 2048) 5 Z5j)<|jk 4<|cx (fz 1 1 0++fz 2 1 1024++fz 3 1 2048) 5 Z5j
abbrev Yne (x0:Za) (x1:Zh) (r:Za):Y:=(244,[.agg (Za.ow x0),.agg (Zh.enc x1)],.AZ [],[.agg (Za.ow r),.undef])
theorem Zxj {x0 x1 r}  : Ue x0 x1=some r->Zq Tryz.prog Mo (Yne x0 x1 r):=
 fK Tryz.func244<|bn λCc=>jw (xd Zg.enc Cc)<|br Yzv λ{r0}=>bn λ{y0} K7=>jw (xq Zg.enc Cc y0)<|jk 1<|je Zj.enc r0.1.queue<|jo (Ls Zg.enc K7)<|it (bn λCV=>jw (xd Zk.enc CV)<|bd Ze.enc<|br Yog<|bn λCz=>jw (xp Zk.enc CV Cz)<|jk 8<|je Ze.enc x0.Ad.Ab<|jo (Jx Zg.enc K7)<|jo (Jx Zk.enc Cz)<|je Zd x0.splits<|jw (Zf.so x0.model)<|je Zs.enc x0.log<|rt)<|it (jk 1<|je Ze.enc x0.Ad.Ab<|br Yxs<|jk 8<|je Ze.enc x0.Ad.Ab<|jo (Jx Zg.enc K7)<|je Zk.enc x0.buckets<|je Zd x0.splits<|jw (Zf.so x0.model)<|je Zs.enc x0.log<|rt)<|jk 8<|je Ze.enc x0.Ad.Ab<|jo (Jx Zg.enc K7)<|je Zk.enc x0.buckets<|je Zd x0.splits<|jw (Zf.so x0.model)<|je Zs.enc x0.log<|rt
abbrev Yf8 (x0:List Int) (x1:Int) (r:Int):Y:=(282,[.tr (x0.map Zd),il x1],il r,un 2)
theorem Z4k {x0 x1 r} {v0}:o8 x0 x1 v0=some r->CS (Yf8 x0 x1 r) Tryz.f282 [1,0,1] [(0,.tr (x0.map Zd)),(1,il x1),(11,bl v0)] []:=
 st<|it rt<|js Zd x0<|jl<|bo Lt<|bb Zd<|rt
theorem Z5y {x0 x1 r}  : Uf x0 x1=some r->Zq Tryz.prog Mo (Yf8 x0 x1 r):=
 fK Tryz.func282<|js Zd x0<|it (jk 2<|cx [] 5 Z4k)<|jk 2<|cx [] 5 Z4k
abbrev Yxx (x0:Zi) (x1:Zb) (x2:Int) (r:Int):Y:=(245,[.agg (Zi.enc x0),.agg (Zb.enc x1),il x2],il r,un 3)
theorem Yzw {x0 x1 x2 r}  : o9 x0 x1 x2=some r->Zq Tryz.prog Mo (Yxx x0 x1 x2 r):=
 fK Tryz.func245<|br Z5y<|rt
abbrev Ynn (x0:Zg) (x1:Int) (r:Int):Y:=(284,[.rp true (Zg.enc x0) 0,il x1],il r,un 2)
theorem Ym4 {x0 x1 r}  : pA x0 x1=some r->Zq Tryz.prog Mo (Ynn x0 x1 r):=
 fK Tryz.func284<|bb Zj.enc<|it (bb Zd<|rt)<|rt
abbrev Y3r (x0:Zl) (r:Zl):Y:=(288,[.agg (Zl.enc x0)],.agg (Zl.ow r),un 1)
theorem Ylc {x0 r}  : bI x0=some r->Zq Tryz.prog Mo (Y3r x0 r):=
 fK Tryz.func288<|br Ke λ{r0}=>br Ke λ{r1}=>jk 2<|je Zd r0<|je Zd r1<|rt
abbrev Ysl (x0:Zf) (r:Zf):Y:=(256,[.agg (Zf.enc x0)],.agg (Zf.ow r),un 1)
theorem Z24 {x0 r}  : Ug x0=some r->Zq Tryz.prog Mo (Ysl x0 r):=
 fK Tryz.func256<|br Ke λ{r0}=>br Ylc λ{r1}=>jk 3<|je Zd r0<|jw (Zl.so r1)<|rt
abbrev Y1g (x0:Int) (r:Bool):Y:=(301,[il x0],bl r,un 1)
theorem Y18 {x0 r}  : pB x0=some r->Zq Tryz.prog Mo (Y1g x0 r):=
 fK Tryz.func301<|br Xd<|rt
abbrev Zev (x0:List Int) (r:Int):Y:=(182,[.tr (x0.map Zd),.fn 301 []],il r,un 2)
theorem Zlu {x0 r}:∀{m v0},Ja x0 m v0=some r->CS (Zev x0 r) Tryz.f182 [1,0,1,0] [(0,.tr (x0.map Zd)),(1,.fn 301 []),(7,il (x0.length:Int)),(8,il v0)] []:=by
 intro m
 induction m with
 | zero=>intro v0 h;cases h
 | succ m ih=>exact st<|it (bb Zd<|br Y18<|it rt<|cx [] 16 ih)<|rt
theorem Zpz {x0 r}  : Zai x0=some r->Zq Tryz.prog Mo (Zev x0 r):=
 fK Tryz.func182<|js Zd x0<|cx [] 6 Zlu
abbrev Znd (x0:List Int) (r:Bool):Y:=(121,[.tr (x0.map Zd),.fn 301 []],bl r,un 2)
theorem Zm2 {x0 r}  : Qr x0=some r->Zq Tryz.prog Mo (Znd x0 r):=
 fK Tryz.func121<|br Zpz<|rt
abbrev Y8a (x0:List Int) (x1:Int) (x2:Int) (r:Bool):Y:=(290,[.tr (x0.map Zd),il x1,il x2],bl r,un 3)
theorem Yh1 {x0 x1 x2 r}  : Uh x0 x1 x2=some r->Zq Tryz.prog Mo (Y8a x0 x1 x2 r):=
 fK Tryz.func290<|js Zd x0<|it (jk 1<|br Zm2<|jk 2<|it (jk 2<|br rM<|jk 1<|it (jk 2<|js Zd x0<|jk 2<|br OH<|jk 3<|rt)<|jk 7<|rt)<|jk 11<|rt)<|jk 15<|rt
abbrev Yzx (x0:Int) (r:Bool):Y:=(302,[il x0],bl r,un 1)
theorem Yxf {x0 r}  : pC x0=some r->Zq Tryz.prog Mo (Yzx x0 r):=
 fK Tryz.func302<|br RZ<|rt
abbrev Zeg (x0:List Int) (r:Int):Y:=(182,[.tr (x0.map Zd),.fn 302 []],il r,un 2)
theorem Zlf {x0 r}:∀{m v0},K1 x0 m v0=some r->CS (Zeg x0 r) Tryz.f182 [1,0,1,0] [(0,.tr (x0.map Zd)),(1,.fn 302 []),(7,il (x0.length:Int)),(8,il v0)] []:=by
 intro m
 induction m with
 | zero=>intro v0 h;cases h
 | succ m ih=>exact st<|it (bb Zd<|br Yxf<|it rt<|cx [] 16 ih)<|rt
theorem Zpj {x0 r}  : J7 x0=some r->Zq Tryz.prog Mo (Zeg x0 r):=
 fK Tryz.func182<|js Zd x0<|cx [] 6 Zlf
abbrev Zmx (x0:List Int) (r:Bool):Y:=(121,[.tr (x0.map Zd),.fn 302 []],bl r,un 2)
theorem Zc7 {x0 r}  : Wd x0=some r->Zq Tryz.prog Mo (Zmx x0 r):=
 fK Tryz.func121<|br Zpj<|rt
abbrev Y40 (x0:Zl) (r:Bool):Y:=(291,[.agg (Zl.enc x0)],bl r,un 1)
theorem Ypa {x0 r}  : bJ x0=some r->Zq Tryz.prog Mo (Y40 x0 r):=
 fK Tryz.func291<|js Zd x0.AH<|it (jk 2<|js Zd x0.A2<|jk 2<|it (jk 3<|br Zc7<|jk 2<|it (jk 3<|br Zc7<|jk 2<|it (jk 2<|br RZ<|jk 1<|rt)<|jk 3<|rt)<|jk 9<|rt)<|jk 15<|rt)<|jk 20<|rt
abbrev Yxo (x0:Zf) (r:Bool):Y:=(260,[.agg (Zf.enc x0)],bl r,un 1)
theorem Z6q {x0 r}  : RN x0=some r->Zq Tryz.prog Mo (Yxo x0 r):=
 fK Tryz.func260<|js Zd x0.mem<|it (jk 2<|br Yh1<|jk 1<|it (jk 2<|br Ypa<|jk 1<|rt)<|jk 3<|rt)<|jk 7<|rt
abbrev Yhm (x0:Int) (r:Int):Y:=(247,[il x0],il r,un 1)
theorem Z33 {x0 r} {v0}:pD x0 v0=some r->CS (Yhm x0 r) Tryz.f247 [1,0,0,1] [(0,il x0),(3,bl v0)] []:=
 st<|it rt<|it rt<|it rt<|rt
theorem Yf0 {x0 r}  : bK x0=some r->Zq Tryz.prog Mo (Yhm x0 r):=
 fK Tryz.func247<|it (jk 2<|cx [] 6 Z33)<|jk 2<|cx [] 6 Z33
abbrev U5 (x0:Zl) (x1:Bool) (x2:Int) (x3:Int) (r:Zl×Int×Bool):Y:=(266,[.agg (Zl.enc x0),bl x1,il x2,il x3],.AZ [.agg (Zl.ow r.1),il r.2.1,bl r.2.2],un 4)
theorem Zz4 {x0 x1 x2 x3 r} {Ae v0}:bL x0 x1 x2 x3 Ae v0=some r->CS (U5 x0 x1 x2 x3 r) Tryz.f266 [1,1,1,0,0,1,1,1,1,1,1,1,1,1] [(1,bl x1),(2,il x2),(3,il x3),(4,pt 1),(8,pt 2),(11,pt 5),(91,bl v0)] ([bx 1 (Zl.enc x0)]++Zl.bk Zl.z0 3++[bx 2 (Zl.rl Zl.z0 3)]++Zl.bk Ae 6++[bx 5 (Zl.rl Ae 6)]):=
 st<|it (jk 2<|jw (Zl.so Ae)<|rt)<|it (jk 1<|bn λCc=>bn λK7=>jw (xp Zd Cc K7)<|jk 2<|jo (Jx Zd K7)<|je Zd Ae.A2<|rt)<|jk 1<|bb Zd<|jk 2<|jw (Zl.so Ae)<|rt
theorem Zz8 {x0 x1 x2 x3 r} {Ae v1}:bM x0 x1 x2 x3 Ae v1=some r->CS (U5 x0 x1 x2 x3 r) Tryz.f266 [1,1,1,0,0,1,1,1,1,1,1,1] [(1,bl x1),(2,il x2),(3,il x3),(4,pt 1),(8,pt 2),(11,pt 5),(69,bl v1)] ([bx 1 (Zl.enc x0)]++Zl.bk Zl.z0 3++[bx 2 (Zl.rl Zl.z0 3)]++Zl.bk Ae 6++[bx 5 (Zl.rl Ae 6)]):=
 st<|it (bb Zd<|bn λ{s0} BT=>jp (.num (1:Int).toNat ((x0.A2.length:Int):Int).toNat 0 (s0.map Zd))<|jo (Gl BT).1<|jo (JE Zd x0.A2)<|jo (Gm Zd BT)<|jo (D3 1 FM x0.A2)<|jo (Hv Zd BT)<|br Ke λ{r0}=>jk 2<|je Zd Ae.AH<|je Zd r0<|rt)<|it (jk 6<|jw (Zl.sc Zl.z0)<|jw (Zl.sc Ae)<|cx (Az 1 7) 3 Zz4)<|jk 2<|it (jk 3<|jw (Zl.sc Zl.z0)<|jw (Zl.sc Ae)<|cx (Az 1 7) 3 Zz4)<|jk 4<|jw (Zl.sc Zl.z0)<|jw (Zl.sc Ae)<|cx (Az 1 7) 3 Zz4
theorem Zz6 {x0 x1 x2 x3 r} {Ae v2}:bN x0 x1 x2 x3 Ae v2=some r->CS (U5 x0 x1 x2 x3 r) Tryz.f266 [1,1,1,0,0,1,1,1,1,1] [(1,bl x1),(2,il x2),(3,il x3),(4,pt 1),(8,pt 2),(11,pt 5),(51,bl v2)] ([bx 1 (Zl.enc x0)]++Zl.bk Zl.z0 3++[bx 2 (Zl.rl Zl.z0 3)]++Zl.bk Ae 6++[bx 5 (Zl.rl Ae 6)]):=
 st<|it (bn λ{z0} Xr=>jt Zd [x3] z0<|jk 3<|ja 1 FM x3<|jx Zd Xr<|je Zd z0<|je Zd Ae.AH<|je Zd z0<|rt)<|it (jk 2<|it (jk 2<|js Zd x0.A2<|jk 2<|jw (Zl.sc Zl.z0)<|jw (Zl.sc Ae)<|cx (Az 1 7) 3 Zz8)<|jk 4<|jw (Zl.sc Zl.z0)<|jw (Zl.sc Ae)<|cx (Az 1 7) 3 Zz8)<|jk 7<|jw (Zl.sc Zl.z0)<|jw (Zl.sc Ae)<|cx (Az 1 7) 3 Zz8
theorem Yaq {x0 x1 x2 x3 r} {Ae v3}:pE x0 x1 x2 x3 Ae v3=some r->CS (U5 x0 x1 x2 x3 r) Tryz.f266 [1,1,1,0,0,1] [(1,bl x1),(2,il x2),(3,il x3),(4,pt 1),(8,pt 2),(11,pt 5),(32,bl v3)] ([bx 1 (Zl.enc x0)]++Zl.bk Zl.z0 3++[bx 2 (Zl.rl Zl.z0 3)]++Zl.bk Ae 6++[bx 5 (Zl.rl Ae 6)]):=
 st<|it (jk 2<|jw (Zl.so Ae)<|rt)<|it (br Yg5<|jl<|jk 2<|bo Lt<|jw (Zl.so Ae)<|rt)<|it (jk 1<|it (jk 2<|js Zd x0.A2<|jk 2<|jw (Zl.sc Zl.z0)<|jw (Zl.sc Ae)<|cx (Az 1 7) 6 Zz6)<|jk 4<|jw (Zl.sc Zl.z0)<|jw (Zl.sc Ae)<|cx (Az 1 7) 6 Zz6)<|jk 6<|jw (Zl.sc Zl.z0)<|jw (Zl.sc Ae)<|cx (Az 1 7) 6 Zz6
theorem Zz9 {x0 x1 x2 x3 r} {Ae v4}:RO x0 x1 x2 x3 Ae v4=some r->CS (U5 x0 x1 x2 x3 r) Tryz.f266 [1,1,0,1] [(1,bl x1),(2,il x2),(3,il x3),(4,pt 1),(8,pt 2),(11,pt 5),(24,bl v4)] ([bx 1 (Zl.enc x0)]++Zl.bk Zl.z0 3++[bx 2 (Zl.rl Zl.z0 3)]++Zl.bk Ae 6++[bx 5 (Zl.rl Ae 6)]):=
 st<|it (jk 2<|jw (Zl.so Ae)<|rt)<|it (jk 1<|jw (Zl.sc Zl.z0)<|jw (Zl.sc Ae)<|cx (Az 1 7) 6 Yaq)<|jk 1<|jw (Zl.sc Zl.z0)<|jw (Zl.sc Ae)<|cx (Az 1 7) 6 Yaq
theorem Y6d {x0 x1 x2 x3 r}  : pF x0 x1 x2 x3=some r->Zq Tryz.prog Mo (U5 x0 x1 x2 x3 r):=
 fK Tryz.func266<|br Ylc λ{r2}=>br Ypa<|it (jk 3<|jw (Zl.sc r2)<|cx (fz 1 1 0++fz 2 1 1024++fz 5 2 2048++Zl.ff 6 2 1024) 7 Zz9)<|jk 1<|it (jk 1<|br RZ<|jk 4<|jw (Zl.sc r2)<|cx (fz 1 1 0++fz 2 1 1024++fz 5 2 2048++Zl.ff 6 2 1024) 7 Zz9)<|jk 5<|jw (Zl.sc r2)<|cx (fz 1 1 0++fz 2 1 1024++fz 5 2 2048++Zl.ff 6 2 1024) 7 Zz9
abbrev Z8c (x0:List Int) (x1:Int) (x2:Int) (x3:Int) (r:List Int×Bool):Y:=(267,[.tr (x0.map Zd),il x1,il x2,il x3],.AZ [.own 3 (r.1.map Zd),bl r.2],un 4)
theorem Ym0 {x0 x1 x2 x3 r}:∀{m v0 v1 v2},pG x0 x1 x2 x3 m v0 v1 v2=some r->CS (Z8c x0 x1 x2 x3 r) Tryz.f267 [1,1,1,0,1,0] [(1,il x1),(3,il x3),(10,sq 1 (v0.map Zd).length),(27,il v1),(28,il v2)] [rx 1 3 (v0.map Zd)]:=by
 intro m
 induction m with
 | zero=>intro v0 v1 v2 h;cases h
 | succ m ih=>exactλ{v0} {v1} {v2}=>st<|it (jl<|bo T5<|bn λCc=>bn λ{y0} K7=>jw (xp Zd Cc K7)<|jp (.num (y0.map Zd).length 0 0 [])<|jo (Jx Zd K7)<|cx (Az 1 1) 13 ih)<|jk 1<|je Zd v0<|rt
theorem Z62 {x0 x1 x2 x3 r} {v0 v3}:pH x0 x1 x2 x3 v0 v3=some r->CS (Z8c x0 x1 x2 x3 r) Tryz.f267 [1,1,0,1] [(1,il x1),(2,il x2),(3,il x3),(10,sq 1 (v0.map Zd).length),(24,bl v3)] [rx 1 3 (v0.map Zd)]:=
 st<|it (jk 1<|je Zd v0<|rt)<|br OH<|jn Zd v0<|cx (Az 1 1) 6 Ym0
theorem Y3m {x0 x1 x2 x3 r}  : pI x0 x1 x2 x3=some r->Zq Tryz.prog Mo (Z8c x0 x1 x2 x3 r):=
 fK Tryz.func267<|br Ke λ{r1}=>br Yh1<|it (jk 4<|jn Zd r1<|cx (fz 1 2 1024) 7 Z62)<|jk 2<|br RZ<|jk 2<|jn Zd r1<|cx (fz 1 2 1024) 7 Z62
abbrev Yjk (x0:List Int) (x1:Int) (x2:Int) (r:Int×Bool):Y:=(268,[.tr (x0.map Zd),il x1,il x2],.AZ [il r.1,bl r.2],un 3)
theorem Ynv {x0 x1 x2 r}:∀{m v0 v1 v2},pJ x0 x1 x2 m v0 v1 v2=some r->CS (Yjk x0 x1 x2 r) Tryz.f268 [1,1,1,0,1,0] [(0,.tr (x0.map Zd)),(1,il x1),(8,il v0),(16,il v1),(17,il v2)] []:=by
 intro m
 induction m with
 | zero=>intro v0 v1 v2 h;cases h
 | succ m ih=>exact st<|it (bb Zd<|jl<|bo T5<|cx [] 13 ih)<|rt
theorem Y2n {x0 x1 x2 r}  : pK x0 x1 x2=some r->Zq Tryz.prog Mo (Yjk x0 x1 x2 r):=
 fK Tryz.func268<|br Yh1<|it rt<|br OH<|cx [] 13 Ynv
abbrev dB (x0:Zf) (x1:Bool) (x2:Int) (x3:Int) (x4:Int) (r:Zf×Int×Int):Y:=(219,[.agg (Zf.enc x0),bl x1,il x2,il x3,il x4],.AZ [.agg (Zf.ow r.1),il r.2.1,il r.2.2],un 5)
theorem rO {x0 x1 x2 x3 x4 r} {Ae v0 v1}:Ui x0 x1 x2 x3 x4 Ae v0 v1=some r->CS (dB x0 x1 x2 x3 x4 r) Tryz.f219 [1,1,1,1,1] [(4,il v0),(5,pt 1),(10,pt 2),(13,pt 6),(14,bl v1)] ([bx 1 (Zf.enc x0)]++Zf.bk Zf.z0 3++[bx 2 (Zf.rl Zf.z0 3)]++Zf.bk Ae 7++[bx 6 (Zf.rl Ae 7)]):=
 st<|it (br Z24 λ{r0}=>jk 3<|jw (Zf.so r0)<|rt)<|jk 3<|jw (Zf.so Ae)<|rt
theorem Z4q {x0 x1 x2 x3 x4 r} {Ae v2}:pL x0 x1 x2 x3 x4 Ae v2=some r->CS (dB x0 x1 x2 x3 x4 r) Tryz.f219 [1,1,1,1,0,1,0,1,1,1] [(1,bl x1),(2,il x2),(3,il x3),(4,il x4),(5,pt 1),(10,pt 2),(13,pt 6),(14,bl false),(58,bl v2)] ([bx 1 (Zf.enc x0)]++Zf.bk Zf.z0 3++[bx 2 (Zf.rl Zf.z0 3)]++Zf.bk Ae 7++[bx 6 (Zf.rl Ae 7)]):=
 st<|it (it (br Y3m λ{r1}=>jw (Zf.sc Zf.z0)<|jw (Zf.sc (Zf.mk r1.1 Ae.dev))<|cx (Az 1 6++fz 7 3 5120++Az 8 2) 6 rO)<|br Y2n<|jw (Zf.sc Zf.z0)<|jw (Zf.sc Ae)<|cx (Az 1 9) 6 rO)<|jw (Zf.sc Zf.z0)<|jw (Zf.sc Ae)<|cx (Az 1 9) 3 rO
theorem Z5k {x0 x1 x2 x3 x4 r} {Ae v3 v4}:pM x0 x1 x2 x3 x4 Ae v3 v4=some r->CS (dB x0 x1 x2 x3 x4 r) Tryz.f219 [1,1,1,1,0,1,0,1] [(1,bl x1),(2,il x2),(3,il x3),(4,il x4),(5,pt 1),(10,pt 2),(13,pt 6),(14,bl false),(15,il v3),(39,bl v4)] ([bx 1 (Zf.enc x0)]++Zf.bk Zf.z0 3++[bx 2 (Zf.rl Zf.z0 3)]++Zf.bk Ae 7++[bx 6 (Zf.rl Ae 7)]):=
 st<|it (br Y6d λ{r3}=>jw (Zf.sc Zf.z0)<|jw (Zf.sc (Zf.mk Ae.mem r3.1))<|cx (Az 1 7++fz 8 2 6144++fz 9 2 6146) 3 rO)<|it (jk 2<|jw (Zf.sc Zf.z0)<|jw (Zf.sc Ae)<|cx (Az 1 9) 3 Z4q)<|jk 2<|jw (Zf.sc Zf.z0)<|jw (Zf.sc Ae)<|cx (Az 1 9) 3 Z4q
theorem rP {x0 x1 x2 x3 x4 r} {Ae v5}:J2 x0 x1 x2 x3 x4 Ae v5=some r->CS (dB x0 x1 x2 x3 x4 r) Tryz.f219 [1,1,0,1] [(1,bl x1),(2,il x2),(3,il x3),(4,il x4),(5,pt 1),(10,pt 2),(13,pt 6),(35,bl v5)] ([bx 1 (Zf.enc x0)]++Zf.bk Zf.z0 3++[bx 2 (Zf.rl Zf.z0 3)]++Zf.bk Ae 7++[bx 6 (Zf.rl Ae 7)]):=
 st<|it (jk 3<|jw (Zf.so Ae)<|rt)<|br Yf0<|it (jk 2<|jw (Zf.sc Zf.z0)<|jw (Zf.sc Ae)<|cx (Az 1 9) 10 Z5k)<|jk 2<|jw (Zf.sc Zf.z0)<|jw (Zf.sc Ae)<|cx (Az 1 9) 10 Z5k
theorem Yf3 {x0 x1 x2 x3 x4 r}  : bQ x0 x1 x2 x3 x4=some r->Zq Tryz.prog Mo (dB x0 x1 x2 x3 x4 r):=
 fK Tryz.func219<|br Z24 λ{r5}=>br Z6q<|it (jk 8<|jw (Zf.sc r5)<|cx (fz 1 1 0++fz 2 1 1024++fz 6 2 2048++Zf.ff 7 2 1024) 7 rP)<|jk 2<|br rM<|jk 2<|it (jk 3<|jw (Zf.sc r5)<|cx (fz 1 1 0++fz 2 1 1024++fz 6 2 2048++Zf.ff 7 2 1024) 7 rP)<|jk 1<|it (jk 2<|br RZ<|jk 4<|jw (Zf.sc r5)<|cx (fz 1 1 0++fz 2 1 1024++fz 6 2 2048++Zf.ff 7 2 1024) 7 rP)<|jk 6<|jw (Zf.sc r5)<|cx (fz 1 1 0++fz 2 1 1024++fz 6 2 2048++Zf.ff 7 2 1024) 7 rP
abbrev Y1w (x0:Za) (x1:Zh) (r:Zf×Int×Int):Y:=(248,[.rp true (Za.enc x0) 0,.agg (Zh.enc x1)],.AZ [.agg (Zf.ow r.1),il r.2.1,il r.2.2],un 2)
theorem Ykl {x0 x1 r}  : bR x0 x1=some r->Zq Tryz.prog Mo (Y1w x0 x1 r):=
 fK Tryz.func248<|bb Zg.enc<|bb Zj.enc<|br c8<|br Ym4<|br Yf3 λ{r2}=>jk 3<|jw (Zf.so r2.1)<|rt
abbrev Yku (x0:Zg) (r:Zg×Bool):Y:=(283,[.agg (Zg.enc x0)],.AZ [.agg [.own 41 (r.1.queue.map Zj.enc),il r.1.An,il r.1.done,il r.1.tries,bl r.1.Ax,bl r.1.broken],bl r.2],un 1)
theorem Z72 {x0 r} {Ae v0}:pN x0 Ae v0=some r->CS (Yku x0 r) Tryz.f283 [1,1,0,1] [(2,pt 1),(4,pt 3),(16,bl v0)] [rx 2 41 ([].map Zj.enc),bx 1 [sq 2 ([].map Zj.enc).length,il 0,il 0,il 0,bl false,bl false],rx 4 41 (Ae.queue.map Zj.enc),bx 3 [sq 4 (Ae.queue.map Zj.enc).length,il Ae.An,il Ae.done,il Ae.tries,bl Ae.Ax,bl Ae.broken]]:=
 st<|it (jk 1<|je Zj.enc Ae.queue<|rt)<|jk 1<|je Zj.enc Ae.queue<|br c7<|it (jp (.num (1:Int).toNat ((Ae.queue.length:Int):Int).toNat (((Ae.queue.length:Int):Int).toNat - (1:Int).toNat) [])<|jk 1<|bn λ{s0} BT=>jp (.mk 0 (s0.map Zj.enc))<|je Zj.enc Ae.queue<|jo (Gl BT).1<|jo (JE Zj.enc Ae.queue)<|jo (Gm Zj.enc BT)<|jo (D3 6 Zj.AE Ae.queue)<|jo (Eq.refl (((Ae.queue.length:Int):Int).toNat - (1:Int).toNat))<|jo (kC Zj.enc BT)<|jo (Hv Zj.enc BT)<|rt)<|jk 1<|je Zj.enc Ae.queue<|rt
theorem Y2g {x0 r}  : pO x0=some r->Zq Tryz.prog Mo (Yku x0 r):=
 fK Tryz.func283<|br dA λ{r1}=>br U4<|it (jk 5<|jn Zj.enc r1.queue<|cx (fz 1 1 1024++fz 3 2 2048++fz 4 2 1024) 7 Z72)<|jk 5<|jn Zj.enc r1.queue<|cx (fz 1 1 1024++fz 3 2 2048++fz 4 2 1024) 7 Z72
abbrev Ytt (x0:Za) (r:Za):Y:=(211,[.agg (Za.ow x0)],.AZ [],[.agg (Za.ow r)])
theorem Ybr {x0 r}  : bS x0=some r->Zq Tryz.prog Mo (Ytt x0 r):=
 fK Tryz.func211<|jk 8<|jw (Za.so x0)<|rt
abbrev rQ (x0:Za) (x1:Zh) (r:Za):Y:=(246,[.agg (Za.ow x0),.agg (Zh.enc x1)],.AZ [],[.agg (Za.ow r),.undef])
theorem Zwn {x0 x1 r} {Ae A1}:pP x0 x1 Ae A1=some r->CS (rQ x0 x1 r) Tryz.f246 [1,1,1,1,1,1,1,1] [(0,.ptr (0,63) 0 0),(3,pt 9),(10,pt 10)] (Za.bk Ae 1++[((0,63),⟨true,true,true,0,[(Za.rl Ae 1)]⟩),bx 9 (Zh.enc x1),rx 11 41 (A1.queue.map Zj.enc),bx 10 [sq 11 (A1.queue.map Zj.enc).length,il A1.An,il A1.done,il A1.tries,bl A1.Ax,bl A1.broken]]):=
 st<|bn λCc=>bn λ{y0} K7=>jw (xq Zg.enc Cc y0)<|jk 9<|je Zj.enc A1.queue<|jo (Ls Zg.enc K7)<|je Ze.enc Ae.Ad.Ab<|jo (Jx Zg.enc K7)<|je Zk.enc Ae.buckets<|je Zd Ae.splits<|jw (Zf.so Ae.model)<|je Zs.enc Ae.log<|rt
theorem Zwj {x0 x1 r} {Ae A1 v0}:pQ x0 x1 Ae A1 v0=some r->CS (rQ x0 x1 r) Tryz.f246 [1,1,1,1,1,1,1,0,1] [(0,.ptr (0,63) 0 0),(3,pt 9),(10,pt 10),(87,bl v0)] (Za.bk Ae 1++[((0,63),⟨true,true,true,0,[(Za.rl Ae 1)]⟩),bx 9 (Zh.enc x1),rx 11 41 (A1.queue.map Zj.enc),bx 10 [sq 11 (A1.queue.map Zj.enc).length,il A1.An,il A1.done,il A1.tries,bl A1.Ax,bl A1.broken]]):=
 st<|it (jk 8<|jw (Za.so Ae)<|br Ybr λ{r0}=>jw (Za.sc r0)<|jn Zj.enc A1.queue<|cx (Za.ff 1 2 1536++Az 9 3) 2 Zwn)<|jw (Za.sc Ae)<|jn Zj.enc A1.queue<|cx (Az 1 11) 2 Zwn
theorem Zvj {x0 x1 r} {Ae A1 AI}:bT x0 x1 Ae A1 AI=some r->CS (rQ x0 x1 r) Tryz.f246 [1,1,1,1,1] [(0,.ptr (0,63) 0 0),(3,pt 9),(4,pt 10),(6,pt 11)] (Za.bk Ae 1++[((0,63),⟨true,true,true,0,[(Za.rl Ae 1)]⟩),bx 9 (Zh.enc x1),bx 10 (Zg.enc A1),bx 11 (Zs.enc AI)]):=
 st<|bn λ{z0} Xr=>jt Zs.enc [AI] z0<|jk 1<|ja 7 Zs.AE AI<|jx Zs.enc Xr<|je Zs.enc z0<|br Y2g λ{r1}=>it (jk 2<|js Zj.enc r1.1.queue<|jk 3<|js Zj.enc A1.queue<|jk 2<|jw (Za.sc {Ae with log:=z0})<|jn Zj.enc r1.1.queue<|cx (Az 1 7++fz 8 2 7168++Az 9 1++fz 10 3 5120++fz 11 3 1024) 7 Zwj)<|jk 7<|jw (Za.sc {Ae with log:=z0})<|jn Zj.enc r1.1.queue<|cx (Az 1 7++fz 8 2 7168++Az 9 1++fz 10 3 5120++fz 11 3 1024) 7 Zwj
theorem Yip {x0 x1 r}  : pR x0 x1=some r->Zq Tryz.prog Mo (rQ x0 x1 r):=
 fK Tryz.func246<|bd Zg.enc<|bb Zj.enc<|br c8<|it (jk 8<|jw (Za.so x0)<|br Ykl λ{r3}=>jw (Za.sc {x0 with model:=r3.1})<|cx (fz 1 0 0++fz 2 0 7++fz 3 0 10++fz 4 0 11++fz 5 6 2048++fz 6 6 2049++fz 7 6 2051++fz 8 0 36++fz 9 1 0++fz 10 2 8192++fz 11 4 17408) 17 Zvj)<|jw (Za.sc x0)<|cx (Za.ff 1 0 0++fz 9 1 0++fz 10 2 8192++fz 11 4 17408) 13 Zvj
abbrev Zw9 (x0:Za) (x1:Zb) (x2:Zp) (r:Bool×Za×Zp):Y:=(210,[.agg (Za.ow x0),.agg (Zb.enc x1),.agg [il x2.A3,il x2.addr,il x2.kind,il x2.Ah,il x2.Aa,il x2.from_,bl x2.ready,il x2.Ap,il x2.C0]],bl r.1,[.agg (Za.ow r.2.1),.undef,.agg [il r.2.2.A3,il r.2.2.addr,il r.2.2.kind,il r.2.2.Ah,il r.2.2.Aa,il r.2.2.from_,bl r.2.2.ready,il r.2.2.Ap,il r.2.2.C0]])
theorem Zzb {x0 x1 x2 r} {Ae}:pS x0 x1 x2 Ae=some r->CS (Zw9 x0 x1 x2 r) Tryz.f210 [1,1,1,1,0,1,0,1,1] [] (Za.bk Ae 1++[((0,63),⟨true,true,true,0,[(Za.rl Ae 1)]⟩),((0,191),⟨true,true,true,0,[(Zp.enc {x2 with Ap:=x0.Aa.Ap})]⟩)]):=
 st<|jk 8<|jw (Za.so Ae)<|rt
theorem Zzl {x0 x1 x2 r} {v0}:Uj x0 x1 x2 v0=some r->CS (Zw9 x0 x1 x2 r) Tryz.f210 [1,1,1,1,0,1] [(0,.ptr (0,63) 0 0),(4,pt 9),(7,pt 10),(41,bl v0)] (Za.bk x0 1++[((0,63),⟨true,true,true,0,[(Za.rl x0 1)]⟩),((0,191),⟨true,true,true,0,[(Zp.enc {x2 with Ap:=x0.Aa.Ap})]⟩),bx 9 (Zb.enc x1),bx 10 (Zh.enc x0.Aa)]):=
 st<|it (it (jk 8<|jw (Za.so x0)<|br Zxj λ{r0}=>jw (Za.sc {r0 with addr:=Zh.z0})<|cx (Za.ff 1 4 5632) 10 Zzb)<|jw (Za.sc {x0 with Aa:={x0.Aa with second:=true}})<|cx (Az 1 8) 8 Zzb)<|it (bn λCc=>jw (xd Zg.enc Cc)<|bn λK7=>jw (xp Zg.enc Cc K7)<|jk 8<|je Ze.enc x0.Ad.Ab<|jo (Jx Zg.enc K7)<|je Zk.enc x0.buckets<|je Zd x0.splits<|jw (Zf.so x0.model)<|je Zs.enc x0.log<|br Zxj λ{r1}=>jk 8<|jw (Za.so r1)<|rt)<|it (bn λCV=>bn λCz=>jw (xp Zg.enc CV Cz)<|jk 1<|je Ze.enc x0.Ad.Ab<|br Yzw<|bn λDM=>bn λDL=>jw (xp Zd DM DL)<|jk 8<|je Ze.enc x0.Ad.Ab<|jo (Jx Zg.enc Cz)<|je Zk.enc x0.buckets<|jo (Jx Zd DL)<|jw (Zf.so x0.model)<|je Zs.enc x0.log<|br Zxj λ{r3}=>jk 8<|jw (Za.so r3)<|rt)<|jk 8<|jw (Za.so x0)<|br Yip λ{r4}=>jk 8<|jw (Za.so r4)<|rt
theorem Yob {x0 x1 x2 r}  : pT x0 x1 x2=some r->Zq Tryz.prog Mo (Zw9 x0 x1 x2 r):=
 fK Tryz.func210<|it (jk 8<|jw (Za.so x0)<|rt)<|it (jk 8<|jw (Za.so x0)<|rt)<|it (jk 3<|jw (Za.sc x0)<|cx (Za.ff 1 0 0++fz 9 1 0++fz 10 2 4096) 19 Zzl)<|jk 3<|jw (Za.sc x0)<|cx (Za.ff 1 0 0++fz 9 1 0++fz 10 2 4096) 19 Zzl
abbrev Y1v (x0:Zi) (x1:Zb) (x2:Int) (r:Int):Y:=(249,[.agg (Zi.enc x0),.agg (Zb.enc x1),il x2],il r,un 3)
theorem Y3v {x0 x1 x2 r}  : pU x0 x1 x2=some r->Zq Tryz.prog Mo (Y1v x0 x1 x2 r):=
 fK Tryz.func249<|br Z5y<|rt
abbrev Y1l (x0:Zb) (x1:Int) (r:Int):Y:=(250,[.agg (Zb.enc x0),il x1],il r,un 2)
theorem Y2u {x0 x1 r}  : pV x0 x1=some r->Zq Tryz.prog Mo (Y1l x0 x1 r):=
 fK Tryz.func250<|br Z5y<|it (jk 3<|rt)<|jk 2<|it rt<|rt
abbrev rR (x0:Za) (x1:Zb) (x2:Zh) (r:Int×Int):Y:=(212,[.rp true (Za.enc x0) 0,.agg (Zb.enc x1),.agg (Zh.enc x2)],.AZ [il r.1,il r.2],un 3)
theorem Zpp {x0 x1 x2 r} {Ae v0 v1 v2 v3 v4}:K5 x0 x1 x2 Ae v0 v1 v2 v3 v4=some r->CS (rR x0 x1 x2 r) Tryz.f212 [1,1,1,1,1,1,1,0,1,0,1] [(0,.rp true (Za.enc x0) 0),(5,pt 1),(8,pt 2),(9,il v0),(12,il v1),(13,il v2),(14,il v3),(61,bl v4)] [bx 1 (Zh.enc x2),bx 2 (Zg.enc Ae)]:=
 st<|it rt<|it (jk 2<|it (jk 3<|it (jk 7<|it rt<|rt)<|jk 8<|rt)<|jk 12<|rt)<|jk 15<|rt
theorem Zzo {x0 x1 x2 r} {A1 v0 v1 v2}:bU x0 x1 x2 A1 v0 v1 v2=some r->CS (rR x0 x1 x2 r) Tryz.f212 [1,1,1,1,1,1,1] [(0,.rp true (Za.enc x0) 0),(4,pt 1),(5,pt 2),(8,pt 3),(9,il v0),(12,il v1),(13,il v2)] [bx 1 (Zb.enc x1),bx 2 (Zh.enc x2),bx 3 (Zg.enc A1)]:=
 st<|br Y2u<|it (jk 2<|it (jk 8<|cx (fz 1 1 2++fz 2 1 3) 6 Zpp)<|jk 8<|cx (fz 1 1 2++fz 2 1 3) 6 Zpp)<|jk 11<|cx (fz 1 1 2++fz 2 1 3) 6 Zpp
theorem Zy4 {x0 x1 x2 r} {A1 v0 v5}:RP x0 x1 x2 A1 v0 v5=some r->CS (rR x0 x1 x2 r) Tryz.f212 [1,1,1,0,1] [(0,.rp true (Za.enc x0) 0),(4,pt 1),(5,pt 2),(8,pt 3),(9,il v0),(33,bl v5)] [bx 1 (Zb.enc x1),bx 2 (Zh.enc x2),bx 3 (Zg.enc A1)]:=
 st<|it rt<|br Ykl<|br Y3v<|it (cx (Az 1 3) 11 Zzo)<|cx (Az 1 3) 11 Zzo
theorem Ynp {x0 x1 x2 r}  : pW x0 x1 x2=some r->Zq Tryz.prog Mo (rR x0 x1 x2 r):=
 fK Tryz.func212<|bb Zg.enc<|br c8<|br Yf0<|it (jk 2<|cx (fz 1 1 0++fz 2 1 1024++fz 3 2 8192) 9 Zy4)<|jk 2<|cx (fz 1 1 0++fz 2 1 1024++fz 3 2 8192) 9 Zy4
abbrev Yvb (x0:Zg) (r:Bool):Y:=(285,[.agg (Zg.enc x0)],bl r,un 1)
theorem Yds {x0 r}  : bV x0=some r->Zq Tryz.prog Mo (Yvb x0 r):=
 fK Tryz.func285<|br U4<|it (jk 2<|br c7<|jk 2<|rt)<|jk 4<|rt
abbrev Z7v (x0:Zk) (x1:Ze) (r:Zk×Bool):Y:=(286,[.agg (Zk.enc x0),.agg (Ze.enc x1)],.AZ [.agg (Zk.enc r.1),bl r.2],un 2)
theorem Zyw {x0 x1 r} {v0}:pX x0 x1 v0=some r->CS (Z7v x0 x1 r) Tryz.f286 [1,0,1] [(2,pt 1),(4,pt 2),(14,bl v0)] [bx 1 (Zk.enc x0),bx 2 (Zk.enc Zk.z0)]:=
 st<|it rt<|rt
theorem Yok {x0 x1 r}  : pY x0 x1=some r->Zq Tryz.prog Mo (Z7v x0 x1 r):=
 fK Tryz.func286<|br Z8b<|it (jk 3<|cx (fz 1 1 0++fz 2 1 2048) 5 Zyw)<|jk 3<|cx (fz 1 1 0++fz 2 1 2048) 5 Zyw
abbrev rS (x0:Ya) (x1:Zi) (x2:List Bool) (r:Ya×Int):Y:=(287,[.agg (Ya.enc x0),.agg (Zi.enc x1),.tr (x2.map Z9)],.AZ [.agg (Ya.enc r.1),il r.2],un 3)
theorem Yjj {x0 x1 x2 r}:∀{m v0},pZ x0 x1 x2 m v0=some r->CS (rS x0 x1 x2 r) Tryz.f287 [1,1,1,1,0,1,0] [(2,.tr (x2.map Z9)),(3,pt 1),(4,pt 2),(6,pt 3),(8,il (x1.Ab.length:Int)),(9,il v0)] [bx 1 (Ya.enc x0),bx 2 (Zi.enc x1),bx 3 (Ya.enc Ya.z0)]:=by
 intro m
 induction m with
 | zero=>intro v0 h;cases h
 | succ m ih=>exact st<|it (jl<|bo Lt<|bb Z9<|it (br Z9x<|rt)<|cx (Az 1 3) 16 ih)<|rt
theorem Z5b {x0 x1 x2 r} {v1}:p5 x0 x1 x2 v1=some r->CS (rS x0 x1 x2 r) Tryz.f287 [1,1,1,0,1] [(2,.tr (x2.map Z9)),(3,pt 1),(4,pt 2),(6,pt 3),(8,il (x1.Ab.length:Int)),(34,bl v1)] [bx 1 (Ya.enc x0),bx 2 (Zi.enc x1),bx 3 (Ya.enc Ya.z0)]:=
 st<|it rt<|cx (Az 1 3) 6 Yjj
theorem Z5h {x0 x1 x2 r} {v2}:p6 x0 x1 x2 v2=some r->CS (rS x0 x1 x2 r) Tryz.f287 [1,1,0,1] [(2,.tr (x2.map Z9)),(3,pt 1),(4,pt 2),(6,pt 3),(8,il (x1.Ab.length:Int)),(23,bl v2)] [bx 1 (Ya.enc x0),bx 2 (Zi.enc x1),bx 3 (Ya.enc Ya.z0)]:=
 st<|it rt<|it (jk 3<|bb Z9<|jk 2<|cx (Az 1 3) 5 Z5b)<|jk 5<|cx (Az 1 3) 5 Z5b
theorem Yw8 {x0 x1 x2 r}  : p7 x0 x1 x2=some r->Zq Tryz.prog Mo (rS x0 x1 x2 r):=
 fK Tryz.func287<|js Ze.enc x1.Ab<|br Ydz<|it (jk 4<|cx (fz 1 1 0++fz 2 1 1024++fz 3 1 2048) 7 Z5h)<|jk 1<|js Z9 x2<|jk 3<|cx (fz 1 1 0++fz 2 1 1024++fz 3 1 2048) 7 Z5h
abbrev rT (x0:Za) (r:Int×Int×Za):Y:=(251,[.agg (Za.ow x0)],.AZ [il r.1,il r.2.1],[.agg (Za.ow r.2.2)])
theorem Yhx {x0 r}:∀{m v0 v1 v2},bY x0 m v0 v1 v2=some r->CS (rT x0 r) Tryz.f251 [1,1,1,1,0,1,0] [(0,.ptr (0,63) 0 0),(4,sq 9 (v0.map Z9).length),(73,sq 9 (v0.map Z9).length),(74,il v1),(75,il v2)] (Za.bk x0 1++[((0,63),⟨true,true,true,0,[(Za.rl x0 1)]⟩),rx 9 4 (v0.map Z9)]):=by
 intro m
 induction m with
 | zero=>intro v0 v1 v2 h;cases h
 | succ m ih=>exactλ{v0} {v1} {v2}=>st<|it (bd Z9<|it (jn Z9 v0<|jn Z9 v0<|jw (Za.sc x0)<|cx (Az 1 9) 18 ih)<|bn λCV=>jw (xd Zk.enc CV)<|bd Ze.enc<|br Yok<|it (bn λK7=>jw (xp Zk.enc CV K7)<|jk 8<|je Ze.enc x0.Ad.Ab<|je Zg.enc x0.m<|jo (Jx Zk.enc K7)<|je Zd x0.splits<|jw (Zf.so x0.model)<|je Zs.enc x0.log<|rt)<|jn Z9 v0<|jn Z9 v0<|jw (Za.sc x0)<|cx (Az 1 9) 23 ih)<|it (jk 8<|jw (Za.so x0)<|rt)<|jk 2<|je Ze.enc x0.Ad.Ab<|je Z9 v0<|br Yw8<|jk 8<|jw (Za.so x0)<|rt
theorem Z11 {x0 r} {v0 v3}:p8 x0 v0 v3=some r->CS (rT x0 r) Tryz.f251 [1,1,1,0,1] [(0,.ptr (0,63) 0 0),(4,sq 9 (v0.map Z9).length),(68,bl v3)] (Za.bk x0 1++[((0,63),⟨true,true,true,0,[(Za.rl x0 1)]⟩),rx 9 4 (v0.map Z9)]):=
 st<|it (jk 8<|jw (Za.so x0)<|rt)<|js Z9 v0<|jn Z9 v0<|jn Z9 v0<|jw (Za.sc x0)<|cx (Az 1 9) 6 Yhx
end Go.Proofs.YthdljdelfgofdaaGreatDoor.Ev
