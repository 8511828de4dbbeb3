/- A part of the proof of FnDeskWorks: see the text YthdljdelfgofdaaGreatDoorLawFnDeskWorks for what is proved and its conditions. Conditions here: those in each line. -/
import Derived.Test.YthdljdelfgofdaaGreatDoorA4
set_option linter.unusedSimpArgs false
set_option linter.unusedVariables false
set_option linter.unusedSectionVars false
namespace Go.Proofs.YthdljdelfgofdaaGreatDoor.Ev
open Go Go.Proofs
variable [Anchor] [BF]
abbrev Ygd (x0:ByteArray) (x1:Int) (r:List ByteArray):Y:=(23,[ss x0,iu x1],.own 9 (r.map Zv),un 2)
theorem Yrm {x0 x1 r}:∀{m v0 v1 v2},YY x0 x1 m v0 v1 v2=some r->CS (Ygd x0 x1 r) Tryz.f23 [1,1,1,0,1,0] [(0,ss x0),(1,iu x1),(5,sq 1 (v0.map Zv).length),(6,il v1),(7,il v2)] [rx 1 9 (v0.map Zv)]:=by
 intro m
 induction m with
 | zero=>intro v0 v1 v2 h;cases h
 | succ m ih=>exactλ{v0} {v1} {v2}=>st<|it (bn λ{a0} Cc=>jp (.val (.lit (.int .u8 a0)))<|jo (YX Cc)<|it (bn λ{s0} BT=>jp (.val (.lit (.string s0)))<|bn λ{z0} Xr=>jt Zv [s0] z0<|jk 1<|jo (ssx BT)<|ja 1 FN s0<|jx Zv Xr<|jn Zv z0<|je Zv z0<|cx (fz 1 4 6144) 16 ih)<|jn Zv v0<|cx (Az 1 1) 14 ih)<|bn λ{s1} C5=>jp (.val (.lit (.string s1)))<|bn λ{z1} EO=>jt Zv [s1] z1<|jk 2<|jo (zD C5)<|ja 1 FN s1<|jx Zv EO<|je Zv z1<|je Zv z1<|rt
theorem Yxr {x0 x1 r}  : Wy x0 x1=some r->Zq Tryz.prog Mo (Ygd x0 x1 r):=
 fK Tryz.func23<|jp (.num ([].map Zv).length 0 0 [])<|jo (show 0=([].map Zv).length from rfl)<|cx (fz 1 2 0) 10 Yrm
abbrev Y5g (x0:ByteArray) (x1:Int) (r:List ByteArray):Y:=(23,[ss x0,iu x1],.tr (r.map Zv),un 2)
theorem Ypk {x0:ByteArray} {x1:Int} {r:List ByteArray} (h:Wy x0 x1=some r):Zq Tryz.prog Mo (Y5g x0 x1 r):=Y8e (by kernel_rfl) (Yxr h)
abbrev Y7h (x0:Int) (x1:Int) (x2:Int) (r:Bool):Y:=(78,[il x0,il x1,il x2],bl r,un 3)
theorem Yd {x0 x1 x2 r}  : Z2 x0 x1 x2=some r->Zq Tryz.prog Mo (Y7h x0 x1 x2 r):=
 fK Tryz.func78<|it (jk 3<|rt)<|jk 3<|rt
abbrev Ymg (x0:Zi) (r:Int):Y:=(130,[.agg (Zi.enc x0)],il r,un 1)
theorem Z7s {x0 r} {v0}:kH x0 v0=some r->CS (Ymg x0 r) Tryz.f130 [1,0,1] [(1,pt 1),(12,bl v0)] [bx 1 (Zi.enc x0)]:=
 st<|it rt<|rt
theorem Z85 {x0 r}  : Ro x0=some r->Zq Tryz.prog Mo (Ymg x0 r):=
 fK Tryz.func130<|br Yd<|it (jk 4<|cx (fz 1 1 0) 5 Z7s)<|jk 2<|br Yd<|jk 2<|cx (fz 1 1 0) 5 Z7s
abbrev Y17 (x0:Zi) (r:Int):Y:=(79,[.agg (Zi.enc x0)],il r,un 1)
theorem Yjt {x0 r}  : Oq x0=some r->Zq Tryz.prog Mo (Y17 x0 r):=
 fK Tryz.func79<|br Z85<|it (jk 5<|rt)<|jk 2<|br Yd<|jk 2<|it rt<|br Z85<|rt
abbrev Yvg (x0:Zi) (r:Bool):Y:=(80,[.agg (Zi.enc x0)],bl r,un 1)
theorem Yvz {x0 r}  : kI x0=some r->Zq Tryz.prog Mo (Yvg x0 r):=
 fK Tryz.func80<|br Yd<|it (jk 1<|br Z85<|jk 2<|it (jk 2<|br Yd<|jk 1<|it (jk 2<|br Yd<|jk 1<|rt)<|jk 3<|rt)<|jk 7<|rt)<|jk 11<|rt
abbrev Yac (x0:Zi) (r:Bool):Y:=(41,[.agg (Zi.enc x0)],bl r,un 1)
theorem Yof {x0 r}:∀{m v0 v1},Ot x0 m v0 v1=some r->CS (Yac x0 r) Tryz.f41 [1,1,1,0,1,0] [(1,pt 1),(3,il v0),(5,il v1)] [bx 1 (Zi.enc x0)]:=by
 intro m
 induction m with
 | zero=>intro v0 v1 h;cases h
 | succ m ih=>exact st<|js Ze.enc x0.Ab<|it (bb Ze.enc<|br Yd<|it (jk 11<|rt)<|jk 3<|it (jk 3<|it (jk 13<|rt)<|jk 7<|it (jk 5<|rt)<|jk 2<|it (jk 5<|br Yjt<|jk 2<|br Yd<|jk 2<|it (jk 9<|rt)<|jk 2<|br Yd<|jk 6<|it rt<|cx (Az 1 1) 16 ih)<|jk 14<|cx (Az 1 1) 16 ih)<|jk 10<|it (jk 5<|br Yjt<|jk 2<|br Yd<|jk 2<|it (jk 9<|rt)<|jk 2<|br Yd<|jk 6<|it rt<|cx (Az 1 1) 16 ih)<|jk 14<|cx (Az 1 1) 16 ih)<|js Ze.enc x0.Ab<|br Yd<|it (jk 1<|br Yvz<|jk 1<|rt)<|jk 2<|rt
theorem Ynx {x0 r}:∀{m v0 v2},kJ x0 m v0 v2=some r->CS (Yac x0 r) Tryz.f41 [1,1,0,1,0] [(1,pt 1),(3,il v0),(4,il v2)] [bx 1 (Zi.enc x0)]:=by
 intro m
 induction m with
 | zero=>intro v0 v2 h;cases h
 | succ m ih=>exact st<|js Ze.enc x0.Ab<|it (bb Ze.enc<|it (cx (Az 1 1) 14 ih)<|cx (Az 1 1) 14 ih)<|cx (Az 1 1) 13 Yof
theorem Uu {x0 r}  : MI x0=some r->Zq Tryz.prog Mo (Yac x0 r):=
 fK Tryz.func41<|cx (fz 1 1 0) 8 Ynx
abbrev Y32 (x0:Zi) (r:Zi):Y:=(42,[.agg (Zi.enc x0)],.agg [.own 83 (r.Ab.map Ze.enc),il r.Aw,il r.Au,il r.Ao,il r.Ar,il r.Am],un 1)
theorem Yjx {x0 r}  : YZ x0=some r->Zq Tryz.prog Mo (Y32 x0 r):=
 fK Tryz.func42<|bn λ{z0} Xr=>jt Ze.enc x0.Ab z0<|jk 1<|jw (ol 4 Ze.AE Ze.Ca x0.Ab)<|jo (FL Ze.enc Xr)<|jo (Hu Ze.enc Xr)<|je Ze.enc z0<|je Ze.enc z0<|rt
abbrev Y2e  (r:Zl):Y:=(81,[],.agg (Zl.ow r),[])
theorem Y16 {r}  : zM  = some r->Zq Tryz.prog Mo (Y2e  r):=
 fK Tryz.func81<|bn λ{m0} Dn=>jp (.mk (4:Int).toNat (m0.map Zd))<|jk 1<|jo (Lr Dn)<|jo (Lr Dn)<|jo (YV Dn)<|jo (YW Zd Dn)<|je Zd m0<|rt
abbrev Ysx  (r:Zf):Y:=(43,[],.agg (Zf.ow r),[])
theorem Yuf {r}  : ZA  = some r->Zq Tryz.prog Mo (Ysx  r):=
 fK Tryz.func43<|bn λ{m0} Dn=>jp (.mk (192:Int).toNat (m0.map Zd))<|jo (Lr Dn)<|jo (Lr Dn)<|jo (YV Dn)<|jo (YW Zd Dn)<|br Y16 λ{r0}=>jk 3<|je Zd m0<|jw (Zl.so r0)<|rt
abbrev Yqy (x0:Ze) (r:Zk):Y:=(44,[.agg (Ze.enc x0)],.agg (Zk.enc r),un 1)
theorem Yrc {x0 r}  : kK x0=some r->Zq Tryz.prog Mo (Yqy x0 r):=
 fK Tryz.func44<|it rt<|rt
abbrev Yjy (x0:Zi) (r:Za×Bool):Y:=(16,[.agg (Zi.enc x0)],.AZ [.agg (Za.ow r.1),bl r.2],un 1)
theorem Yoe {x0 r}:∀{m Ae v0},kM x0 m Ae v0=some r->CS (Yjy x0 r) Tryz.f16 [1,1,1,0,1,0] [(1,pt 1),(2,pt 2),(4,pt 11),(5,il v0)] ([bx 1 (Zi.enc x0)]++Za.bk Za.z0 3++[bx 2 (Za.rl Za.z0 3)]++Za.bk Ae 12++[bx 11 (Za.rl Ae 12)]):=by
 intro m
 induction m with
 | zero=>intro Ae v0 h;cases h
 | succ m ih=>exactλ{Ae} {v0}=>st<|js Ze.enc x0.Ab<|it (bn λ{z0} Xr=>jt Zg.enc [Zg.z0] z0<|jk 1<|ja 6 Zg.AE Zg.z0<|jx Zg.enc Xr<|je Zg.enc z0<|bb Ze.enc<|br Yrc λ{r0}=>bn λ{z1} EO=>jt Zk.enc [r0] z1<|jk 1<|bn λ{z2} Uv=>jt Zd [0] z2<|jk 1<|ja 2 Zk.AE r0<|jx Zk.enc EO<|je Zk.enc z1<|ja 1 FM 0<|jx Zd Uv<|je Zd z2<|jw (Za.sc Za.z0)<|jw (Za.sc {Ae with m:=z0,buckets:=z1,splits:=z2})<|cx (Az 1 12++fz 13 3 4096++fz 14 4 9216++fz 15 5 3072++Az 16 4) 15 ih)<|jk 8<|jw (Za.so Ae)<|rt
theorem Y2d {x0 r}  : Rp x0=some r->Zq Tryz.prog Mo (Yjy x0 r):=
 fK Tryz.func16<|br Uu<|it rt<|br Yjx λ{r2}=>br Yuf λ{r3}=>jn Ze.enc r2.Ab<|jp (.num (r3.mem.map Zd).length 0 0 [])<|jp (.num (r3.dev.AH.map Zd).length 0 0 [])<|jp (.num (r3.dev.A2.map Zd).length 0 0 [])<|jw (Zf.so r3)<|cx (fz 1 1 0++fz 2 1 1024++fz 11 3 4096++fz 12 3 1024++fz 16 3 2048++fz 17 3 2049++fz 18 3 2051) 13 Yoe
abbrev q9 (x0:Int) (r:ByteArray):Y:=(13,[il x0],ss r,un 1)
theorem Yga {x0 r} {AN:Int->ByteArray->Option ByteArray} (B4:∀{v0 v1},AN v0 v1=some r->CS (q9 x0 r) Tryz.f13 [1,1,1,1,0,0] [(0,il v0),(3,ss v1),(4,bl (decide (x0 < 0)))] []) {v0 v1 v2}:ZB x0 AN v0 v1 v2=some r->CS (q9 x0 r) Tryz.f13 [1,1,1,1,0,0,0,1,0,1,1] [(0,il v0),(3,ss v1),(4,bl (decide (x0 < 0))),(5,il v2)] []:=
 st<|jk 1<|jp (.val (.lit (.string (JC [(w8 (Zn 48 v2))]))))<|jl<|jk 1<|jo (show 1=([(w8 (Zn 48 v2))].map On).length from rfl)<|jo (stx [(w8 (Zn 48 v2))])<|bo Xx<|cx [] 4 B4
theorem Yy4 {x0 r}:∀{m v0 v1},T7 x0 m v0 v1=some r->CS (q9 x0 r) Tryz.f13 [1,1,1,1,0,0] [(0,il v0),(3,ss v1),(4,bl (decide (x0 < 0)))] []:=by
 intro m
 induction m with
 | zero=>intro v0 v1 h;cases h
 | succ m ih=>exact st<|it (jk 1<|it (cx [] 14 (Yga ih))<|cx [] 14 (Yga ih))<|it (jl<|bo Xx<|rt)<|rt
theorem Hw {x0 r}  : W4 x0=some r->Zq Tryz.prog Mo (q9 x0 r):=
 fK Tryz.func13<|it rt<|cx [] 13 Yy4
abbrev Ydf (x0:Zi) (r:ByteArray):Y:=(40,[.agg (Zi.enc x0)],ss r,un 1)
theorem Yh9 {x0 r}:∀{m v0 v1},ZC x0 m v0 v1=some r->CS (Ydf x0 r) Tryz.f40 [1,1,1,0,1,0] [(1,pt 1),(3,ss v0),(4,il v1)] [bx 1 (Zi.enc x0)]:=by
 intro m
 induction m with
 | zero=>intro v0 v1 h;cases h
 | succ m ih=>exact st<|js Ze.enc x0.Ab<|it (bb Ze.enc<|jl<|bo Xx<|br Hw<|jl<|bo Xx<|it (jl<|bo Xx<|br Hw<|jl<|jl<|bo Xx<|bo Xx<|br Hw<|jl<|bo Xx<|cx (Az 1 1) 18 ih)<|cx (Az 1 1) 18 ih)<|rt
theorem Yve {x0 r}  : T8 x0=some r->Zq Tryz.prog Mo (Ydf x0 r):=
 fK Tryz.func40<|br Uu<|it rt<|br Hw<|jl<|bo Xx<|br Hw<|jl<|jl<|bo Xx<|bo Xx<|br Hw<|jl<|jl<|bo Xx<|bo Xx<|br Hw<|jl<|jl<|bo Xx<|bo Xx<|br Hw<|jl<|bo Xx<|cx (fz 1 1 0) 13 Yh9
abbrev Yjh (x0:Zi) (x1:Int) (r:Int):Y:=(133,[.agg (Zi.enc x0),il x1],il r,un 2)
theorem Z7j {x0 x1 r} {v0}:kN x0 x1 v0=some r->CS (Yjh x0 x1 r) Tryz.f133 [1,0,1] [(1,il x1),(2,pt 1),(16,bl v0)] [bx 1 (Zi.enc x0)]:=
 st<|it rt<|bb Ze.enc<|rt
theorem Z8w {x0 x1 r}  : Rr x0 x1=some r->Zq Tryz.prog Mo (Yjh x0 x1 r):=
 fK Tryz.func133<|br Uu<|it (jk 7<|cx (fz 1 1 0) 5 Z7j)<|jk 3<|js Ze.enc x0.Ab<|jk 2<|br Yd<|jk 2<|cx (fz 1 1 0) 5 Z7j
abbrev Y41 (x0:Ya) (x1:Zi) (r:Bool):Y:=(84,[.agg (Ya.enc x0),.agg (Zi.enc x1)],bl r,un 2)
theorem Yc8 {x0 x1 r}  : T9 x0 x1=some r->Zq Tryz.prog Mo (Y41 x0 x1 r):=
 fK Tryz.func84<|br Uu<|it (jk 4<|js Ze.enc x1.Ab<|jk 2<|br Yd<|jk 1<|it (jk 5<|br Z8w<|jk 1<|br Yd<|jk 1<|rt)<|jk 7<|rt)<|jk 15<|rt
abbrev Ygp (x0:List Int) (r:Bool):Y:=(134,[.tr (x0.map Zd)],bl r,un 1)
theorem Yky {x0 r}:∀{m v0},kO x0 m v0=some r->CS (Ygp x0 r) Tryz.f134 [1,0,1,0] [(0,.tr (x0.map Zd)),(3,il v0)] []:=by
 intro m
 induction m with
 | zero=>intro v0 h;cases h
 | succ m ih=>exact st<|js Zd x0<|it (bb Zd<|br Yd<|it rt<|cx [] 14 ih)<|js Zd x0<|rt
theorem Ygc {x0 r}  : ZD x0=some r->Zq Tryz.prog Mo (Ygp x0 r):=
 fK Tryz.func134<|cx [] 6 Yky
abbrev Yx6 (x0:Int) (r:Int):Y:=(110,[il x0],il r,un 1)
theorem OE {x0 r}  : HV x0=some r->Zq Tryz.prog Mo (Yx6 x0 r):=
 fK Tryz.func110<|br Yd<|it rt<|jl<|bo T5<|rt
abbrev Yyl (x0:Int) (r:Int):Y:=(113,[il x0],il r,un 1)
theorem Na {x0 r}  : Kf x0=some r->Zq Tryz.prog Mo (Yyl x0 r):=
 fK Tryz.func113<|br OE<|it rt<|br OE<|jl<|bo T5<|rt
abbrev Ygl (x0:List Int) (r:Bool):Y:=(187,[.tr (x0.map Zd)],bl r,un 1)
theorem Ykc {x0 r}:∀{m v0},kP x0 m v0=some r->CS (Ygl x0 r) Tryz.f187 [1,0,1,0] [(0,.tr (x0.map Zd)),(3,il v0)] []:=by
 intro m
 induction m with
 | zero=>intro v0 h;cases h
 | succ m ih=>exact st<|js Zd x0<|it (bb Zd<|br Na<|br Yd<|it rt<|cx [] 14 ih)<|rt
theorem Ygs {x0 r}  : ZE x0=some r->Zq Tryz.prog Mo (Ygl x0 r):=
 fK Tryz.func187<|cx [] 6 Ykc
abbrev Y6v (x0:Zl) (r:Bool):Y:=(135,[.agg (Zl.enc x0)],bl r,un 1)
theorem Ypq {x0 r}  : ZF x0=some r->Zq Tryz.prog Mo (Y6v x0 r):=
 fK Tryz.func135<|js Zd x0.AH<|it (jk 2<|br Ygs<|jk 1<|it (jk 2<|br Na<|jk 2<|br Yd<|jk 1<|it (jk 2<|js Zd x0.A2<|jk 2<|it (jk 2<|br Ygs<|jk 1<|rt)<|jk 3<|rt)<|jk 8<|rt)<|jk 14<|rt)<|jk 18<|rt
abbrev Yx4 (x0:Zf) (r:Bool):Y:=(85,[.agg (Zf.enc x0)],bl r,un 1)
theorem Ygx {x0 r}  : ZG x0=some r->Zq Tryz.prog Mo (Yx4 x0 r):=
 fK Tryz.func85<|js Zd x0.mem<|it (jk 2<|br Ygc<|jk 1<|it (jk 2<|br Ypq<|jk 1<|rt)<|jk 3<|rt)<|jk 7<|rt
abbrev Yyk (x0:Int) (r:Int):Y:=(112,[il x0],il r,un 1)
theorem Uw {x0 r}  : Lu x0=some r->Zq Tryz.prog Mo (Yyk x0 r):=
 fK Tryz.func112<|br Yd<|it rt<|bd Zd<|rt
abbrev Yzq (x0:Int) (x1:Int) (r:Bool):Y:=(138,[il x0,il x1],bl r,un 2)
theorem cR {x0 x1 r}  : Lv x0 x1=some r->Zq Tryz.prog Mo (Yzq x0 x1 r):=
 fK Tryz.func138<|br OE<|it (jk 2<|it (jk 2<|br OE<|jk 1<|jl<|jk 2<|bo Lt<|rt)<|jk 5<|rt)<|jk 8<|rt
abbrev Z3h (x0:Int) (x1:Int) (x2:Int) (r:Int):Y:=(221,[il x0,il x1,il x2],il r,un 3)
theorem Z18 {x0 x1 x2 r} {v0 v1}:kQ x0 x1 x2 v0 v1=some r->CS (Z3h x0 x1 x2 r) Tryz.f221 [1,1,1,0,1] [(0,il x0),(7,il v0),(34,bl v1)] []:=
 st<|it rt<|rt
theorem Ztt {x0 x1 x2 r} {v0 v2}:ZH x0 x1 x2 v0 v2=some r->CS (Z3h x0 x1 x2 r) Tryz.f221 [1,1,0,1] [(0,il x0),(2,il x2),(7,il v0),(23,bl v2)] []:=
 st<|it rt<|it (jk 5<|jl<|jk 2<|bo Lt<|cx [] 5 Z18)<|jk 7<|cx [] 5 Z18
theorem Ybw {x0 x1 x2 r}  : ZI x0 x1 x2=some r->Zq Tryz.prog Mo (Z3h x0 x1 x2 r):=
 fK Tryz.func221<|br OE<|br cR<|it (jk 7<|cx [] 7 Ztt)<|jk 1<|br Yd<|jk 2<|it (jk 3<|cx [] 7 Ztt)<|jk 1<|br Uw<|jk 2<|cx [] 7 Ztt
abbrev rA (x0:Int) (x1:Int) (x2:Int) (r:List Int):Y:=(173,[il x0,il x1,il x2],.own 3 (r.map Zd),un 3)
theorem Zzd {x0 x1 x2 r} {AN:Int->(List Int)->Option (List Int)} (B4:∀{v0 v1},AN v0 v1=some r->CS (rA x0 x1 x2 r) Tryz.f173 [1,1,0,0] [(0,il v0),(1,il x1),(2,il x2),(7,sq 1 (v1.map Zd).length)] [rx 1 3 (v1.map Zd)]) {v0 v1 v2}:ZJ x0 x1 x2 AN v0 v1 v2=some r->CS (rA x0 x1 x2 r) Tryz.f173 [1,1,0,0,0,0,1] [(0,il v0),(1,il x1),(2,il x2),(7,sq 1 (v1.map Zd).length),(20,bl v2)] [rx 1 3 (v1.map Zd)]:=
 st<|it (bn λ{z0} Xr=>jt Zd [v0] z0<|jk 1<|ja 1 FM v0<|jx Zd Xr<|je Zd z0<|br Ybw<|jn Zd z0<|cx (fz 1 2 3072) 7 B4)<|js Zd v1<|br Uw<|it (jk 1<|jo (show 0=([].map Zd).length from rfl)<|rt)<|jk 1<|je Zd v1<|rt
theorem Yc9 {x0 x1 x2 r}:∀{m v0 v1},kR x0 x1 x2 m v0 v1=some r->CS (rA x0 x1 x2 r) Tryz.f173 [1,1,0,0] [(0,il v0),(1,il x1),(2,il x2),(7,sq 1 (v1.map Zd).length)] [rx 1 3 (v1.map Zd)]:=by
 intro m
 induction m with
 | zero=>intro v0 v1 h;cases h
 | succ m ih=>exactλ{v0} {v1}=>st<|js Zd v1<|br Uw<|it (jk 3<|br Ybw<|jk 2<|jn Zd v1<|cx (Az 1 1) 4 (Zzd ih))<|jk 5<|jn Zd v1<|cx (Az 1 1) 4 (Zzd ih)
theorem Z6z {x0 x1 x2 r}  : ZL x0 x1 x2=some r->Zq Tryz.prog Mo (rA x0 x1 x2 r):=
 fK Tryz.func173<|jp (.num ([].map Zd).length 0 0 [])<|jo (show 0=([].map Zd).length from rfl)<|cx (fz 1 2 0) 6 Yc9
abbrev Ygm (x0:Int) (x1:Int) (x2:Int) (r:Bool):Y:=(111,[il x0,il x1,il x2],bl r,un 3)
theorem Yj2 {x0 x1 x2 r}:∀{m v0 v1},kS x0 x1 x2 m v0 v1=some r->CS (Ygm x0 x1 x2 r) Tryz.f111 [1,1,0,1,0] [(7,sq 1 (v0.map Zd).length),(8,il v1)] [rx 1 3 (v0.map Zd)]:=by
 intro m
 induction m with
 | zero=>intro v0 v1 h;cases h
 | succ m ih=>exactλ{v0} {v1}=>st<|js Zd v0<|it (bd Zd<|jk 1<|bd Zd<|jk 1<|it rt<|jn Zd v0<|cx (Az 1 1) 14 ih)<|js Zd v0<|rt
theorem Yzd {x0 x1 x2 r}  : kT x0 x1 x2=some r->Zq Tryz.prog Mo (Ygm x0 x1 x2 r):=
 fK Tryz.func111<|br Z6z λ{r0}=>jn Zd r0<|cx (fz 1 2 3072) 8 Yj2
abbrev Yps (x0:Zj) (r:Bool):Y:=(108,[.agg (Zj.enc x0)],bl r,un 1)
theorem Yq5 {x0 r}:∀{m v0},kU x0 m v0=some r->CS (Yps x0 r) Tryz.f108 [1,1,0,1,0] [(1,pt 1),(3,il v0)] [bx 1 (Zj.enc x0)]:=by
 intro m
 induction m with
 | zero=>intro v0 h;cases h
 | succ m ih=>exact st<|js Zd x0.Aa<|it (bb Zd<|br Na<|br Yd<|it rt<|cx (Az 1 1) 14 ih)<|js Zd x0.Aa<|it (jk 3<|it (jk 9<|rt)<|jk 2<|js Zd x0.Aa<|jk 3<|br Uw<|jk 2<|it (jk 4<|rt)<|jk 4<|rt)<|jk 6<|js Zd x0.Aa<|jk 3<|br Uw<|jk 2<|it (jk 4<|rt)<|jk 4<|rt
theorem Yow {x0 r}  : TA x0=some r->Zq Tryz.prog Mo (Yps x0 r):=
 fK Tryz.func108<|br Yzd<|it rt<|cx (fz 1 1 0) 11 Yq5
abbrev Ysu (x0:Zg) (r:Int):Y:=(188,[.agg (Zg.enc x0)],il r,un 1)
theorem cS {x0 r}  : Ov x0=some r->Zq Tryz.prog Mo (Ysu x0 r):=
 fK Tryz.func188<|js Zj.enc x0.queue<|it rt<|bb Zj.enc<|br Uw<|rt
abbrev Z15 (x0:Zg) (r:Bool):Y:=(136,[.agg (Zg.enc x0)],bl r,un 1)
theorem Z29 {x0 r} {v0}:Rt x0 v0=some r->CS (Z15 x0 r) Tryz.f136 [1,1,0,1] [(1,pt 1),(26,bl v0)] [bx 1 (Zg.enc x0)]:=
 st<|it rt<|js Zj.enc x0.queue<|it (it (jk 3<|it (jk 3<|it (jk 3<|it (jk 3<|rt)<|jk 3<|rt)<|jk 7<|rt)<|jk 11<|rt)<|jk 15<|rt)<|br cS<|br Yd<|it (jk 8<|br cS<|jk 2<|br Yd<|jk 1<|rt)<|jk 11<|rt
theorem Yiu {x0 r}:∀{m v1},kV x0 m v1=some r->CS (Z15 x0 r) Tryz.f136 [1,0,1,0] [(1,pt 1),(3,il v1)] [bx 1 (Zg.enc x0)]:=by
 intro m
 induction m with
 | zero=>intro v1 h;cases h
 | succ m ih=>exact st<|js Zj.enc x0.queue<|it (bb Zj.enc<|br Yow<|it rt<|cx (Az 1 1) 14 ih)<|js Zj.enc x0.queue<|it (jk 3<|cx (Az 1 1) 12 Z29)<|jk 3<|cx (Az 1 1) 12 Z29
theorem Ux {x0 r}  : MK x0=some r->Zq Tryz.prog Mo (Z15 x0 r):=
 fK Tryz.func136<|cx (fz 1 1 0) 6 Yiu
abbrev Y6l (x0:Zg) (x1:Zi) (r:Bool):Y:=(86,[.agg (Zg.enc x0),.agg (Zi.enc x1)],bl r,un 2)
theorem Y5z {x0 x1 r}  : zU x0 x1=some r->Zq Tryz.prog Mo (Y6l x0 x1 r):=
 fK Tryz.func86<|br Uu<|it (jk 1<|br Ux<|jk 1<|it (jk 5<|rt)<|jk 5<|rt)<|jk 8<|rt
abbrev Ysk (x0:Zk) (x1:Ze) (r:Bool):Y:=(87,[.agg (Zk.enc x0),.agg (Ze.enc x1)],bl r,un 2)
theorem rB {x0 x1 r}  : Ru x0 x1=some r->Zq Tryz.prog Mo (Ysk x0 x1 r):=
 fK Tryz.func87<|it rt<|br Yd<|it (jk 5<|br Yd<|jk 1<|rt)<|jk 6<|rt
abbrev Z55 (x0:Za) (x1:Int) (r:Int):Y:=(88,[.agg (Za.enc x0),il x1],il r,un 2)
theorem Z4h {x0 x1 r} {v0}:kW x0 x1 v0=some r->CS (Z55 x0 x1 r) Tryz.f88 [1,1,1] [(1,il x1),(2,pt 1),(5,il v0)] [bx 1 (Za.enc x0)]:=
 st<|it (jk 5<|it rt<|rt)<|jk 6<|rt
theorem Z4l {x0 x1 r} {v1}:kX x0 x1 v1=some r->CS (Z55 x0 x1 r) Tryz.f88 [1,1,0,1] [(1,il x1),(2,pt 1),(5,il 0),(15,bl v1)] [bx 1 (Za.enc x0)]:=
 st<|it (cx (Az 1 1) 2 Z4h)<|cx (Az 1 1) 2 Z4h
theorem Yxv {x0 x1 r}  : kY x0 x1=some r->Zq Tryz.prog Mo (Z55 x0 x1 r):=
 fK Tryz.func88<|it (jk 5<|cx (fz 1 1 0) 7 Z4l)<|jk 5<|cx (fz 1 1 0) 7 Z4l
abbrev Yr5 (x0:Int) (r:ByteArray):Y:=(137,[il x0],ss r,un 1)
theorem Ytd {x0 r}  : ML x0=some r->Zq Tryz.prog Mo (Yr5 x0 r):=
 fK Tryz.func137<|br Yd<|it rt<|bd Zv<|rt
abbrev Z6c (x0:Za) (x1:Zh) (x2:Bool) (r:Bool):Y:=(89,[.agg (Za.enc x0),.agg (Zh.enc x1),bl x2],bl r,un 3)
theorem W3 {x0 x1 x2 r} {Ae v0}:Yi x0 x1 x2 Ae v0=some r->CS (Z6c x0 x1 x2 r) Tryz.f89 [1,1,1,1,1,0,1] [(3,pt 1),(4,pt 2),(7,pt 3),(101,bl v0)] [bx 1 (Za.enc x0),bx 2 (Zh.enc x1),bx 3 (Zg.enc Ae)]:=
 st<|it rt<|it (jk 6<|br Yd<|jk 1<|it (jk 2<|br Ytd<|jk 2<|it (jk 3<|it (jk 7<|rt)<|jk 3<|it (jk 7<|rt)<|jk 7<|rt)<|jk 5<|rt)<|jk 10<|rt)<|jk 18<|rt
theorem Zwa {x0 x1 x2 r} {v1}:Kv x0 x1 x2 v1=some r->CS (Z6c x0 x1 x2 r) Tryz.f89 [1,1,0,1] [(2,bl x2),(3,pt 1),(4,pt 2),(36,bl v1)] [bx 1 (Za.enc x0),bx 2 (Zh.enc x1)]:=
 st<|it rt<|bb Zg.enc<|it (it (jk 3<|it (jk 3<|it (jk 3<|rt)<|jk 3<|rt)<|jk 7<|rt)<|jk 11<|rt)<|it (jk 6<|it (jk 10<|cx (Az 1 2++fz 3 2 6144) 12 W3)<|jk 3<|it (jk 2<|it (jk 14<|cx (Az 1 2++fz 3 2 6144) 12 W3)<|jk 9<|it (jk 4<|cx (Az 1 2++fz 3 2 6144) 12 W3)<|jk 2<|it (jk 5<|cx (Az 1 2++fz 3 2 6144) 12 W3)<|jk 5<|cx (Az 1 2++fz 3 2 6144) 12 W3)<|jk 9<|it (jk 5<|cx (Az 1 2++fz 3 2 6144) 12 W3)<|jk 5<|cx (Az 1 2++fz 3 2 6144) 12 W3)<|jk 10<|it (jk 2<|it (jk 14<|cx (Az 1 2++fz 3 2 6144) 12 W3)<|jk 9<|it (jk 4<|cx (Az 1 2++fz 3 2 6144) 12 W3)<|jk 2<|it (jk 5<|cx (Az 1 2++fz 3 2 6144) 12 W3)<|jk 5<|cx (Az 1 2++fz 3 2 6144) 12 W3)<|jk 9<|it (jk 5<|cx (Az 1 2++fz 3 2 6144) 12 W3)<|jk 5<|cx (Az 1 2++fz 3 2 6144) 12 W3
theorem Ygq {x0 x1 x2 r}  : MM x0 x1 x2=some r->Zq Tryz.prog Mo (Z6c x0 x1 x2 r):=
 fK Tryz.func89<|it rt<|js Zg.enc x0.m<|br Yd<|it (jk 12<|cx (fz 1 1 0++fz 2 1 1024) 10 Zwa)<|jk 2<|br Yd<|jk 2<|it (jk 7<|cx (fz 1 1 0++fz 2 1 1024) 10 Zwa)<|jk 4<|bb Zd<|jk 3<|cx (fz 1 1 0++fz 2 1 1024) 10 Zwa
abbrev Z6k (x0:Za) (r:Bool):Y:=(90,[.agg (Za.enc x0)],bl r,un 1)
theorem Z4v {x0 r} {v0}:Rv x0 v0=some r->CS (Z6k x0 r) Tryz.f90 [1,1,1,0,1] [(1,pt 1),(67,bl v0)] [bx 1 (Za.enc x0)]:=
 st<|it rt<|bb Zg.enc λ{a0}=>js Zj.enc a0.queue<|it (jk 2<|bb Zj.enc<|jk 3<|it (jk 3<|it (jk 4<|bb Zd<|jk 3<|rt)<|jk 7<|rt)<|jk 11<|rt)<|jk 17<|rt
theorem Yjs {x0 r}:∀{m v1},zV x0 m v1=some r->CS (Z6k x0 r) Tryz.f90 [1,0,1,0] [(1,pt 1),(3,il v1)] [bx 1 (Za.enc x0)]:=by
 intro m
 induction m with
 | zero=>intro v1 h;cases h
 | succ m ih=>exact st<|js Zg.enc x0.m<|it (bn λUy=>jb Zg.enc Uy<|it (jk 3<|jb Zg.enc Uy<|jk 3<|bb Zj.enc<|jk 3<|it (jk 3<|jb Zg.enc Uy<|jk 4<|it (jk 4<|it rt<|cx (Az 1 1) 14 ih)<|jk 5<|cx (Az 1 1) 14 ih)<|jk 13<|cx (Az 1 1) 14 ih)<|jk 23<|cx (Az 1 1) 14 ih)<|it rt<|js Zg.enc x0.m<|br Yd<|it (jk 7<|cx (Az 1 1) 17 Z4v)<|jk 5<|br Yd<|jk 2<|cx (Az 1 1) 17 Z4v
theorem Yze {x0 r}  : ZM x0=some r->Zq Tryz.prog Mo (Z6k x0 r):=
 fK Tryz.func90<|cx (fz 1 1 0) 6 Yjs
abbrev Yke (x0:Za) (r:Bool):Y:=(91,[.agg (Za.enc x0)],bl r,un 1)
theorem Yn2 {x0 r}:∀{m v0},lB x0 m v0=some r->CS (Yke x0 r) Tryz.f91 [1,0,1,0] [(1,pt 1),(3,il v0)] [bx 1 (Za.enc x0)]:=by
 intro m
 induction m with
 | zero=>intro v0 h;cases h
 | succ m ih=>exact st<|js Zs.enc x0.log<|it (bb Zs.enc<|br Yd<|it (jk 40<|rt)<|jk 2<|it (jk 6<|bb Zs.enc<|jk 6<|it (jk 35<|rt)<|jk 4<|js Zg.enc x0.m<|jk 2<|br Yd<|jk 2<|it (jk 26<|rt)<|jk 4<|br cR<|jk 2<|it (jk 19<|rt)<|jk 2<|br Yd<|jk 2<|it (jk 14<|rt)<|jk 4<|br Na<|jk 2<|br Yd<|jk 2<|it (jk 5<|rt)<|jk 2<|br Yd<|jk 2<|it rt<|cx (Az 1 1) 16 ih)<|jk 17<|js Zg.enc x0.m<|jk 2<|br Yd<|jk 2<|it (jk 26<|rt)<|jk 4<|br cR<|jk 2<|it (jk 19<|rt)<|jk 2<|br Yd<|jk 2<|it (jk 14<|rt)<|jk 4<|br Na<|jk 2<|br Yd<|jk 2<|it (jk 5<|rt)<|jk 2<|br Yd<|jk 2<|it rt<|cx (Az 1 1) 16 ih)<|rt
theorem Y2q {x0 r}  : ZN x0=some r->Zq Tryz.prog Mo (Yke x0 r):=
 fK Tryz.func91<|cx (fz 1 1 0) 6 Yn2
abbrev Ybs (x0:Za) (r:Bool):Y:=(46,[.agg (Za.enc x0)],bl r,un 1)
theorem Yqz {x0 r}:∀{m v0},lD x0 m v0=some r->CS (Ybs x0 r) Tryz.f46 [1,1,1,0,1,0] [(1,pt 1),(3,il (x0.Ad.Ab.length:Int)),(4,il v0)] [bx 1 (Za.enc x0)]:=by
 intro m
 induction m with
 | zero=>intro v0 h;cases h
 | succ m ih=>exact st<|it (bn λCc=>jb Zg.enc Cc<|br Y5z<|it (jk 43<|rt)<|jk 3<|bb Zk.enc<|jk 6<|bb Ze.enc<|jk 2<|br rB<|jk 2<|it (jk 29<|rt)<|jk 3<|bb Zd<|jk 5<|br Yd<|jk 2<|it (jk 18<|rt)<|jk 3<|jb Zg.enc Cc<|jk 6<|jb Zg.enc Cc<|jk 6<|br Yxv<|jk 2<|it rt<|cx (Az 1 1) 14 ih)<|br Ygq<|it (jk 3<|br Ygq<|jk 1<|it (jk 1<|br Yze<|jk 1<|it (jk 1<|br Y2q<|jk 1<|rt)<|jk 2<|rt)<|jk 5<|rt)<|jk 10<|rt
theorem L7 {x0 r} {v1}:Qq x0 v1=some r->CS (Ybs x0 r) Tryz.f46 [1,1,0,1] [(1,pt 1),(3,il (x0.Ad.Ab.length:Int)),(73,bl v1)] [bx 1 (Za.enc x0)]:=
 st<|it rt<|cx (Az 1 1) 6 Yqz
theorem Y6a {x0 r}  : Lx x0=some r->Zq Tryz.prog Mo (Ybs x0 r):=
 fK Tryz.func46<|js Ze.enc x0.Ad.Ab<|br Uu<|it (jk 51<|cx (fz 1 1 0) 7 L7)<|jk 2<|br Yd<|jk 2<|it (jk 46<|cx (fz 1 1 0) 7 L7)<|jk 2<|js Zg.enc x0.m<|jk 3<|it (jk 40<|cx (fz 1 1 0) 7 L7)<|jk 2<|js Zk.enc x0.buckets<|jk 3<|it (jk 34<|cx (fz 1 1 0) 7 L7)<|jk 2<|js Zd x0.splits<|jk 3<|it (jk 28<|cx (fz 1 1 0) 7 L7)<|jk 4<|br Yc8<|jk 2<|it (jk 21<|cx (fz 1 1 0) 7 L7)<|jk 4<|br Yd<|jk 2<|it (jk 14<|cx (fz 1 1 0) 7 L7)<|jk 2<|br Ygx<|jk 2<|it (jk 9<|cx (fz 1 1 0) 7 L7)<|jk 3<|it (jk 5<|cx (fz 1 1 0) 7 L7)<|jk 5<|cx (fz 1 1 0) 7 L7
abbrev Y12 (x0:Zj) (r:Zj):Y:=(131,[.agg (Zj.enc x0)],.agg [bl r.write,il r.addr,il r.size,il r.Ay,bl r.lock,.own 3 (r.Aa.map Zd)],un 1)
theorem Z9j {x0 r}  : Rw x0=some r->Zq Tryz.prog Mo (Y12 x0 r):=
 fK Tryz.func131<|bn λ{z0} Xr=>jt Zd x0.Aa z0<|jk 1<|jw (ol 1 FM Rn x0.Aa)<|jo (FL Zd Xr)<|jo (Hu Zd Xr)<|je Zd z0<|je Zd z0<|rt
abbrev Ygg (x0:Zg) (r:Zg):Y:=(82,[.agg (Zg.enc x0)],.agg [.own 41 (r.queue.map Zj.enc),il r.An,il r.done,il r.tries,bl r.Ax,bl r.broken],un 1)
theorem Ylb {x0 r}:∀{m v0 v1},lE x0 m v0 v1=some r->CS (Ygg x0 r) Tryz.f82 [1,1,0,1,0] [(1,pt 1),(2,pt 2),(3,sq 4 (v0.map Zj.enc).length),(4,il v1)] [bx 1 (Zg.enc x0),rx 3 41 ([].map Zj.enc),bx 2 [sq 3 ([].map Zj.enc).length,il 0,il 0,il 0,bl false,bl false],rx 4 41 (v0.map Zj.enc)]:=by
 intro m
 induction m with
 | zero=>intro v0 v1 h;cases h
 | succ m ih=>exactλ{v0} {v1}=>st<|js Zj.enc x0.queue<|it (bb Zj.enc<|br Z9j λ{r0}=>jk 1<|bn λ{z0} Xr=>jt Zj.enc [r0] z0<|jk 1<|je Zd r0.Aa<|ja 6 Zj.AE r0<|jx Zj.enc Xr<|jn Zj.enc z0<|je Zj.enc z0<|jn Zj.enc []<|cx (Az 1 3++fz 4 3 8192) 11 ih)<|jk 1<|je Zj.enc v0<|rt
theorem cT {x0 r}  : Ox x0=some r->Zq Tryz.prog Mo (Ygg x0 r):=
 fK Tryz.func82<|jp (.num ([].map Zj.enc).length 0 0 [])<|jo (show 0=([].map Zj.enc).length from rfl)<|cx (fz 1 1 0++fz 2 1 1024++fz 4 2 0) 8 Ylb
abbrev Y2m (x0:Zl) (r:Zl):Y:=(132,[.agg (Zl.enc x0)],.agg (Zl.ow r),un 1)
theorem Ymn {x0 r}  : ZO x0=some r->Zq Tryz.prog Mo (Y2m x0 r):=
 fK Tryz.func132<|bn λ{z0} Xr=>jt Zd x0.AH z0<|bn λ{z1} EO=>jt Zd x0.A2 z1<|jk 2<|jw (ol 1 FM Rn x0.AH)<|jo (FL Zd Xr)<|jo (Hu Zd Xr)<|je Zd z0<|jw (ol 1 FM Rn x0.A2)<|jo (FL Zd EO)<|jo (Hu Zd EO)<|je Zd z1<|je Zd z0<|je Zd z1<|rt
abbrev Y09 (x0:Zf) (r:Zf):Y:=(83,[.agg (Zf.enc x0)],.agg (Zf.ow r),un 1)
theorem Ykx {x0 r}  : ZP x0=some r->Zq Tryz.prog Mo (Y09 x0 r):=
 fK Tryz.func83<|bn λ{z0} Xr=>jt Zd x0.mem z0<|jw (ol 1 FM Rn x0.mem)<|jo (FL Zd Xr)<|jo (Hu Zd Xr)<|je Zd z0<|br Ymn λ{r0}=>jk 3<|je Zd z0<|jw (Zl.so r0)<|rt
abbrev Yg0 (x0:Za) (r:Za):Y:=(45,[.agg (Za.enc x0)],.agg (Za.ow r),un 1)
theorem Yla {x0 r}:∀{m Ae v0},ZQ x0 m Ae v0=some r->CS (Yg0 x0 r) Tryz.f45 [1,1,1,1,0,1,0] [(1,pt 1),(2,pt 2),(3,pt 11),(4,il v0)] ([bx 1 (Za.enc x0)]++Za.bk Za.z0 3++[bx 2 (Za.rl Za.z0 3),rx 12 83 (Ae.Ad.Ab.map Ze.enc),rx 13 90 (Ae.m.map Zg.enc),bx 11 [sq 12 (Ae.Ad.Ab.map Ze.enc).length,il Ae.Ad.Aw,il Ae.Ad.Au,il Ae.Ad.Ao,il Ae.Ad.Ar,il Ae.Ad.Am,il Ae.now,sq 13 (Ae.m.map Zg.enc).length,il Ae.Bq.at_,il Ae.Bq.Be,.tr (Ae.buckets.map Zk.enc),.tr (Ae.splits.map Zd),il Ae.Af,il Ae.held,il Ae.last,bl Ae.addr.live,il Ae.addr.Ah,il Ae.addr.An,bl Ae.addr.first,il Ae.addr.B6,il Ae.addr.left,il Ae.addr.Ap,bl Ae.addr.second,bl Ae.Aa.live,il Ae.Aa.Ah,il Ae.Aa.An,bl Ae.Aa.first,il Ae.Aa.B6,il Ae.Aa.left,il Ae.Aa.Ap,bl Ae.Aa.second,.tr (Ae.model.mem.map Zd),.tr (Ae.model.dev.AH.map Zd),il Ae.model.dev.timer,.tr (Ae.model.dev.A2.map Zd),il Ae.At,.tr (Ae.log.map Zs.enc)]]):=by
 intro m
 induction m with
 | zero=>intro Ae v0 h;cases h
 | succ m ih=>exactλ{Ae} {v0}=>st<|js Zg.enc x0.m<|it (bb Zg.enc<|br cT λ{r0}=>jk 1<|bn λ{z0} Xr=>jt Zg.enc [r0] z0<|jk 1<|je Zj.enc r0.queue<|ja 6 Zg.AE r0<|jx Zg.enc Xr<|je Zg.enc z0<|jw (Za.sc Za.z0)<|jn Ze.enc Ae.Ad.Ab<|jn Zg.enc z0<|cx (Az 1 12++fz 13 4 4096) 13 ih)<|bn λ{z1} EO=>jt Zk.enc x0.buckets z1<|bn λ{z2} Uv=>jt Zd x0.splits z2<|jw (ol 2 Zk.AE Zk.Ca x0.buckets)<|jo (FL Zk.enc EO)<|jo (Hu Zk.enc EO)<|je Zk.enc z1<|jw (ol 1 FM Rn x0.splits)<|jo (FL Zd Uv)<|jo (Hu Zd Uv)<|je Zd z2<|br Ykx λ{r1}=>bn λ{z3} hz3=>jt Zs.enc x0.log z3<|jk 8<|jw (ol 7 Zs.AE Zs.Ca x0.log)<|jo (FL Zs.enc hz3)<|jo (Hu Zs.enc hz3)<|je Zs.enc z3<|je Ze.enc Ae.Ad.Ab<|je Zg.enc Ae.m<|je Zk.enc z1<|je Zd z2<|jw (Zf.so r1)<|je Zs.enc z3<|rt
theorem Ygv {x0 r}  : TC x0=some r->Zq Tryz.prog Mo (Yg0 x0 r):=
 fK Tryz.func45<|br Yjx λ{r2}=>jn Ze.enc r2.Ab<|jp (.num ([].map Zg.enc).length 0 0 [])<|jo (show 0=([].map Zg.enc).length from rfl)<|cx (fz 1 1 0++fz 2 1 1024++fz 11 2 1024++fz 12 3 2048++fz 13 4 0) 12 Yla
abbrev Ygw (x0:Zg) (x1:Int) (r:Int):Y:=(139,[.agg (Zg.enc x0),il x1],il r,un 2)
theorem Z5c {x0 x1 r} {v0}:lG x0 x1 v0=some r->CS (Ygw x0 x1 r) Tryz.f139 [1,0,1] [(1,il x1),(2,pt 1),(16,bl v0)] [bx 1 (Zg.enc x0)]:=
 st<|it rt<|bb Zj.enc<|br Z6z<|bd Zd<|rt
theorem rC {x0 x1 r}  : Rx x0 x1=some r->Zq Tryz.prog Mo (Ygw x0 x1 r):=
 fK Tryz.func139<|br Ux<|it (jk 6<|cx (fz 1 1 0) 5 Z5c)<|jk 2<|br cS<|jk 2<|br Yd<|jk 2<|cx (fz 1 1 0) 5 Z5c
abbrev Yhf (x0:Za) (r:Zp):Y:=(92,[.agg (Za.enc x0)],.agg (Zp.enc r),un 1)
theorem Zuu {x0 r} {Ae}:ZR x0 Ae=some r->CS (Yhf x0 r) Tryz.f92 [1,1,1] [(1,pt 1),(2,pt 2),(3,pt 3)] [bx 1 (Za.enc x0),bx 2 (Zp.enc Zp.z0),bx 3 (Zp.enc Ae)]:=
 st<|it (bb Zg.enc<|br rC<|rt)<|rt
theorem Yy6 {x0 r}  : lH x0=some r->Zq Tryz.prog Mo (Yhf x0 r):=
 fK Tryz.func92<|it (bb Zg.enc<|br rC<|it (cx (fz 1 1 0++fz 2 1 1024++fz 3 2 3072) 18 Zuu)<|cx (fz 1 1 0++fz 2 1 1024++fz 3 2 3072) 18 Zuu)<|cx (fz 1 1 0++fz 2 1 1024++fz 3 2 3072) 9 Zuu
abbrev Ygo (x0:Zb) (x1:Int) (r:List Zo):Y:=(93,[.agg (Zb.enc x0),il x1],.own 60 (r.map Zo.enc),un 2)
theorem Ylf {x0 x1 r}:∀{m v0 v1},lJ x0 x1 m v0 v1=some r->CS (Ygo x0 x1 r) Tryz.f93 [1,1,0,1,0] [(1,il x1),(2,pt 1),(5,sq 2 (v0.map Zo.enc).length),(6,il v1)] [bx 1 (Zb.enc x0),rx 2 60 (v0.map Zo.enc)]:=by
 intro m
 induction m with
 | zero=>intro v0 v1 h;cases h
 | succ m ih=>exactλ{v0} {v1}=>st<|js Zo.enc x0.Al<|it (bn λ{a0} Cc=>jb Zo.enc Cc<|it (jb Zo.enc Cc<|br Z9j λ{r0}=>jk 1<|bn λ{z0} Xr=>jt Zo.enc [{a0 with Bm:=r0}] z0<|jk 1<|je Zd r0.Aa<|ja 8 Zo.AE {a0 with Bm:=r0}<|jx Zo.enc Xr<|jn Zo.enc z0<|je Zo.enc z0<|cx (Az 1 1++fz 2 6 3072) 18 ih)<|jn Zo.enc v0<|cx (Az 1 2) 14 ih)<|jk 1<|je Zo.enc v0<|rt
theorem Yyy {x0 x1 r}  : lK x0 x1=some r->Zq Tryz.prog Mo (Ygo x0 x1 r):=
 fK Tryz.func93<|jp (.num ([].map Zo.enc).length 0 0 [])<|jo (show 0=([].map Zo.enc).length from rfl)<|cx (fz 1 1 0++fz 2 2 0) 8 Ylf
abbrev Yg6 (x0:Zg) (x1:Zj) (r:Zg×Bool):Y:=(94,[.agg (Zg.enc x0),.agg (Zj.enc x1)],.AZ [.agg [.own 41 (r.1.queue.map Zj.enc),il r.1.An,il r.1.done,il r.1.tries,bl r.1.Ax,bl r.1.broken],bl r.2],un 2)
theorem Zwm {x0 x1 r} {Ae v0}:ZS x0 x1 Ae v0=some r->CS (Yg6 x0 x1 r) Tryz.f94 [1,1,0,1] [(3,pt 1),(4,pt 2),(6,pt 4),(22,bl v0)] [bx 1 (Zj.enc x1),rx 3 41 ([].map Zj.enc),bx 2 [sq 3 ([].map Zj.enc).length,il 0,il 0,il 0,bl false,bl false],rx 5 41 (Ae.queue.map Zj.enc),bx 4 [sq 5 (Ae.queue.map Zj.enc).length,il Ae.An,il Ae.done,il Ae.tries,bl Ae.Ax,bl Ae.broken]]:=
 st<|it (jk 1<|je Zj.enc Ae.queue<|rt)<|br Z9j λ{r0}=>jk 1<|bn λ{z0} Xr=>jt Zj.enc [r0] z0<|jk 2<|je Zd r0.Aa<|ja 6 Zj.AE r0<|jx Zj.enc Xr<|je Zj.enc z0<|je Zj.enc z0<|rt
theorem Yyi {x0 x1 r}  : lL x0 x1=some r->Zq Tryz.prog Mo (Yg6 x0 x1 r):=
 fK Tryz.func94<|br cT λ{r1}=>br Ux<|it (jk 8<|jn Zj.enc r1.queue<|cx (fz 1 1 1024++fz 2 1 2048++fz 4 2 2048++fz 5 2 1024) 7 Zwm)<|jk 1<|br Yow<|jk 2<|it (jk 4<|jn Zj.enc r1.queue<|cx (fz 1 1 1024++fz 2 1 2048++fz 4 2 2048++fz 5 2 1024) 7 Zwm)<|jk 2<|js Zj.enc x0.queue<|jk 2<|jn Zj.enc r1.queue<|cx (fz 1 1 1024++fz 2 1 2048++fz 4 2 2048++fz 5 2 1024) 7 Zwm
abbrev Z7t (x0:Zk) (x1:Ze) (r:Zk):Y:=(95,[.agg (Zk.enc x0),.agg (Ze.enc x1)],.agg (Zk.enc r),un 2)
theorem Zy7 {x0 x1 r} {v0}:lM x0 x1 v0=some r->CS (Z7t x0 x1 r) Tryz.f95 [1,0,1] [(2,pt 1),(3,pt 2),(4,pt 3),(13,bl v0)] [bx 1 (Zk.enc x0),bx 2 (Ze.enc x1),bx 3 (Zk.enc Zk.z0)]:=
 st<|it rt<|it rt<|rt
theorem Yno {x0 x1 r}  : lN x0 x1=some r->Zq Tryz.prog Mo (Z7t x0 x1 r):=
 fK Tryz.func95<|it (jk 4<|cx (fz 1 1 0++fz 2 1 1024++fz 3 1 2048) 5 Zy7)<|jk 2<|br rB<|jk 2<|cx (fz 1 1 0++fz 2 1 1024++fz 3 1 2048) 5 Zy7
abbrev Yhc (x0:Zg) (r:Zg×Bool):Y:=(140,[.agg (Zg.enc x0)],.AZ [.agg [.own 41 (r.1.queue.map Zj.enc),il r.1.An,il r.1.done,il r.1.tries,bl r.1.Ax,bl r.1.broken],bl r.2],un 1)
theorem Z31 {x0 r} {Ae v0}:lO x0 Ae v0=some r->CS (Yhc x0 r) Tryz.f140 [1,1,0,1] [(2,pt 1),(4,pt 3),(16,bl v0)] [rx 2 41 ([].map Zj.enc),bx 1 [sq 2 ([].map Zj.enc).length,il 0,il 0,il 0,bl false,bl false],rx 4 41 (Ae.queue.map Zj.enc),bx 3 [sq 4 (Ae.queue.map Zj.enc).length,il Ae.An,il Ae.done,il Ae.tries,bl Ae.Ax,bl Ae.broken]]:=
 st<|it (jk 1<|je Zj.enc Ae.queue<|rt)<|jk 1<|je Zj.enc Ae.queue<|rt
theorem Yy5 {x0 r}  : lP x0=some r->Zq Tryz.prog Mo (Yhc x0 r):=
 fK Tryz.func140<|br cT λ{r0}=>br Ux<|it (jk 5<|jn Zj.enc r0.queue<|cx (fz 1 1 1024++fz 3 2 2048++fz 4 2 1024) 7 Z31)<|jk 5<|jn Zj.enc r0.queue<|cx (fz 1 1 1024++fz 3 2 2048++fz 4 2 1024) 7 Z31
abbrev Z67 (x0:Zk) (x1:Ze) (r:Zk):Y:=(141,[.agg (Zk.enc x0),.agg (Ze.enc x1)],.agg (Zk.enc r),un 2)
theorem Zy3 {x0 x1 r} {v0}:lQ x0 x1 v0=some r->CS (Z67 x0 x1 r) Tryz.f141 [1,0,1] [(2,pt 1),(3,pt 2),(4,pt 3),(11,bl v0)] [bx 1 (Zk.enc x0),bx 2 (Ze.enc x1),bx 3 (Zk.enc Zk.z0)]:=
 st<|it rt<|rt
theorem Yn5 {x0 x1 r}  : lR x0 x1=some r->Zq Tryz.prog Mo (Z67 x0 x1 r):=
 fK Tryz.func141<|it (jk 2<|br rB<|jk 1<|cx (fz 1 1 0++fz 2 1 1024++fz 3 1 2048) 5 Zy3)<|jk 3<|cx (fz 1 1 0++fz 2 1 1024++fz 3 1 2048) 5 Zy3
abbrev Yg3 (x0:Ya) (x1:Zi) (x2:Int) (r:Ya):Y:=(142,[.agg (Ya.enc x0),.agg (Zi.enc x1),il x2],.agg (Ya.enc r),un 3)
theorem Z45 {x0 x1 x2 r} {v0}:lS x0 x1 x2 v0=some r->CS (Yg3 x0 x1 x2 r) Tryz.f142 [1,0,1] [(2,il x2),(3,pt 1),(4,pt 2),(6,pt 3),(15,bl v0)] [bx 1 (Ya.enc x0),bx 2 (Zi.enc x1),bx 3 (Ya.enc Ya.z0)]:=
 st<|it (br Z8w<|rt)<|rt
theorem Yxe {x0 x1 x2 r}  : lT x0 x1 x2=some r->Zq Tryz.prog Mo (Yg3 x0 x1 x2 r):=
 fK Tryz.func142<|br Yc8<|it (jk 4<|cx (fz 1 1 0++fz 2 1 1024++fz 3 1 2048) 5 Z45)<|jk 4<|cx (fz 1 1 0++fz 2 1 1024++fz 3 1 2048) 5 Z45
abbrev Yxh (x0:Za) (x1:Zh) (r:Za):Y:=(96,[.agg (Za.ow x0),.agg (Zh.enc x1)],.agg (Za.ow r),un 2)
theorem Z6n {x0 x1 r}  : TD x0 x1=some r->Zq Tryz.prog Mo (Yxh x0 x1 r):=
 fK Tryz.func96<|bn λCc=>jw (xd Zg.enc Cc)<|br Yy5 λ{r0}=>bn λ{y0} K7=>jw (xq Zg.enc Cc y0)<|jk 1<|je Zj.enc r0.1.queue<|jo (Ls Zg.enc K7)<|it (bn λCV=>jw (xd Zk.enc CV)<|bd Ze.enc<|br Yn5<|bn λCz=>jw (xp Zk.enc CV Cz)<|jk 8<|je Ze.enc x0.Ad.Ab<|jo (Jx Zg.enc K7)<|jo (Jx Zk.enc Cz)<|je Zd x0.splits<|jw (Zf.so x0.model)<|je Zs.enc x0.log<|rt)<|it (jk 1<|je Ze.enc x0.Ad.Ab<|br Yxe<|jk 8<|je Ze.enc x0.Ad.Ab<|jo (Jx Zg.enc K7)<|je Zk.enc x0.buckets<|je Zd x0.splits<|jw (Zf.so x0.model)<|je Zs.enc x0.log<|rt)<|jk 8<|je Ze.enc x0.Ad.Ab<|jo (Jx Zg.enc K7)<|je Zk.enc x0.buckets<|je Zd x0.splits<|jw (Zf.so x0.model)<|je Zs.enc x0.log<|rt
abbrev Yu7 (x0:List Int) (x1:Int) (r:Int):Y:=(189,[.tr (x0.map Zd),il x1],il r,un 2)
theorem Ycf {x0 x1 r} {v0}:zW x0 x1 v0=some r->CS (Yu7 x0 x1 r) Tryz.f189 [1,0,1] [(0,.tr (x0.map Zd)),(1,il x1),(11,bl v0)] []:=
 st<|it rt<|js Zd x0<|jl<|bo Lt<|bb Zd<|rt
theorem Yif {x0 x1 r}  : ZT x0 x1=some r->Zq Tryz.prog Mo (Yu7 x0 x1 r):=
 fK Tryz.func189<|js Zd x0<|it (jk 2<|cx [] 5 Ycf)<|jk 2<|cx [] 5 Ycf
abbrev Yzp (x0:Zi) (x1:Zb) (x2:Int) (r:Int):Y:=(143,[.agg (Zi.enc x0),.agg (Zb.enc x1),il x2],il r,un 3)
theorem Yzo {x0 x1 x2 r}  : lU x0 x1 x2=some r->Zq Tryz.prog Mo (Yzp x0 x1 x2 r):=
 fK Tryz.func143<|br Yif<|rt
abbrev Yuq (x0:Zj) (x1:Int) (r:Int):Y:=(145,[.agg (Zj.enc x0),il x1],il r,un 2)
theorem Ydc {x0 x1 r}  : ZU x0 x1=some r->Zq Tryz.prog Mo (Yuq x0 x1 r):=
 fK Tryz.func145<|it rt<|bb Zd<|rt
abbrev Ygh (x0:Int) (r:Int):Y:=(151,[il x0],il r,un 1)
theorem Z48 {x0 r} {v0}:zX x0 v0=some r->CS (Ygh x0 r) Tryz.f151 [1,0,0,1] [(0,il x0),(3,bl v0)] []:=
 st<|it rt<|it rt<|it rt<|rt
theorem Yhh {x0 r}  : lV x0=some r->Zq Tryz.prog Mo (Ygh x0 r):=
 fK Tryz.func151<|it (jk 2<|cx [] 6 Z48)<|jk 2<|cx [] 6 Z48
abbrev Y2y (x0:List Int) (x1:Int) (x2:Int) (r:Bool):Y:=(232,[.tr (x0.map Zd),il x1,il x2],bl r,un 3)
theorem Ykh {x0 x1 x2 r}  : ZV x0 x1 x2=some r->Zq Tryz.prog Mo (Y2y x0 x1 x2 r):=
 fK Tryz.func232<|br Ygc<|it (jk 2<|br cR<|jk 1<|it (jk 2<|js Zd x0<|jk 2<|br OE<|jk 3<|rt)<|jk 7<|rt)<|jk 11<|rt
abbrev Z8p (x0:List Int) (x1:Int) (x2:Int) (x3:Int) (r:List Int×Bool):Y:=(190,[.tr (x0.map Zd),il x1,il x2,il x3],.AZ [.own 3 (r.1.map Zd),bl r.2],un 4)
theorem Ynl {x0 x1 x2 x3 r}:∀{m v0 v1 v2},lW x0 x1 x2 x3 m v0 v1 v2=some r->CS (Z8p x0 x1 x2 x3 r) Tryz.f190 [1,1,1,0,1,0] [(1,il x1),(2,il x2),(3,il v0),(10,sq 1 (v1.map Zd).length),(11,il v2)] [rx 1 3 (v1.map Zd)]:=by
 intro m
 induction m with
 | zero=>intro v0 v1 v2 h;cases h
 | succ m ih=>exactλ{v0} {v1} {v2}=>st<|br OE<|it (jk 1<|bn λCc=>bn λ{y0} K7=>jw (xp Zd Cc K7)<|jk 1<|jp (.num (y0.map Zd).length 0 0 [])<|jo (Jx Zd K7)<|cx (Az 1 1) 13 ih)<|jk 1<|je Zd v1<|rt
theorem Z7i {x0 x1 x2 x3 r} {v1 v3}:lX x0 x1 x2 x3 v1 v3=some r->CS (Z8p x0 x1 x2 x3 r) Tryz.f190 [1,1,0,1] [(1,il x1),(2,il x2),(3,il x3),(10,sq 1 (v1.map Zd).length),(27,bl v3)] [rx 1 3 (v1.map Zd)]:=
 st<|it (jk 1<|je Zd v1<|rt)<|jn Zd v1<|cx (Az 1 1) 6 Ynl
theorem Y1h {x0 x1 x2 x3 r}  : lY x0 x1 x2 x3=some r->Zq Tryz.prog Mo (Z8p x0 x1 x2 x3 r):=
 fK Tryz.func190<|bn λ{z0} Xr=>jt Zd x0 z0<|jw (ol 1 FM Rn x0)<|jo (FL Zd Xr)<|jo (Hu Zd Xr)<|je Zd z0<|br Ykh<|it (jk 6<|jn Zd z0<|cx (fz 1 2 2048) 7 Z7i)<|jk 2<|br Na<|jk 2<|br Yd<|jk 2<|jn Zd z0<|cx (fz 1 2 2048) 7 Z7i
abbrev Uz (x0:Zl) (x1:Bool) (x2:Int) (x3:Int) (r:Zl×Int×Bool):Y:=(192,[.agg (Zl.enc x0),bl x1,il x2,il x3],.AZ [.agg (Zl.ow r.1),il r.2.1,bl r.2.2],un 4)
theorem Zz5 {x0 x1 x2 x3 r} {Ae v0}:ZX x0 x1 x2 x3 Ae v0=some r->CS (Uz x0 x1 x2 x3 r) Tryz.f192 [1,1,1,0,0,1,1,1,1,1,1,1,1,1,1,1] [(8,pt 1),(11,pt 4),(101,bl v0)] (Zl.bk Zl.z0 2++[bx 1 (Zl.rl Zl.z0 2)]++Zl.bk Ae 5++[bx 4 (Zl.rl Ae 5)]):=
 st<|it (bd Zd<|jp (.num (1:Int).toNat ((Ae.A2.length:Int):Int).toNat (((Ae.A2.length:Int):Int).toNat - (1:Int).toNat) [])<|jk 2<|bn λ{s0} BT=>jp (.mk 0 (s0.map Zd))<|je Zd Ae.A2<|jo (Gl BT).1<|jo (JE Zd Ae.A2)<|jo (Gm Zd BT)<|jo (D3 1 FM Ae.A2)<|jo (Eq.refl (((Ae.A2.length:Int):Int).toNat - (1:Int).toNat))<|je Zd Ae.AH<|jo (kC Zd BT)<|jo (Hv Zd BT)<|rt)<|jk 2<|jw (Zl.so Ae)<|rt
theorem Zz0 {x0 x1 x2 x3 r} {Ae v1}:ZY x0 x1 x2 x3 Ae v1=some r->CS (Uz x0 x1 x2 x3 r) Tryz.f192 [1,1,1,0,0,1,1,1,1,1,1,1,1,1] [(1,bl x1),(2,il x2),(3,il x3),(8,pt 1),(11,pt 4),(81,bl v1)] (Zl.bk Zl.z0 2++[bx 1 (Zl.rl Zl.z0 2)]++Zl.bk Ae 5++[bx 4 (Zl.rl Ae 5)]):=
 st<|it (bn λ{z0} Xr=>jt Zd [x3] z0<|jk 3<|ja 1 FM x3<|jx Zd Xr<|je Zd z0<|je Zd Ae.AH<|je Zd z0<|rt)<|it (jk 2<|it (jk 2<|js Zd Ae.A2<|jk 2<|jw (Zl.sc Zl.z0)<|jw (Zl.sc Ae)<|cx (Az 1 6) 3 Zz5)<|jk 4<|jw (Zl.sc Zl.z0)<|jw (Zl.sc Ae)<|cx (Az 1 6) 3 Zz5)<|jk 7<|jw (Zl.sc Zl.z0)<|jw (Zl.sc Ae)<|cx (Az 1 6) 3 Zz5
theorem Yaz {x0 x1 x2 x3 r} {Ae v2}:lZ x0 x1 x2 x3 Ae v2=some r->CS (Uz x0 x1 x2 x3 r) Tryz.f192 [1,1,1,0,0,1,1,1,1,1] [(1,bl x1),(2,il x2),(3,il x3),(8,pt 1),(11,pt 4),(59,bl v2)] (Zl.bk Zl.z0 2++[bx 1 (Zl.rl Zl.z0 2)]++Zl.bk Ae 5++[bx 4 (Zl.rl Ae 5)]):=
 st<|it (jk 2<|jw (Zl.so Ae)<|rt)<|it (br Na<|jl<|jk 2<|bo Lt<|jw (Zl.so Ae)<|rt)<|it (jk 1<|it (jk 2<|js Zd Ae.A2<|jk 2<|jw (Zl.sc Zl.z0)<|jw (Zl.sc Ae)<|cx (Az 1 6) 6 Zz0)<|jk 4<|jw (Zl.sc Zl.z0)<|jw (Zl.sc Ae)<|cx (Az 1 6) 6 Zz0)<|jk 6<|jw (Zl.sc Zl.z0)<|jw (Zl.sc Ae)<|cx (Az 1 6) 6 Zz0
theorem Yal {x0 x1 x2 x3 r} {Ae v3}:l5 x0 x1 x2 x3 Ae v3=some r->CS (Uz x0 x1 x2 x3 r) Tryz.f192 [1,1,1,0,0,1] [(1,bl x1),(2,il x2),(3,il x3),(8,pt 1),(11,pt 4),(35,bl v3)] (Zl.bk Zl.z0 2++[bx 1 (Zl.rl Zl.z0 2)]++Zl.bk Ae 5++[bx 4 (Zl.rl Ae 5)]):=
 st<|it (jk 1<|bn λCV=>bn λK7=>jw (xp Zd CV K7)<|jk 2<|jo (Jx Zd K7)<|je Zd Ae.A2<|rt)<|br Yd<|it (jk 1<|bd Zd<|jk 2<|jw (Zl.so Ae)<|rt)<|it (jk 1<|jw (Zl.sc Zl.z0)<|jw (Zl.sc Ae)<|cx (Az 1 6) 6 Yaz)<|jk 1<|jw (Zl.sc Zl.z0)<|jw (Zl.sc Ae)<|cx (Az 1 6) 6 Yaz
theorem rD {x0 x1 x2 x3 r} {Ae v4}:MO x0 x1 x2 x3 Ae v4=some r->CS (Uz x0 x1 x2 x3 r) Tryz.f192 [1,1,0,1] [(1,bl x1),(2,il x2),(3,il x3),(8,pt 1),(11,pt 4),(33,bl v4)] (Zl.bk Zl.z0 2++[bx 1 (Zl.rl Zl.z0 2)]++Zl.bk Ae 5++[bx 4 (Zl.rl Ae 5)]):=
 st<|it (jk 2<|jw (Zl.so Ae)<|rt)<|br Yd<|it (jk 1<|jw (Zl.sc Zl.z0)<|jw (Zl.sc Ae)<|cx (Az 1 6) 6 Yal)<|jk 1<|jw (Zl.sc Zl.z0)<|jw (Zl.sc Ae)<|cx (Az 1 6) 6 Yal
theorem Y53 {x0 x1 x2 x3 r}  : l6 x0 x1 x2 x3=some r->Zq Tryz.prog Mo (Uz x0 x1 x2 x3 r):=
 fK Tryz.func192<|br Ymn λ{r3}=>br Ypq<|it (jk 7<|jw (Zl.sc r3)<|cx (fz 1 1 1024++fz 4 2 2048++Zl.ff 5 2 1024) 7 rD)<|jk 4<|it (jk 3<|jw (Zl.sc r3)<|cx (fz 1 1 1024++fz 4 2 2048++Zl.ff 5 2 1024) 7 rD)<|jk 1<|it (jk 1<|br Na<|jk 2<|br Yd<|jk 4<|jw (Zl.sc r3)<|cx (fz 1 1 1024++fz 4 2 2048++Zl.ff 5 2 1024) 7 rD)<|jk 7<|jw (Zl.sc r3)<|cx (fz 1 1 1024++fz 4 2 2048++Zl.ff 5 2 1024) 7 rD
abbrev Ymd (x0:List Int) (x1:Int) (x2:Int) (r:Int×Bool):Y:=(191,[.tr (x0.map Zd),il x1,il x2],.AZ [il r.1,bl r.2],un 3)
theorem Ynu {x0 x1 x2 r}:∀{m v0 v1},l7 x0 x1 x2 m v0 v1=some r->CS (Ymd x0 x1 x2 r) Tryz.f191 [1,1,1,0,1,0] [(0,.tr (x0.map Zd)),(1,il x1),(8,il v0),(9,il v1)] []:=by
 intro m
 induction m with
 | zero=>intro v0 v1 h;cases h
 | succ m ih=>exact st<|it (bb Zd<|cx [] 11 ih)<|rt
theorem Y1d {x0 x1 x2 r}  : l8 x0 x1 x2=some r->Zq Tryz.prog Mo (Ymd x0 x1 x2 r):=
 fK Tryz.func191<|br Ykh<|it rt<|br OE<|cx [] 13 Ynu
abbrev rE (x0:Zf) (x1:Bool) (x2:Int) (x3:Int) (x4:Int) (r:Zf×Int×Int):Y:=(144,[.agg (Zf.enc x0),bl x1,il x2,il x3,il x4],.AZ [.agg (Zf.ow r.1),il r.2.1,il r.2.2],un 5)
theorem Z34 {x0 x1 x2 x3 x4 r} {Ae A1 v0 v1}:l9 x0 x1 x2 x3 x4 Ae A1 v0 v1=some r->CS (rE x0 x1 x2 x3 x4 r) Tryz.f144 [1,1,1,0,1,0,1,1,1,0,1,1] [(10,pt 1),(13,pt 5),(16,pt 9),(17,il v0),(87,bl v1)] (Zf.bk Zf.z0 2++[bx 1 (Zf.rl Zf.z0 2)]++Zf.bk Ae 6++[bx 5 (Zf.rl Ae 6)]++Zl.bk A1 10++[bx 9 (Zl.rl A1 10)]):=
 st<|it (jk 3<|je Zd Ae.mem<|jw (Zl.so A1)<|rt)<|jk 3<|jw (Zf.so Ae)<|rt
theorem Z5o {x0 x1 x2 x3 x4 r} {AI v2 v3}:mA x0 x1 x2 x3 x4 AI v2 v3=some r->CS (rE x0 x1 x2 x3 x4 r) Tryz.f144 [1,1,1,0,1,0,1] [(1,bl x1),(2,il x2),(3,il x3),(4,il x4),(5,pt 1),(10,pt 2),(13,pt 6),(43,il v2),(44,bl v3)] ([bx 1 (Zf.enc x0)]++Zf.bk Zf.z0 3++[bx 2 (Zf.rl Zf.z0 3)]++Zf.bk AI 7++[bx 6 (Zf.rl AI 7)]):=
 st<|it (it (br Y1h λ{r0}=>jk 3<|je Zd r0.1<|jw (Zl.so AI.dev)<|rt)<|br Y1d<|jk 3<|jw (Zf.so AI)<|rt)<|it (br Y53 λ{r2}=>it (jk 1<|jw (Zf.sc Zf.z0)<|jw (Zf.sc AI)<|jw (Zl.sc r2.1)<|cx (fz 1 1 2++fz 2 1 3++fz 3 1 4++fz 4 1 5++fz 5 1 6++fz 6 1 7++fz 7 1 8++fz 8 1 9++fz 9 3 11264++Zl.ff 10 3 6144) 8 Z34)<|jk 1<|jw (Zf.sc Zf.z0)<|jw (Zf.sc AI)<|jw (Zl.sc r2.1)<|cx (fz 1 1 2++fz 2 1 3++fz 3 1 4++fz 4 1 5++fz 5 1 6++fz 6 1 7++fz 7 1 8++fz 8 1 9++fz 9 3 11264++Zl.ff 10 3 6144) 8 Z34)<|jk 3<|jw (Zf.so AI)<|rt
theorem rF {x0 x1 x2 x3 x4 r} {AI v4}:J1 x0 x1 x2 x3 x4 AI v4=some r->CS (rE x0 x1 x2 x3 x4 r) Tryz.f144 [1,1,0,1] [(1,bl x1),(2,il x2),(3,il x3),(4,il x4),(5,pt 1),(10,pt 2),(13,pt 6),(40,bl v4)] ([bx 1 (Zf.enc x0)]++Zf.bk Zf.z0 3++[bx 2 (Zf.rl Zf.z0 3)]++Zf.bk AI 7++[bx 6 (Zf.rl AI 7)]):=
 st<|it (jk 3<|jw (Zf.so AI)<|rt)<|br Yhh<|it (jw (Zf.sc Zf.z0)<|jw (Zf.sc AI)<|cx (Az 1 9) 11 Z5o)<|jw (Zf.sc Zf.z0)<|jw (Zf.sc AI)<|cx (Az 1 9) 11 Z5o
theorem Yhi {x0 x1 x2 x3 x4 r}  : TE x0 x1 x2 x3 x4=some r->Zq Tryz.prog Mo (rE x0 x1 x2 x3 x4 r):=
 fK Tryz.func144<|br Ykx λ{r4}=>br Ygx<|it (jk 8<|jw (Zf.sc r4)<|cx (fz 1 1 0++fz 2 1 1024++fz 6 2 2048++Zf.ff 7 2 1024) 7 rF)<|jk 2<|br cR<|jk 2<|it (jk 3<|jw (Zf.sc r4)<|cx (fz 1 1 0++fz 2 1 1024++fz 6 2 2048++Zf.ff 7 2 1024) 7 rF)<|jk 1<|it (jk 2<|br Na<|jk 2<|br Yd<|jk 4<|jw (Zf.sc r4)<|cx (fz 1 1 0++fz 2 1 1024++fz 6 2 2048++Zf.ff 7 2 1024) 7 rF)<|jk 8<|jw (Zf.sc r4)<|cx (fz 1 1 0++fz 2 1 1024++fz 6 2 2048++Zf.ff 7 2 1024) 7 rF
abbrev Yld (x0:Zg) (r:Zg×Bool):Y:=(146,[.agg (Zg.enc x0)],.AZ [.agg [.own 41 (r.1.queue.map Zj.enc),il r.1.An,il r.1.done,il r.1.tries,bl r.1.Ax,bl r.1.broken],bl r.2],un 1)
theorem Z7c {x0 r} {Ae v0}:mB x0 Ae v0=some r->CS (Yld x0 r) Tryz.f146 [1,1,0,1] [(1,pt 1),(2,pt 2),(4,pt 4),(16,bl v0)] [bx 1 (Zg.enc x0),rx 3 41 ([].map Zj.enc),bx 2 [sq 3 ([].map Zj.enc).length,il 0,il 0,il 0,bl false,bl false],rx 5 41 (Ae.queue.map Zj.enc),bx 4 [sq 5 (Ae.queue.map Zj.enc).length,il Ae.An,il Ae.done,il Ae.tries,bl Ae.Ax,bl Ae.broken]]:=
 st<|it (jk 1<|je Zj.enc Ae.queue<|rt)<|br cS<|it (jp (.num (1:Int).toNat ((Ae.queue.length:Int):Int).toNat (((Ae.queue.length:Int):Int).toNat - (1:Int).toNat) [])<|jk 1<|bn λ{s0} BT=>jp (.mk 0 (s0.map Zj.enc))<|je Zj.enc Ae.queue<|jo (Gl BT).1<|jo (JE Zj.enc Ae.queue)<|jo (Gm Zj.enc BT)<|jo (D3 6 Zj.AE Ae.queue)<|jo (Eq.refl (((Ae.queue.length:Int):Int).toNat - (1:Int).toNat))<|jo (kC Zj.enc BT)<|jo (Hv Zj.enc BT)<|rt)<|jk 1<|je Zj.enc Ae.queue<|rt
theorem Y24 {x0 r}  : mC x0=some r->Zq Tryz.prog Mo (Yld x0 r):=
 fK Tryz.func146<|br cT λ{r1}=>br Ux<|it (jk 5<|jn Zj.enc r1.queue<|cx (fz 1 1 0++fz 2 1 1024++fz 4 2 2048++fz 5 2 1024) 7 Z7c)<|jk 5<|jn Zj.enc r1.queue<|cx (fz 1 1 0++fz 2 1 1024++fz 4 2 2048++fz 5 2 1024) 7 Z7c
abbrev Yap (x0:Za) (x1:Zb) (r:Za):Y:=(97,[.agg (Za.ow x0),.agg (Zb.enc x1)],.agg (Za.ow r),un 2)
theorem Z0h {x0 x1 r} {Ae A1 AI}:aA x0 x1 Ae A1 AI=some r->CS (Yap x0 x1 r) Tryz.f97 [1,1,1,1,1,1,1,1] [(2,pt 1),(4,pt 10),(5,pt 19),(6,pt 20),(8,pt 21)] (Za.bk Ae 2++[bx 1 (Za.rl Ae 2)]++Za.bk Za.z0 11++[bx 10 (Za.rl Za.z0 11),bx 19 (Zh.enc x0.Aa),bx 20 (Zg.enc A1),bx 21 (Zs.enc AI)]):=
 st<|bn λ{z0} Xr=>jt Zs.enc [AI] z0<|jk 1<|ja 7 Zs.AE AI<|jx Zs.enc Xr<|je Zs.enc z0<|br Y24 λ{r0}=>bn λCc=>bn λ{y0} K7=>jw (xq Zg.enc Cc y0)<|jk 1<|je Zj.enc r0.1.queue<|jo (Ls Zg.enc K7)<|it (jk 3<|it (jk 8<|je Ze.enc Ae.Ad.Ab<|jo (Jx Zg.enc K7)<|je Zk.enc Ae.buckets<|je Zd Ae.splits<|jw (Zf.so Ae.model)<|je Zs.enc z0<|rt)<|jk 8<|je Ze.enc Ae.Ad.Ab<|jo (Jx Zg.enc K7)<|je Zk.enc Ae.buckets<|je Zd Ae.splits<|jw (Zf.so Ae.model)<|je Zs.enc z0<|rt)<|jk 12<|je Ze.enc Ae.Ad.Ab<|jo (Jx Zg.enc K7)<|je Zk.enc Ae.buckets<|je Zd Ae.splits<|jw (Zf.so Ae.model)<|je Zs.enc z0<|rt
theorem Yqm {x0 x1 r}  : mD x0 x1=some r->Zq Tryz.prog Mo (Yap x0 x1 r):=
 fK Tryz.func97<|bn λCV=>jw (xd Zg.enc CV)<|it (bn λCz=>jw (xp Zg.enc CV Cz)<|jk 8<|je Ze.enc x0.Ad.Ab<|jo (Jx Zg.enc Cz)<|je Zk.enc x0.buckets<|je Zd x0.splits<|jw (Zf.so x0.model)<|je Zs.enc x0.log<|br Z6n λ{r1}=>jk 8<|jw (Za.so r1)<|rt)<|it (bn λDL=>jw (xp Zg.enc CV DL)<|jk 1<|je Ze.enc x0.Ad.Ab<|br Yzo<|bn λDM=>bn λG7=>jw (xp Zd DM G7)<|jk 8<|je Ze.enc x0.Ad.Ab<|jo (Jx Zg.enc DL)<|je Zk.enc x0.buckets<|jo (Jx Zd G7)<|jw (Zf.so x0.model)<|je Zs.enc x0.log<|br Z6n λ{r3}=>jk 8<|jw (Za.so r3)<|rt)<|bb Zj.enc<|br rC<|it (br Ydc<|jk 3<|jw (Zf.so x0.model)<|br Yhi λ{r6}=>jw (Za.sc {x0 with Aa:=Zh.z0,model:=r6.1})<|cx (fz 1 1 0++fz 2 0 0++fz 3 0 7++fz 4 0 10++fz 5 0 11++fz 6 11 12288++fz 7 11 12289++fz 8 11 12291++fz 9 0 36++fz 10 1 2048++fz 19 2 2048++fz 20 4 6144++fz 21 9 15360) 29 Z0h)<|jw (Za.sc {x0 with Aa:=Zh.z0})<|cx (fz 1 1 0++Za.ff 2 0 0++fz 10 1 2048++fz 19 2 2048++fz 20 4 6144++fz 21 9 15360) 29 Z0h
abbrev Y25 (x0:Zb) (x1:Int) (r:Int):Y:=(152,[.agg (Zb.enc x0),il x1],il r,un 2)
theorem Y3j {x0 x1 r}  : mE x0 x1=some r->Zq Tryz.prog Mo (Y25 x0 x1 r):=
 fK Tryz.func152<|br Yif<|it (jk 3<|rt)<|jk 2<|it rt<|rt
abbrev Y1c (x0:Zi) (x1:Zb) (x2:Int) (r:Int):Y:=(153,[.agg (Zi.enc x0),.agg (Zb.enc x1),il x2],il r,un 3)
theorem Y27 {x0 x1 x2 r}  : mF x0 x1 x2=some r->Zq Tryz.prog Mo (Y1c x0 x1 x2 r):=
 fK Tryz.func153<|br Yif<|rt
abbrev Nb (x0:Za) (x1:Zb) (r:Za):Y:=(99,[.agg (Za.ow x0),.agg (Zb.enc x1)],.agg (Za.ow r),un 2)
theorem Z3c {x0 x1 r} {Ae}:aB x0 x1 Ae=some r->CS (Nb x0 x1 r) Tryz.f99 [1,1,1,1,1,1,1,1,1,1,1,1,1] [(2,pt 1),(4,pt 10),(5,pt 19)] (Za.bk {x0 with addr:=Zh.z0} 2++[bx 1 (Za.rl {x0 with addr:=Zh.z0} 2)]++Za.bk Za.z0 11++[bx 10 (Za.rl Za.z0 11),bx 19 (Zh.enc Ae)]):=
 st<|jk 8<|jw (Za.so x0)<|rt
theorem cU {x0 x1 r} {Ae v0}:Jl x0 x1 Ae v0=some r->CS (Nb x0 x1 r) Tryz.f99 [1,1,1,1,1,1,1,1,1,1,1,1,0,1] [(2,pt 1),(4,pt 10),(5,pt 19),(128,bl v0)] (Za.bk {x0 with addr:=Zh.z0} 2++[bx 1 (Za.rl {x0 with addr:=Zh.z0} 2)]++Za.bk Za.z0 11++[bx 10 (Za.rl Za.z0 11),bx 19 (Zh.enc Ae)]):=
 st<|it (jw (Za.sc {x0 with addr:=Zh.z0})<|jw (Za.sc Za.z0)<|cx (Az 1 19) 2 Z3c)<|jw (Za.sc {x0 with addr:=Zh.z0})<|jw (Za.sc Za.z0)<|cx (Az 1 19) 2 Z3c
theorem Z2g {x0 x1 r} {Ae A1 v1 v2}:TF x0 x1 Ae A1 v1 v2=some r->CS (Nb x0 x1 r) Tryz.f99 [1,1,1,1,1,1,1,1,1,1,1,1] [(2,pt 1),(4,pt 10),(5,pt 19),(6,pt 20),(9,il v1),(10,il v2)] (Za.bk {x0 with addr:=Zh.z0} 2++[bx 1 (Za.rl {x0 with addr:=Zh.z0} 2)]++Za.bk Za.z0 11++[bx 10 (Za.rl Za.z0 11),bx 19 (Zh.enc Ae),bx 20 (Zg.enc A1)]):=
 st<|it (jk 2<|it (jk 2<|it (jk 3<|it (jk 5<|jw (Za.sc {x0 with addr:=Zh.z0})<|jw (Za.sc Za.z0)<|cx (Az 1 19) 3 cU)<|jk 5<|jw (Za.sc {x0 with addr:=Zh.z0})<|jw (Za.sc Za.z0)<|cx (Az 1 19) 3 cU)<|jk 9<|jw (Za.sc {x0 with addr:=Zh.z0})<|jw (Za.sc Za.z0)<|cx (Az 1 19) 3 cU)<|jk 12<|jw (Za.sc {x0 with addr:=Zh.z0})<|jw (Za.sc Za.z0)<|cx (Az 1 19) 3 cU)<|jk 15<|jw (Za.sc {x0 with addr:=Zh.z0})<|jw (Za.sc Za.z0)<|cx (Az 1 19) 3 cU
theorem cV {x0 x1 r} {Ae A1 v1 v2 v3}:Jb x0 x1 Ae A1 v1 v2 v3=some r->CS (Nb x0 x1 r) Tryz.f99 [1,1,1,1,1,1,1,1,1,1,1,0,1] [(2,pt 1),(4,pt 10),(5,pt 19),(6,pt 20),(9,il v1),(10,il v2),(104,bl v3)] (Za.bk {x0 with addr:=Zh.z0} 2++[bx 1 (Za.rl {x0 with addr:=Zh.z0} 2)]++Za.bk Za.z0 11++[bx 10 (Za.rl Za.z0 11),bx 19 (Zh.enc Ae),bx 20 (Zg.enc A1)]):=
 st<|it (jw (Za.sc {x0 with addr:=Zh.z0})<|jw (Za.sc Za.z0)<|cx (Az 1 20) 2 Z2g)<|jw (Za.sc {x0 with addr:=Zh.z0})<|jw (Za.sc Za.z0)<|cx (Az 1 20) 2 Z2g
theorem Z3j {x0 x1 r} {Ae A1 v1 v2}:TG x0 x1 Ae A1 v1 v2=some r->CS (Nb x0 x1 r) Tryz.f99 [1,1,1,1,1,1,1,1,1,1,1] [(2,pt 1),(4,pt 10),(5,pt 19),(6,pt 20),(9,il v1),(10,il v2)] (Za.bk {x0 with addr:=Zh.z0} 2++[bx 1 (Za.rl {x0 with addr:=Zh.z0} 2)]++Za.bk Za.z0 11++[bx 10 (Za.rl Za.z0 11),bx 19 (Zh.enc Ae),bx 20 (Zg.enc A1)]):=
 st<|it (jk 2<|it (jk 2<|it (jk 11<|jw (Za.sc {x0 with addr:=Zh.z0})<|jw (Za.sc Za.z0)<|cx (Az 1 20) 3 cV)<|jk 4<|it (jk 6<|jw (Za.sc {x0 with addr:=Zh.z0})<|jw (Za.sc Za.z0)<|cx (Az 1 20) 3 cV)<|jk 6<|jw (Za.sc {x0 with addr:=Zh.z0})<|jw (Za.sc Za.z0)<|cx (Az 1 20) 3 cV)<|jk 11<|jw (Za.sc {x0 with addr:=Zh.z0})<|jw (Za.sc Za.z0)<|cx (Az 1 20) 3 cV)<|jk 14<|jw (Za.sc {x0 with addr:=Zh.z0})<|jw (Za.sc Za.z0)<|cx (Az 1 20) 3 cV
theorem Z3e {x0 x1 r} {Ae A1 v1 v2 v4}:TH x0 x1 Ae A1 v1 v2 v4=some r->CS (Nb x0 x1 r) Tryz.f99 [1,1,1,1,1,1,1,1,1,1,0,1] [(2,pt 1),(4,pt 10),(5,pt 19),(6,pt 20),(9,il v1),(10,il v2),(77,bl v4)] (Za.bk {x0 with addr:=Zh.z0} 2++[bx 1 (Za.rl {x0 with addr:=Zh.z0} 2)]++Za.bk Za.z0 11++[bx 10 (Za.rl Za.z0 11),bx 19 (Zh.enc Ae),bx 20 (Zg.enc A1)]):=
 st<|it (jw (Za.sc {x0 with addr:=Zh.z0})<|jw (Za.sc Za.z0)<|cx (Az 1 20) 2 Z3j)<|jw (Za.sc {x0 with addr:=Zh.z0})<|jw (Za.sc Za.z0)<|cx (Az 1 20) 2 Z3j
theorem Z14 {x0 x1 r} {Ae A1 v1 v2}:TI x0 x1 Ae A1 v1 v2=some r->CS (Nb x0 x1 r) Tryz.f99 [1,1,1,1,1,1,1,1,1,1] [(2,pt 1),(4,pt 10),(5,pt 19),(6,pt 20),(9,il v1),(10,il v2)] (Za.bk {x0 with addr:=Zh.z0} 2++[bx 1 (Za.rl {x0 with addr:=Zh.z0} 2)]++Za.bk Za.z0 11++[bx 10 (Za.rl Za.z0 11),bx 19 (Zh.enc Ae),bx 20 (Zg.enc A1)]):=
 st<|it (jk 3<|jw (Za.sc {x0 with addr:=Zh.z0})<|jw (Za.sc Za.z0)<|cx (Az 1 20) 3 Z3e)<|jk 3<|jw (Za.sc {x0 with addr:=Zh.z0})<|jw (Za.sc Za.z0)<|cx (Az 1 20) 3 Z3e
theorem Z1o {x0 x1 r} {AI TK v5 v1 v2 v6}:TJ x0 x1 AI TK v5 v1 v2 v6=some r->CS (Nb x0 x1 r) Tryz.f99 [1,1,1,1,1,1,1,1,1,0,0,1] [(2,pt 1),(3,pt 10),(4,pt 11),(5,pt 20),(6,pt 21),(7,pt 22),(8,il v5),(9,il v1),(10,il v2),(63,bl v6)] (Za.bk {x0 with addr:=Zh.z0} 2++[bx 1 (Za.rl {x0 with addr:=Zh.z0} 2),bx 10 (Zb.enc x1)]++Za.bk Za.z0 12++[bx 11 (Za.rl Za.z0 12),bx 20 (Zh.enc x0.addr),bx 21 (Zg.enc AI),bx 22 (Zj.enc TK)]):=
 st<|it (jw (Za.sc {x0 with addr:=Zh.z0})<|jw (Za.sc Za.z0)<|cx (Az 1 9++fz 10 1 11++fz 11 1 12++fz 12 1 13++fz 13 1 14++fz 14 1 15++fz 15 1 16++fz 16 1 17++fz 17 1 18++fz 18 1 19++fz 19 1 20++fz 20 1 21) 3 Z14)<|jk 1<|je Ze.enc x0.Ad.Ab<|br Y27<|br Ydc<|jk 3<|jw (Zf.so x0.model)<|br Yhi<|jw (Za.sc {x0 with addr:=Zh.z0})<|jw (Za.sc Za.z0)<|cx (Az 1 9++fz 10 1 11++fz 11 1 12++fz 12 1 13++fz 13 1 14++fz 14 1 15++fz 15 1 16++fz 16 1 17++fz 17 1 18++fz 18 1 19++fz 19 1 20++fz 20 1 21) 5 Z14
theorem Ysz {x0 x1 r}  : mG x0 x1=some r->Zq Tryz.prog Mo (Nb x0 x1 r):=
 fK Tryz.func99<|it (jk 8<|jw (Za.so x0)<|rt)<|bd Zg.enc<|bb Zj.enc<|br rC<|br Yhh<|br Y3j<|it (jk 2<|jw (Za.sc {x0 with addr:=Zh.z0})<|cx (fz 1 1 0++Za.ff 2 0 0++fz 10 1 1024++fz 11 1 2048++fz 20 2 2048++fz 21 5 6144++fz 22 6 4096) 25 Z1o)<|jk 2<|jw (Za.sc {x0 with addr:=Zh.z0})<|cx (fz 1 1 0++Za.ff 2 0 0++fz 10 1 1024++fz 11 1 2048++fz 20 2 2048++fz 21 5 6144++fz 22 6 4096) 25 Z1o
abbrev Ysj (x0:Zg) (r:Bool):Y:=(147,[.agg (Zg.enc x0)],bl r,un 1)
theorem Ycs {x0 r}  : aC x0=some r->Zq Tryz.prog Mo (Ysj x0 r):=
 fK Tryz.func147<|br Ux<|it (jk 3<|br cS<|jk 2<|rt)<|jk 5<|rt
abbrev Z7g (x0:Zk) (x1:Ze) (r:Zk×Bool):Y:=(148,[.agg (Zk.enc x0),.agg (Ze.enc x1)],.AZ [.agg (Zk.enc r.1),bl r.2],un 2)
theorem Zqe {x0 x1 r} {v0}:aD x0 x1 v0=some r->CS (Z7g x0 x1 r) Tryz.f148 [1,0,1] [(2,pt 1),(4,pt 2),(19,bl v0)] [bx 1 (Zk.enc x0),bx 2 (Zk.enc Zk.z0)]:=
 st<|it rt<|rt
theorem Yng {x0 x1 r}  : mH x0 x1=some r->Zq Tryz.prog Mo (Z7g x0 x1 r):=
 fK Tryz.func148<|it (jk 8<|cx (fz 1 1 0++fz 2 1 2048) 5 Zqe)<|jk 2<|br rB<|jk 2<|it (jk 3<|cx (fz 1 1 0++fz 2 1 2048) 5 Zqe)<|jk 3<|cx (fz 1 1 0++fz 2 1 2048) 5 Zqe
abbrev Ydl (x0:Zg) (r:Zg×Bool):Y:=(150,[.agg (Zg.enc x0)],.AZ [.agg [.own 41 (r.1.queue.map Zj.enc),il r.1.An,il r.1.done,il r.1.tries,bl r.1.Ax,bl r.1.broken],bl r.2],un 1)
theorem Z3d {x0 r} {Ae v0}:mI x0 Ae v0=some r->CS (Ydl x0 r) Tryz.f150 [1,1,0,1] [(2,pt 1),(4,pt 3),(17,bl v0)] [rx 2 41 ([].map Zj.enc),bx 1 [sq 2 ([].map Zj.enc).length,il 0,il 0,il 0,bl false,bl false],rx 4 41 (Ae.queue.map Zj.enc),bx 3 [sq 4 (Ae.queue.map Zj.enc).length,il Ae.An,il Ae.done,il Ae.tries,bl Ae.Ax,bl Ae.broken]]:=
 st<|it (jk 1<|je Zj.enc Ae.queue<|rt)<|jk 1<|je Zj.enc Ae.queue<|rt
theorem Yvh {x0 r}  : mJ x0=some r->Zq Tryz.prog Mo (Ydl x0 r):=
 fK Tryz.func150<|br cT λ{r0}=>br Ycs<|it (jk 6<|jn Zj.enc r0.queue<|cx (fz 1 1 1024++fz 3 2 2048++fz 4 2 1024) 7 Z3d)<|jk 6<|jn Zj.enc r0.queue<|cx (fz 1 1 1024++fz 3 2 2048++fz 4 2 1024) 7 Z3d
abbrev rG (x0:Ya) (x1:Zi) (x2:List Bool) (r:Ya×Int):Y:=(149,[.agg (Ya.enc x0),.agg (Zi.enc x1),.tr (x2.map Z9)],.AZ [.agg (Ya.enc r.1),il r.2],un 3)
theorem Ylz {x0 x1 x2 r}:∀{m v0},mK x0 x1 x2 m v0=some r->CS (rG x0 x1 x2 r) Tryz.f149 [1,1,1,0,1,0] [(2,.tr (x2.map Z9)),(3,pt 1),(4,pt 2),(6,pt 3),(8,il v0)] [bx 1 (Ya.enc x0),bx 2 (Zi.enc x1),bx 3 (Ya.enc Ya.z0)]:=by
 intro m
 induction m with
 | zero=>intro v0 h;cases h
 | succ m ih=>exact st<|js Z9 x2<|it (js Z9 x2<|jl<|bo Lt<|bb Z9<|it (br Z8w<|rt)<|cx (Az 1 3) 16 ih)<|rt
theorem Z44 {x0 x1 x2 r} {v1}:mL x0 x1 x2 v1=some r->CS (rG x0 x1 x2 r) Tryz.f149 [1,1,0,1] [(2,.tr (x2.map Z9)),(3,pt 1),(4,pt 2),(6,pt 3),(32,bl v1)] [bx 1 (Ya.enc x0),bx 2 (Zi.enc x1),bx 3 (Ya.enc Ya.z0)]:=
 st<|it rt<|cx (Az 1 3) 6 Ylz
theorem Z4d {x0 x1 x2 r} {v2}:mM x0 x1 x2 v2=some r->CS (rG x0 x1 x2 r) Tryz.f149 [1,0,1] [(2,.tr (x2.map Z9)),(3,pt 1),(4,pt 2),(6,pt 3),(21,bl v2)] [bx 1 (Ya.enc x0),bx 2 (Zi.enc x1),bx 3 (Ya.enc Ya.z0)]:=
 st<|it rt<|it (jk 3<|bb Z9<|jk 2<|cx (Az 1 3) 5 Z44)<|jk 5<|cx (Az 1 3) 5 Z44
theorem Yxz {x0 x1 x2 r}  : mN x0 x1 x2=some r->Zq Tryz.prog Mo (rG x0 x1 x2 r):=
 fK Tryz.func149<|br Yc8<|it (jk 6<|cx (fz 1 1 0++fz 2 1 1024++fz 3 1 2048) 5 Z4d)<|jk 1<|js Z9 x2<|jk 3<|js Ze.enc x1.Ab<|jk 2<|cx (fz 1 1 0++fz 2 1 1024++fz 3 1 2048) 5 Z4d
abbrev Q4 (x0:Za) (r:Za):Y:=(98,[.agg (Za.ow x0)],.agg (Za.ow r),un 1)
theorem Z3i {x0 r} {DF:Za->Zh->(List Bool)->Int->Option Za} (JJ:∀{Ae A1 v0 v1},DF Ae A1 v0 v1=some r->CS (Q4 x0 r) Tryz.f98 [1,1,1,1,1,0,1,0] [(1,pt 1),(2,pt 10),(3,sq 20 (v0.map Z9).length),(5,pt 19),(6,il v1)] (Za.bk Ae 2++[bx 1 (Za.rl Ae 2)]++Za.bk Za.z0 11++[bx 10 (Za.rl Za.z0 11),bx 19 (Zh.enc A1),rx 20 4 (v0.map Z9)])) {Ae A1 v0 v1 v2}:mO x0 DF Ae A1 v0 v1 v2=some r->CS (Q4 x0 r) Tryz.f98 [1,1,1,1,1,0,1,0,0,1,0,0,1] [(1,pt 1),(2,pt 10),(3,sq 20 (v0.map Z9).length),(5,pt 19),(6,il v1),(84,bl v2)] (Za.bk Ae 2++[bx 1 (Za.rl Ae 2)]++Za.bk Za.z0 11++[bx 10 (Za.rl Za.z0 11),bx 19 (Zh.enc A1),rx 20 4 (v0.map Z9)]):=
 st<|it (bn λCc=>jw (xd Zk.enc Cc)<|bd Ze.enc<|br Yng<|bn λ{y0} K7=>jw (xp Zk.enc Cc K7)<|jn Z9 v0<|jw (tq (Za.nm {Ae with buckets:=y0}))<|je Ze.enc Ae.Ad.Ab<|je Zg.enc Ae.m<|jo (Jx Zk.enc K7)<|je Zd Ae.splits<|jw (Zf.so Ae.model)<|je Zs.enc Ae.log<|jw (Za.sc Za.z0)<|cx (Az 1 20) 6 JJ)<|jn Z9 v0<|jw (Za.sc Ae)<|jw (Za.sc Za.z0)<|cx (Az 1 20) 4 JJ
theorem Z0e {x0 r} {Ae A1 AI}:mP x0 Ae A1 AI=some r->CS (Q4 x0 r) Tryz.f98 [1,1,1,1,1,1,1,1,1,1,1,1,1] [(1,pt 1),(2,pt 10),(5,pt 19),(7,pt 20)] (Za.bk Ae 2++[bx 1 (Za.rl Ae 2)]++Za.bk Za.z0 11++[bx 10 (Za.rl Za.z0 11),bx 19 (Zh.enc A1),bx 20 (Zg.enc AI)]):=
 st<|br Yvh λ{r1}=>bn λDM=>bn λ{y1} Cz=>jw (xq Zg.enc DM y1)<|jk 9<|je Zj.enc r1.1.queue<|jo (Ls Zg.enc Cz)<|je Ze.enc Ae.Ad.Ab<|jo (Jx Zg.enc Cz)<|je Zk.enc Ae.buckets<|je Zd Ae.splits<|jw (Zf.so Ae.model)<|je Zs.enc Ae.log<|rt
theorem Zr1 {x0 r} {Ae A1 AI v3}:aE x0 Ae A1 AI v3=some r->CS (Q4 x0 r) Tryz.f98 [1,1,1,1,1,1,1,1,1,1,1,1,0,1] [(1,pt 1),(2,pt 10),(5,pt 19),(7,pt 20),(165,bl v3)] (Za.bk Ae 2++[bx 1 (Za.rl Ae 2)]++Za.bk Za.z0 11++[bx 10 (Za.rl Za.z0 11),bx 19 (Zh.enc A1),bx 20 (Zg.enc AI)]):=
 st<|it (jw (Za.sc {Ae with Af:=A1.Ah,held:=0})<|jw (Za.sc Za.z0)<|cx (Az 1 20) 4 Z0e)<|jw (Za.sc Ae)<|jw (Za.sc Za.z0)<|cx (Az 1 20) 2 Z0e
theorem Z3m {x0 r} {Ae A1 AI}:aF x0 Ae A1 AI=some r->CS (Q4 x0 r) Tryz.f98 [1,1,1,1,1,1,1,1,1,1,1,1] [(1,pt 1),(2,pt 10),(5,pt 19),(7,pt 20)] (Za.bk Ae 2++[bx 1 (Za.rl Ae 2)]++Za.bk Za.z0 11++[bx 10 (Za.rl Za.z0 11),bx 19 (Zh.enc A1),bx 20 (Zg.enc AI)]):=
 st<|bb Zj.enc<|it (jk 3<|it (jk 3<|jw (Za.sc Ae)<|jw (Za.sc Za.z0)<|cx (Az 1 20) 3 Zr1)<|jk 3<|jw (Za.sc Ae)<|jw (Za.sc Za.z0)<|cx (Az 1 20) 3 Zr1)<|jk 7<|jw (Za.sc Ae)<|jw (Za.sc Za.z0)<|cx (Az 1 20) 3 Zr1
theorem Z3k {x0 r} {Ae A1}:Oy x0 Ae A1=some r->CS (Q4 x0 r) Tryz.f98 [1,1,1,1,1,1,1] [(1,pt 1),(2,pt 10),(5,pt 19)] (Za.bk Ae 2++[bx 1 (Za.rl Ae 2)]++Za.bk Za.z0 11++[bx 10 (Za.rl Za.z0 11),bx 19 (Zh.enc A1)]):=
 st<|it (jk 8<|jw (Za.so Ae)<|rt)<|bd Zg.enc<|it (jk 5<|jw (Za.sc Ae)<|jw (Za.sc Za.z0)<|cx (Az 1 19++fz 20 3 6144) 13 Z3m)<|jk 5<|jw (Za.sc Ae)<|jw (Za.sc Za.z0)<|cx (Az 1 19++fz 20 3 6144) 13 Z3m
theorem Z1n {x0 r} {Ae A1 v0 v4}:aG x0 Ae A1 v0 v4=some r->CS (Q4 x0 r) Tryz.f98 [1,1,1,1,1,1,0,1] [(1,pt 1),(2,pt 10),(3,sq 20 (v0.map Z9).length),(5,pt 19),(113,bl v4)] (Za.bk Ae 2++[bx 1 (Za.rl Ae 2)]++Za.bk Za.z0 11++[bx 10 (Za.rl Za.z0 11),bx 19 (Zh.enc A1),rx 20 4 (v0.map Z9)]):=
 st<|it (jk 2<|je Ze.enc Ae.Ad.Ab<|je Z9 v0<|br Yxz λ{r2}=>jw (Za.sc {Ae with Bq:=r2.1})<|jw (Za.sc Za.z0)<|cx (Az 1 19) 4 Z3k)<|jw (Za.sc Ae)<|jw (Za.sc Za.z0)<|cx (Az 1 19) 2 Z3k
theorem Z25 {x0 r} {DF:Za->Zh->(List Bool)->Int->Option Za} (JJ:∀{Ae A1 v0 v1},DF Ae A1 v0 v1=some r->CS (Q4 x0 r) Tryz.f98 [1,1,1,1,1,0,1,0] [(1,pt 1),(2,pt 10),(3,sq 20 (v0.map Z9).length),(5,pt 19),(6,il v1)] (Za.bk Ae 2++[bx 1 (Za.rl Ae 2)]++Za.bk Za.z0 11++[bx 10 (Za.rl Za.z0 11),bx 19 (Zh.enc A1),rx 20 4 (v0.map Z9)])) {Ae A1 v0 v1 v5}:TL x0 DF Ae A1 v0 v1 v5=some r->CS (Q4 x0 r) Tryz.f98 [1,1,1,1,1,0,1,0,0,0,1] [(1,pt 1),(2,pt 10),(3,sq 20 (v0.map Z9).length),(5,pt 19),(6,il v1),(69,bl v5)] (Za.bk Ae 2++[bx 1 (Za.rl Ae 2)]++Za.bk Za.z0 11++[bx 10 (Za.rl Za.z0 11),bx 19 (Zh.enc A1),rx 20 4 (v0.map Z9)]):=
 st<|it (bd Z9<|it (jk 3<|bn λ{a6} rH=>jp (.row (v1:Int).toNat (Zk.enc a6))<|jk 2<|jp (.cell (Zk.enc a6))<|jk 2<|jp (.num (v0.map Z9).length 0 0 [])<|jo (Ht rH)<|jo (HT Zk.enc rH)<|jo (Dl Zk.enc rH)<|jo (Dl Zk.enc rH)<|je Z9 v0<|jw (Za.sc Ae)<|jw (Za.sc Za.z0)<|cx (Az 1 20) 6 (Z3i JJ))<|jk 7<|jn Z9 v0<|jw (Za.sc Ae)<|jw (Za.sc Za.z0)<|cx (Az 1 20) 6 (Z3i JJ))<|it (jk 3<|jn Z9 v0<|jw (Za.sc Ae)<|jw (Za.sc Za.z0)<|cx (Az 1 20) 8 Z1n)<|jk 3<|jn Z9 v0<|jw (Za.sc Ae)<|jw (Za.sc Za.z0)<|cx (Az 1 20) 8 Z1n
theorem Yib {x0 r}:∀{m Ae A1 v0 v1},Rz x0 m Ae A1 v0 v1=some r->CS (Q4 x0 r) Tryz.f98 [1,1,1,1,1,0,1,0] [(1,pt 1),(2,pt 10),(3,sq 20 (v0.map Z9).length),(5,pt 19),(6,il v1)] (Za.bk Ae 2++[bx 1 (Za.rl Ae 2)]++Za.bk Za.z0 11++[bx 10 (Za.rl Za.z0 11),bx 19 (Zh.enc A1),rx 20 4 (v0.map Z9)]):=by
 intro m
 induction m with
 | zero=>intro Ae A1 v0 v1 h;cases h
 | succ m ih=>exactλ{Ae} {A1} {v0} {v1}=>st<|js Zg.enc Ae.m<|it (jk 3<|jn Z9 v0<|jw (Za.sc Ae)<|jw (Za.sc Za.z0)<|cx (Az 1 20) 4 (Z25 ih))<|jk 3<|jn Z9 v0<|jw (Za.sc Ae)<|jw (Za.sc Za.z0)<|cx (Az 1 20) 4 (Z25 ih)
theorem Z16 {x0 r} {A1 v0}:mQ x0 A1 v0=some r->CS (Q4 x0 r) Tryz.f98 [1,1,1,1,1] [(1,pt 1),(2,pt 10),(3,sq 20 (v0.map Z9).length),(5,pt 19)] (Za.bk x0 2++[bx 1 (Za.rl x0 2)]++Za.bk Za.z0 11++[bx 10 (Za.rl Za.z0 11),bx 19 (Zh.enc A1),rx 20 4 (v0.map Z9)]):=
 st<|jn Z9 v0<|jw (Za.sc x0)<|jw (Za.sc Za.z0)<|cx (Az 1 20) 4 Yib
theorem Z12 {x0 r} {v0 v6}:mR x0 v0 v6=some r->CS (Q4 x0 r) Tryz.f98 [1,1,1,1,0,1] [(1,pt 1),(2,pt 10),(3,sq 20 (v0.map Z9).length),(5,pt 19),(56,bl v6)] (Za.bk x0 2++[bx 1 (Za.rl x0 2)]++Za.bk Za.z0 11++[bx 10 (Za.rl Za.z0 11),bx 19 (Zh.enc (Zh.mk false (-1) 0 false 0 0 0 false)),rx 20 4 (v0.map Z9)]):=
 st<|it (jn Z9 v0<|jw (Za.sc x0)<|jw (Za.sc Za.z0)<|cx (Az 1 20) 2 Z16)<|jn Z9 v0<|jw (Za.sc x0)<|jw (Za.sc Za.z0)<|cx (Az 1 20) 2 Z16
theorem Yh8 {x0 r}:∀{m v0 v7},mT x0 m v0 v7=some r->CS (Q4 x0 r) Tryz.f98 [1,1,0,1,0] [(1,pt 1),(2,pt 10),(3,sq 19 (v0.map Z9).length),(4,il v7)] (Za.bk x0 2++[bx 1 (Za.rl x0 2)]++Za.bk Za.z0 11++[bx 10 (Za.rl Za.z0 11),rx 19 4 (v0.map Z9)]):=by
 intro m
 induction m with
 | zero=>intro v0 v7 h;cases h
 | succ m ih=>exactλ{v0} {v7}=>st<|js Zg.enc x0.m<|it (bd Zg.enc<|br Ycs<|it (jk 3<|bn λ{a8} HX=>jp (.row (v7:Int).toNat (Zd a8))<|jk 1<|jp (.cell (Zd a8))<|jk 2<|ig (λg3=>jp (.t true)<|jk 3<|ig (λg4=>jp (.t true)<|jk 6<|bn λ{z0} Xr=>jt Z9 [true] z0<|jk 1<|jp (.num (z0.map Z9).length 0 0 [])<|jo (Ht HX)<|jo (HT Zd HX)<|jo (Dl Zd HX)<|jo (Dl Zd HX)<|jo g3<|jo g4<|ja 1 Oo true<|jx Z9 Xr<|je Z9 z0<|je Z9 z0<|jw (Za.sc x0)<|jw (Za.sc Za.z0)<|cx (Az 1 18++fz 19 3 27648) 11 ih) λg4=>jp (.t false)<|jk 6<|bn λ{z0} Xr=>jt Z9 [decide (x0.Af=v7)] z0<|jk 1<|jp (.num (z0.map Z9).length 0 0 [])<|jo (Ht HX)<|jo (HT Zd HX)<|jo (Dl Zd HX)<|jo (Dl Zd HX)<|jo g3<|jo g4<|ja 1 Oo (decide (x0.Af=v7))<|jx Z9 Xr<|je Z9 z0<|je Z9 z0<|jw (Za.sc x0)<|jw (Za.sc Za.z0)<|cx (Az 1 18++fz 19 3 27648) 11 ih) λg3=>jp (.t false)<|jk 5<|bn λ{z0} Xr=>jt Z9 [false] z0<|jk 1<|jp (.num (z0.map Z9).length 0 0 [])<|jo (Ht HX)<|jo (HT Zd HX)<|jo (Dl Zd HX)<|jo (Dl Zd HX)<|jo g3<|ja 1 Oo false<|jx Z9 Xr<|je Z9 z0<|je Z9 z0<|jw (Za.sc x0)<|jw (Za.sc Za.z0)<|cx (Az 1 18++fz 19 3 27648) 11 ih)<|jk 12<|bn λ{z0} Xr=>jt Z9 [false] z0<|jk 1<|ja 1 Oo false<|jx Z9 Xr<|jn Z9 z0<|je Z9 z0<|jw (Za.sc x0)<|jw (Za.sc Za.z0)<|cx (Az 1 18++fz 19 3 27648) 11 ih)<|it (jk 3<|bn λ{a9} rI=>jp (.row (x0.Af:Int).toNat (Z9 a9))<|jk 1<|jp (.cell (Z9 a9))<|jk 1<|jp (.num (v0.map Z9).length 0 0 [])<|jo (Ht rI)<|jo (HT Z9 rI)<|jo (Dl Z9 rI)<|jo (Dl Z9 rI)<|je Z9 v0<|jw (Za.sc x0)<|jw (Za.sc Za.z0)<|cx (Az 1 18++fz 19 3 1024++fz 20 1 19) 14 Z12)<|jk 5<|jn Z9 v0<|jw (Za.sc x0)<|jw (Za.sc Za.z0)<|cx (Az 1 18++fz 19 3 1024++fz 20 1 19) 14 Z12
theorem Yvk {x0 r}  : mU x0=some r->Zq Tryz.prog Mo (Q4 x0 r):=
 fK Tryz.func98<|jp (.num ([].map Z9).length 0 0 [])<|jo (show 0=([].map Z9).length from rfl)<|jw (Za.sc x0)<|cx (fz 1 1 0++Za.ff 2 0 0++fz 10 1 1024++fz 19 2 0) 8 Yh8
abbrev L9 (x0:Za) (x1:Zb) (r:Za×Zp):Y:=(49,[.agg (Za.enc x0),.agg (Zb.enc x1)],.AZ [.agg (Za.ow r.1),.agg (Zp.enc r.2)],un 2)
theorem Zv2 {x0 x1 r} {Ae A1}:TM x0 x1 Ae A1=some r->CS (L9 x0 x1 r) Tryz.f49 [1,1,1,1,1,1,1,1,1] [(2,pt 1),(4,pt 10),(5,pt 19),(6,pt 20)] (Za.bk Ae 2++[bx 1 (Za.rl Ae 2)]++Za.bk Za.z0 11++[bx 10 (Za.rl Za.z0 11),bx 19 (Zp.enc Zp.z0),bx 20 (Zp.enc A1)]):=
 st<|jk 8<|jw (Za.so Ae)<|rt
theorem Z4p {x0 x1 r} {Ae AI}:TN x0 x1 Ae AI=some r->CS (L9 x0 x1 r) Tryz.f49 [1,1,1,1,1,1,1,1,0,1,0,1] [(2,pt 1),(3,pt 10),(4,pt 11),(5,pt 20),(6,pt 21)] (Za.bk Ae 2++[bx 1 (Za.rl Ae 2),bx 10 (Zb.enc x1)]++Za.bk Za.z0 12++[bx 11 (Za.rl Za.z0 12),bx 20 (Zp.enc Zp.z0),bx 21 (Zp.enc AI)]):=
 st<|jk 8<|jw (Za.so Ae)<|br Ysz λ{r0}=>jk 8<|jw (Za.so r0)<|br Yvk λ{r1}=>it (jw (Za.sc r1)<|jw (Za.sc Za.z0)<|cx (Az 1 1++Za.ff 2 2 3072++fz 10 1 11++fz 11 1 12++fz 12 1 13++fz 13 1 14++fz 14 1 15++fz 15 1 16++fz 16 1 17++fz 17 1 18++fz 18 1 19++fz 19 1 20++fz 20 1 21) 6 Zv2)<|jw (Za.sc r1)<|jw (Za.sc Za.z0)<|cx (Az 1 1++Za.ff 2 2 3072++fz 10 1 11++fz 11 1 12++fz 12 1 13++fz 13 1 14++fz 14 1 15++fz 15 1 16++fz 16 1 17++fz 17 1 18++fz 18 1 19++fz 19 1 20++fz 20 1 21) 6 Zv2
theorem Z35 {x0 x1 r} {Ae AI v0}:Oz x0 x1 Ae AI v0=some r->CS (L9 x0 x1 r) Tryz.f49 [1,1,1,1,1,1,1,1,0,1,0,0,1] [(2,pt 1),(3,pt 10),(4,pt 11),(5,pt 20),(6,pt 21),(182,bl v0)] (Za.bk Ae 2++[bx 1 (Za.rl Ae 2),bx 10 (Zb.enc x1)]++Za.bk Za.z0 12++[bx 11 (Za.rl Za.z0 12),bx 20 (Zp.enc Zp.z0),bx 21 (Zp.enc AI)]):=
 st<|it (bn λCc=>bn λ{y0} K7=>jw (xp Zg.enc Cc K7)<|jw (tq (Za.nm {Ae with m:=y0,Af:=(-1),held:=0}))<|je Ze.enc Ae.Ad.Ab<|jo (Jx Zg.enc K7)<|je Zk.enc Ae.buckets<|je Zd Ae.splits<|jw (Zf.so Ae.model)<|je Zs.enc Ae.log<|jw (Za.sc Za.z0)<|cx (Az 1 21) 6 Z4p)<|jw (Za.sc Ae)<|jw (Za.sc Za.z0)<|cx (Az 1 21) 2 Z4p
theorem cX {x0 x1 r} {Ae AI}:Kw x0 x1 Ae AI=some r->CS (L9 x0 x1 r) Tryz.f49 [1,1,1,1,1,1,1,1] [(2,pt 1),(3,pt 10),(4,pt 11),(5,pt 20),(6,pt 21)] (Za.bk Ae 2++[bx 1 (Za.rl Ae 2),bx 10 (Zb.enc x1)]++Za.bk Za.z0 12++[bx 11 (Za.rl Za.z0 12),bx 20 (Zp.enc Zp.z0),bx 21 (Zp.enc AI)]):=
 st<|it (it (jk 6<|jw (Za.sc Ae)<|jw (Za.sc Za.z0)<|cx (Az 1 21) 7 Z35)<|jk 6<|jw (Za.sc Ae)<|jw (Za.sc Za.z0)<|cx (Az 1 21) 7 Z35)<|jw (Za.sc Ae)<|jw (Za.sc Za.z0)<|cx (Az 1 9++fz 10 1 11++fz 11 1 12++fz 12 1 13++fz 13 1 14++fz 14 1 15++fz 15 1 16++fz 16 1 17++fz 17 1 18++fz 18 1 19++fz 19 1 20++fz 20 1 21) 5 Zv2
theorem Zv8 {x0 x1 r} {Ae AI v1}:O0 x0 x1 Ae AI v1=some r->CS (L9 x0 x1 r) Tryz.f49 [1,1,1,1,1,1,1,0,0,1,1,1] [(2,pt 1),(3,pt 10),(4,pt 11),(5,pt 20),(6,pt 21),(126,bl v1)] (Za.bk Ae 2++[bx 1 (Za.rl Ae 2),bx 10 (Zb.enc x1)]++Za.bk Za.z0 12++[bx 11 (Za.rl Za.z0 12),bx 20 (Zp.enc Zp.z0),bx 21 (Zp.enc AI)]):=
 st<|it (it (jk 8<|jw (Za.so Ae)<|br Z6n λ{r2}=>jw (Za.sc r2)<|jw (Za.sc Za.z0)<|cx (Az 1 1++Za.ff 2 8 2048++Az 10 12) 16 cX)<|jw (Za.sc {Ae with Aa:={Ae.Aa with second:=true}})<|jw (Za.sc Za.z0)<|cx (Az 1 21) 12 cX)<|it (jk 8<|jw (Za.so Ae)<|br Yqm λ{r3}=>jw (Za.sc r3)<|jw (Za.sc Za.z0)<|cx (Az 1 1++Za.ff 2 4 2048++Az 10 12) 8 cX)<|jw (Za.sc Ae)<|jw (Za.sc Za.z0)<|cx (Az 1 21) 6 cX
theorem Z4z {x0 x1 r} {Ae AI v2}:mV x0 x1 Ae AI v2=some r->CS (L9 x0 x1 r) Tryz.f49 [1,1,1,1,1,1,1,0,0,1] [(2,pt 1),(3,pt 10),(4,pt 11),(5,pt 20),(6,pt 21),(109,bl v2)] (Za.bk Ae 2++[bx 1 (Za.rl Ae 2),bx 10 (Zb.enc x1)]++Za.bk Za.z0 12++[bx 11 (Za.rl Za.z0 12),bx 20 (Zp.enc Zp.z0),bx 21 (Zp.enc AI)]):=
 st<|it (jw (Za.sc {Ae with Aa:={Ae.Aa with left:=(Xf Ae.Aa.left 1)}})<|jw (Za.sc Za.z0)<|cx (Az 1 21) 5 cX)<|it (jk 4<|it (jk 4<|jw (Za.sc Ae)<|jw (Za.sc Za.z0)<|cx (Az 1 21) 3 Zv8)<|jk 4<|jw (Za.sc Ae)<|jw (Za.sc Za.z0)<|cx (Az 1 21) 3 Zv8)<|jk 9<|jw (Za.sc Ae)<|jw (Za.sc Za.z0)<|cx (Az 1 21) 3 Zv8
theorem Z36 {x0 x1 r} {Ae AI}:O1 x0 x1 Ae AI=some r->CS (L9 x0 x1 r) Tryz.f49 [1,1,1,1,1,1,1] [(2,pt 1),(3,pt 10),(4,pt 11),(5,pt 20),(6,pt 21)] (Za.bk Ae 2++[bx 1 (Za.rl Ae 2),bx 10 (Zb.enc x1)]++Za.bk Za.z0 12++[bx 11 (Za.rl Za.z0 12),bx 20 (Zp.enc Zp.z0),bx 21 (Zp.enc AI)]):=
 st<|it (jk 4<|jw (Za.sc Ae)<|jw (Za.sc Za.z0)<|cx (Az 1 21) 4 Z4z)<|jk 4<|jw (Za.sc Ae)<|jw (Za.sc Za.z0)<|cx (Az 1 21) 4 Z4z
theorem Ymm {x0 x1 r}:∀{m Ae AI v3},R0 x0 x1 m Ae AI v3=some r->CS (L9 x0 x1 r) Tryz.f49 [1,1,1,1,1,0,1,0] [(2,pt 1),(3,pt 10),(4,pt 11),(5,pt 20),(6,pt 21),(11,il v3)] (Za.bk Ae 2++[bx 1 (Za.rl Ae 2),bx 10 (Zb.enc x1)]++Za.bk Za.z0 12++[bx 11 (Za.rl Za.z0 12),bx 20 (Zp.enc Zp.z0),bx 21 (Zp.enc AI)]):=by
 intro m
 induction m with
 | zero=>intro Ae AI v3 h;cases h
 | succ m ih=>exactλ{Ae} {AI} {v3}=>st<|js Zg.enc Ae.m<|it (bn λCV=>jw (xd Zd CV)<|bn λ{y1} Cz=>jw (xp Zd CV Cz)<|bn λDM=>jw (xd Zk.enc DM)<|bd Ze.enc<|br Yno<|bn λ{y2} DL=>jw (xp Zk.enc DM DL)<|jw (tq (Za.nm {Ae with buckets:=y2,splits:=y1}))<|je Ze.enc Ae.Ad.Ab<|je Zg.enc Ae.m<|jo (Jx Zk.enc DL)<|jo (Jx Zd Cz)<|jw (Zf.so Ae.model)<|je Zs.enc Ae.log<|jw (Za.sc Za.z0)<|cx (Az 1 21) 13 ih)<|it (jw (Za.sc {Ae with held:=(D2 Ae.Ad.Am (Zn Ae.held 1))})<|jw (Za.sc Za.z0)<|cx (Az 1 21) 14 Z36)<|jw (Za.sc Ae)<|jw (Za.sc Za.z0)<|cx (Az 1 21) 14 Z36
theorem Yko {x0 x1 r}:∀{m Ae AI v4 v5},aH x0 x1 m Ae AI v4 v5=some r->CS (L9 x0 x1 r) Tryz.f49 [1,1,1,1,0,1,0] [(2,pt 1),(3,pt 10),(4,pt 11),(5,pt 20),(6,pt 21),(7,sq 22 (v4.map Zo.enc).length),(8,il v5)] (Za.bk Ae 2++[bx 1 (Za.rl Ae 2),bx 10 (Zb.enc x1)]++Za.bk Za.z0 12++[bx 11 (Za.rl Za.z0 12),bx 20 (Zp.enc Zp.z0),bx 21 (Zp.enc AI),rx 22 60 (v4.map Zo.enc)]):=by
 intro m
 induction m with
 | zero=>intro Ae AI v4 v5 h;cases h
 | succ m ih=>exactλ{Ae} {AI} {v4} {v5}=>st<|js Zo.enc v4<|it (bn λF4=>jw (xd Zo.enc F4)<|js Zg.enc Ae.m<|br Yd<|it (jw (xd Zo.enc F4)<|bn λLA=>jw (xd Zg.enc LA)<|jw (xd Zo.enc F4)<|br Yyi λ{r6}=>jw (xd Zo.enc F4)<|bn λ{y3} G7=>jw (xq Zg.enc LA y3)<|jk 1<|je Zj.enc r6.1.queue<|jo (Ls Zg.enc G7)<|jn Zo.enc v4<|jw (tq (Za.nm {Ae with m:=y3}))<|je Ze.enc Ae.Ad.Ab<|jo (Jx Zg.enc G7)<|je Zk.enc Ae.buckets<|je Zd Ae.splits<|jw (Zf.so Ae.model)<|je Zs.enc Ae.log<|jw (Za.sc Za.z0)<|cx (Az 1 22) 16 ih)<|jn Zo.enc v4<|jw (Za.sc Ae)<|jw (Za.sc Za.z0)<|cx (Az 1 22) 14 ih)<|jw (Za.sc Ae)<|jw (Za.sc Za.z0)<|cx (Az 1 21) 13 Ymm
theorem Yx1 {x0 x1 r}  : aI x0 x1=some r->Zq Tryz.prog Mo (L9 x0 x1 r):=
 fK Tryz.func49<|br Ygv λ{r7}=>jk 8<|jw (Za.so r7)<|br Yy6<|br Yyy λ{r9}=>jn Zo.enc r9<|jw (Za.sc r7)<|cx (fz 1 1 0++Za.ff 2 2 1024++fz 10 1 1024++fz 11 1 2048++fz 20 1 3072++fz 21 3 2048++fz 22 4 3072) 12 Yko
abbrev Yf5 (x0:Za) (r:Bool):Y:=(47,[.agg (Za.enc x0)],bl r,un 1)
theorem Ylm {x0 r}:∀{m v0},nA x0 m v0=some r->CS (Yf5 x0 r) Tryz.f47 [1,0,1,0] [(1,pt 1),(3,il v0)] [bx 1 (Za.enc x0)]:=by
 intro m
 induction m with
 | zero=>intro v0 h;cases h
 | succ m ih=>exact st<|js Zg.enc x0.m<|it (bb Zg.enc λ{a0}=>js Zj.enc a0.queue<|it rt<|cx (Az 1 1) 14 ih)<|rt
theorem Yzz {x0 r}  : nB x0=some r->Zq Tryz.prog Mo (Yf5 x0 r):=
 fK Tryz.func47<|cx (fz 1 1 0) 6 Ylm
abbrev Ycn (x0:Zb) (r:Int):Y:=(48,[.agg (Zb.enc x0)],il r,un 1)
theorem Yi5 {x0 r}:∀{m v0 v1},nC x0 m v0 v1=some r->CS (Ycn x0 r) Tryz.f48 [1,1,0,1,0] [(1,pt 1),(3,il v0),(4,il v1)] [bx 1 (Zb.enc x0)]:=by
 intro m
 induction m with
 | zero=>intro v0 v1 h;cases h
 | succ m ih=>exact st<|js Zo.enc x0.Al<|it (bb Zo.enc<|cx (Az 1 1) 11 ih)<|rt
theorem Yt0 {x0 r}  : nD x0=some r->Zq Tryz.prog Mo (Ycn x0 r):=
 fK Tryz.func48<|cx (fz 1 1 0) 8 Yi5
abbrev rJ (x0:Za) (x1:Zb) (r:Za×Int):Y:=(17,[.agg (Za.enc x0),.agg (Zb.enc x1)],.AZ [.agg (Za.ow r.1),il r.2],un 2)
theorem Zw8 {x0 x1 r} {AN:Za->Int->Option (Za×Int)} (B4:∀{Ae v0},AN Ae v0=some r->CS (rJ x0 x1 r) Tryz.f17 [1,1,1,1,0,0] [(3,pt 1),(4,pt 2),(6,pt 11),(7,il v0)] ([bx 1 (Zb.enc x1)]++Za.bk Za.z0 3++[bx 2 (Za.rl Za.z0 3)]++Za.bk Ae 12++[bx 11 (Za.rl Ae 12)])) {Ae v0 v1}:TO x0 x1 AN Ae v0 v1=some r->CS (rJ x0 x1 r) Tryz.f17 [1,1,1,1,0,0,0,0,1] [(3,pt 1),(4,pt 2),(6,pt 11),(7,il v0),(28,bl v1)] ([bx 1 (Zb.enc x1)]++Za.bk Za.z0 3++[bx 2 (Za.rl Za.z0 3)]++Za.bk Ae 12++[bx 11 (Za.rl Ae 12)]):=
 st<|it (jk 8<|jw (Za.so Ae)<|br Yx1 λ{r0}=>jw (Za.sc Za.z0)<|jw (Za.sc r0.1)<|cx (Az 1 11++Za.ff 12 2 2048) 7 B4)<|jk 8<|jw (Za.so Ae)<|rt
theorem Ym8 {x0 x1 r}:∀{m Ae v0},R1 x0 x1 m Ae v0=some r->CS (rJ x0 x1 r) Tryz.f17 [1,1,1,1,0,0] [(3,pt 1),(4,pt 2),(6,pt 11),(7,il v0)] ([bx 1 (Zb.enc x1)]++Za.bk Za.z0 3++[bx 2 (Za.rl Za.z0 3)]++Za.bk Ae 12++[bx 11 (Za.rl Ae 12)]):=by
 intro m
 induction m with
 | zero=>intro Ae v0 h;cases h
 | succ m ih=>exactλ{Ae} {v0}=>st<|it (jk 9<|jw (Za.so Ae)<|br Yzz<|jk 2<|it (jk 7<|jw (Za.sc Za.z0)<|jw (Za.sc Ae)<|cx (Az 1 19) 4 (Zw8 ih))<|jk 3<|br Yt0<|jk 4<|jw (Za.sc Za.z0)<|jw (Za.sc Ae)<|cx (Az 1 19) 4 (Zw8 ih))<|jk 5<|jw (Za.sc Za.z0)<|jw (Za.sc Ae)<|cx (Az 1 19) 4 (Zw8 ih)
theorem Y1i {x0 x1 r}  : R2 x0 x1=some r->Zq Tryz.prog Mo (rJ x0 x1 r):=
 fK Tryz.func17<|br Ygv λ{r3}=>br Y6a<|it (jk 8<|jw (Za.so r3)<|rt)<|jw (Za.sc r3)<|cx (fz 1 1 1024++fz 2 1 2048++fz 11 2 2048++Za.ff 12 2 1024) 13 Ym8
abbrev OF (x0:ByteArray) (r:Int×Bool):Y:=(39,[ss x0],.AZ [il r.1,bl r.2],un 1)
theorem Z5e {x0 r} {AN:Int->Int->Int->Option (Int×Bool)} (B4:∀{v0 v1 v2},AN v0 v1 v2=some r->CS (OF x0 r) Tryz.f39 [1,1,1,0,1,0] [(0,ss x0),(4,il v0),(5,il v1),(6,il v2)] []) {v0 v1 v2 v3}:aK x0 AN v0 v1 v2 v3=some r->CS (OF x0 r) Tryz.f39 [1,1,1,0,1,0,0,1,0,0,1] [(0,ss x0),(4,il v0),(5,il v1),(6,il v2),(26,bl v3)] []:=
 st<|it (bn λ{a0} Cc=>jp (.val (.lit (.int .u8 a0)))<|jo (YX Cc)<|cx [] 6 B4)<|cx [] 4 B4
theorem Z5n {x0 r} {v0 v1}:R3 x0 v0 v1=some r->CS (OF x0 r) Tryz.f39 [1,1,1,1,1] [(0,ss x0),(4,il v0),(5,il v1)] []:=
 st<|it (jk 9<|rt)<|jk 3<|it (jk 5<|rt)<|jk 1<|br Hw<|jk 3<|it rt<|rt
theorem Z4f {x0 r} {v0 v1 v4}:Wn x0 v0 v1 v4=some r->CS (OF x0 r) Tryz.f39 [1,1,1,1,0,1] [(0,ss x0),(4,il v0),(5,il v1),(44,bl v4)] []:=
 st<|it (cx [] 2 Z5n)<|cx [] 2 Z5n
theorem Z3x {x0 r} {AN:Int->Int->Int->Option (Int×Bool)} (B4:∀{v0 v1 v2},AN v0 v1 v2=some r->CS (OF x0 r) Tryz.f39 [1,1,1,0,1,0] [(0,ss x0),(4,il v0),(5,il v1),(6,il v2)] []) {v0 v1 v2 v5}:TP x0 AN v0 v1 v2 v5=some r->CS (OF x0 r) Tryz.f39 [1,1,1,0,1,0,0,0,1] [(0,ss x0),(4,il v0),(5,il v1),(6,il v2),(14,bl v5)] []:=
 st<|it (bn λ{a1} CV=>jp (.val (.lit (.int .u8 a1)))<|jo (YX CV)<|it (jk 2<|jp (.val (.lit (.int .u8 a1)))<|jk 2<|jo (YX CV)<|cx [] 6 (Z5e B4))<|jk 4<|cx [] 6 (Z5e B4))<|it (jk 1<|bn λ{a2} DM=>jp (.val (.lit (.int .u8 a2)))<|jk 2<|jo (YX DM)<|cx [] 8 Z4f)<|jk 3<|cx [] 8 Z4f
theorem Ylh {x0 r}:∀{m v0 v1 v2},nH x0 m v0 v1 v2=some r->CS (OF x0 r) Tryz.f39 [1,1,1,0,1,0] [(0,ss x0),(4,il v0),(5,il v1),(6,il v2)] []:=by
 intro m
 induction m with
 | zero=>intro v0 v1 v2 h;cases h
 | succ m ih=>exact st<|it (jk 2<|cx [] 4 (Z3x ih))<|jk 2<|cx [] 4 (Z3x ih)
theorem OG {x0 r}  : Js x0=some r->Zq Tryz.prog Mo (OF x0 r):=
 fK Tryz.func39<|cx [] 10 Ylh
abbrev rK (x0:ByteArray) (r:Zi×Bool):Y:=(15,[ss x0],.AZ [.agg [.own 83 (r.1.Ab.map Ze.enc),il r.1.Aw,il r.1.Au,il r.1.Ao,il r.1.Ar,il r.1.Am],bl r.2],un 1)
theorem Z2l {x0 r} {AN:Zi->(List ByteArray)->Int->Option (Zi×Bool)} (B4:∀{Ae v0 v1},AN Ae v0 v1=some r->CS (rK x0 r) Tryz.f15 [1,1,1,1,1,1,1,1,1,0,1,0] [(0,ss x0),(2,pt 1),(4,.tr (v0.map Zv)),(5,pt 3),(6,il v1)] [rx 2 83 ([].map Ze.enc),bx 1 [sq 2 ([].map Ze.enc).length,il 0,il 0,il 0,il 0,il 0],rx 4 83 (Ae.Ab.map Ze.enc),bx 3 [sq 4 (Ae.Ab.map Ze.enc).length,il Ae.Aw,il Ae.Au,il Ae.Ao,il Ae.Ar,il Ae.Am]]) {Ae A1 v0 v1}:R4 x0 AN Ae A1 v0 v1=some r->CS (rK x0 r) Tryz.f15 [1,1,1,1,1,1,1,1,1,0,1,0,0,1,0,0,1,1,1,1] [(0,ss x0),(2,pt 1),(4,.tr (v0.map Zv)),(5,pt 3),(6,il v1),(8,pt 5)] [rx 2 83 ([].map Ze.enc),bx 1 [sq 2 ([].map Ze.enc).length,il 0,il 0,il 0,il 0,il 0],rx 4 83 (Ae.Ab.map Ze.enc),bx 3 [sq 4 (Ae.Ab.map Ze.enc).length,il Ae.Aw,il Ae.Au,il Ae.Ao,il Ae.Ar,il Ae.Am],bx 5 (Ze.enc A1)]:=
 st<|bn λ{z0} Xr=>jt Ze.enc [A1] z0<|jk 1<|ja 4 Ze.AE A1<|jx Ze.enc Xr<|je Ze.enc z0<|jn Ze.enc []<|jn Ze.enc z0<|cx (Az 1 3++fz 4 2 4096) 3 B4
theorem Yiy {x0 r}:∀{m Ae v0 v1},Jc x0 m Ae v0 v1=some r->CS (rK x0 r) Tryz.f15 [1,1,1,1,1,1,1,1,1,0,1,0] [(0,ss x0),(2,pt 1),(4,.tr (v0.map Zv)),(5,pt 3),(6,il v1)] [rx 2 83 ([].map Ze.enc),bx 1 [sq 2 ([].map Ze.enc).length,il 0,il 0,il 0,il 0,il 0],rx 4 83 (Ae.Ab.map Ze.enc),bx 3 [sq 4 (Ae.Ab.map Ze.enc).length,il Ae.Aw,il Ae.Au,il Ae.Ao,il Ae.Ar,il Ae.Am]]:=by
 intro m
 induction m with
 | zero=>intro Ae v0 v1 h;cases h
 | succ m ih=>exactλ{Ae} {v0} {v1}=>st<|js Zv v0<|it (bb Zv<|br Ypk λ{r0}=>bb Zv<|br OG<|js Zv r0<|it (bb Zv<|br OG<|bb Zv<|br OG<|jn Ze.enc []<|jn Ze.enc Ae.Ab<|cx (Az 1 4++fz 5 4 1024) 23 (Z2l ih))<|jn Ze.enc []<|jn Ze.enc Ae.Ab<|cx (Az 1 4++fz 5 4 1024) 19 (Z2l ih))<|jk 1<|je Ze.enc Ae.Ab<|br Yve<|it (jk 3<|rt)<|jk 2<|it rt<|jk 1<|je Ze.enc Ae.Ab<|rt
theorem Yud {x0 r}  : Ly x0=some r->Zq Tryz.prog Mo (rK x0 r):=
 fK Tryz.func15<|br Ypk λ{r5}=>js Zv r5<|it rt<|bb Zv<|br OG<|bb Zv<|br OG<|bb Zv<|br OG<|bb Zv<|br OG<|bb Zv<|br OG<|cx (fz 1 1 0++fz 3 4 1024) 25 Yiy
end Go.Proofs.YthdljdelfgofdaaGreatDoor.Ev
