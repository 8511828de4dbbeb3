/- A part of the proof of FnDesk: see the text YthdljdelfgofdaaGreatDoorLawFnDesk for what is proved and its conditions. Conditions here: those in each line. -/
import Derived.Test.YthdljdelfgofdaaGreatDoorA6
set_option linter.unusedSimpArgs false
set_option linter.unusedVariables false
set_option linter.unusedSectionVars false
namespace Go.Proofs.YthdljdelfgofdaaGreatDoor.Ev
open Go Go.Proofs
variable [Anchor] [BG]
theorem Ykw {x0 r}:∀{m v0 v4},q8 x0 m v0 v4=some r->CS (tE x0 r) Tryz.f251 [1,1,0,1,0] [(0,.ptr (0,63) 0 0),(4,sq 9 (v0.map Yc).length),(17,sq 2 (x0.m.map Zh.enc).length),(18,il (x0.m.length:Int)),(19,il v4)] (Za.bk x0 1++[((0,63),⟨true,true,true,0,[(Za.rl x0 1)]⟩),rx 9 4 (v0.map Yc)]):=by
 intro m
 induction m with
 | zero=>intro v0 v4 h;cases h
 | succ m ih=>exactλ{v0} {v4}=>st<|it (bd Zh.enc<|br Ye3<|it (jk 5<|bn λ{a4} FN=>jp (.row (v4:Int).toNat (Zc a4))<|jk 1<|jp (.cell (Zc a4))<|jk 2<|ig (λg3=>jp (.t true)<|jk 5<|ig (λg4=>jp (.t true)<|jk 8<|bn λ{z0} Xe=>jt Yc [true] z0<|jk 1<|jp (.num (z0.map Yc).length 0 0 [])<|jp (.num (x0.m.map Zh.enc).length 0 0 [])<|jo (G6 FN)<|jo (H6 Zc FN)<|jo (CX Zc FN)<|jo (CX Zc FN)<|jo g3<|jo g4<|ja 1 Oy true<|jx Yc Xe<|je Yc z0<|je Yc z0<|je Zh.enc x0.m<|jw (Za.sc x0)<|cx (A1 1 8++fz 9 4 29696) 13 ih) λg4=>jp (.t false)<|jk 8<|bn λ{z0} Xe=>jt Yc [decide (x0.Af=v4)] z0<|jk 1<|jp (.num (z0.map Yc).length 0 0 [])<|jp (.num (x0.m.map Zh.enc).length 0 0 [])<|jo (G6 FN)<|jo (H6 Zc FN)<|jo (CX Zc FN)<|jo (CX Zc FN)<|jo g3<|jo g4<|ja 1 Oy (decide (x0.Af=v4))<|jx Yc Xe<|je Yc z0<|je Yc z0<|je Zh.enc x0.m<|jw (Za.sc x0)<|cx (A1 1 8++fz 9 4 29696) 13 ih) λg3=>jp (.t false)<|jk 7<|bn λ{z0} Xe=>jt Yc [false] z0<|jk 1<|jp (.num (z0.map Yc).length 0 0 [])<|jp (.num (x0.m.map Zh.enc).length 0 0 [])<|jo (G6 FN)<|jo (H6 Zc FN)<|jo (CX Zc FN)<|jo (CX Zc FN)<|jo g3<|ja 1 Oy false<|jx Yc Xe<|je Yc z0<|je Yc z0<|je Zh.enc x0.m<|jw (Za.sc x0)<|cx (A1 1 8++fz 9 4 29696) 13 ih)<|jk 16<|bn λ{z0} Xe=>jt Yc [false] z0<|jk 1<|ja 1 Oy false<|jx Yc Xe<|jn Yc z0<|je Yc z0<|jn Zh.enc x0.m<|jw (Za.sc x0)<|cx (A1 1 8++fz 9 4 29696) 13 ih)<|it (jk 5<|bn λ{a5} LD=>jp (.row (x0.Af:Int).toNat (Yc a5))<|jk 1<|jp (.cell (Yc a5))<|jk 1<|jp (.num (v0.map Yc).length 0 0 [])<|jo (G6 LD)<|jo (H6 Yc LD)<|jo (CX Yc LD)<|jo (CX Yc LD)<|je Yc v0<|jw (Za.sc x0)<|cx (A1 1 9) 12 Z4z)<|jk 7<|jn Yc v0<|jw (Za.sc x0)<|cx (A1 1 9) 12 Z4z
theorem Yxj {x0 r}  : rA x0=some r->Zq Tryz.prog Mo (tE x0 r):=
 fK Tryz.func251<|js Zh.enc x0.m<|jp (.num ([].map Yc).length 0 0 [])<|jo (show 0=([].map Yc).length from rfl)<|jn Zh.enc x0.m<|jw (Za.sc x0)<|cx (Za.ff 1 0 0++fz 9 2 0) 8 Ykw
abbrev Y84 (x0:Zh) (r:Bool):Y:=(252,[.agg (Zh.enc x0)],bl r,un 1)
theorem Yeq {x0 r}  : Uy x0=some r->Zq Tryz.prog Mo (Y84 x0 r):=
 fK Tryz.func252<|js Zj.enc x0.queue<|it (jk 2<|bb Zj.enc<|jk 3<|it (jk 3<|rt)<|jk 3<|rt)<|jk 9<|rt
abbrev Yee (x0:Zh) (r:Zh×Bool):Y:=(253,[.agg (Zh.enc x0)],.AX [.agg [.own 41 (r.1.queue.map Zj.enc),il r.1.Ao,il r.1.done,il r.1.tries,bl r.1.Ay,bl r.1.broken],bl r.2],un 1)
theorem Z4g {x0 r} {Ad v0}:rB x0 Ad v0=some r->CS (Yee x0 r) Tryz.f253 [1,1,0,1] [(2,pt 1),(4,pt 3),(17,bl v0)] [rx 2 41 ([].map Zj.enc),bx 1 [sq 2 ([].map Zj.enc).length,il 0,il 0,il 0,bl false,bl false],rx 4 41 (Ad.queue.map Zj.enc),bx 3 [sq 4 (Ad.queue.map Zj.enc).length,il Ad.Ao,il Ad.done,il Ad.tries,bl Ad.Ay,bl Ad.broken]]:=
 st<|it (jk 1<|je Zj.enc Ad.queue<|rt)<|jk 1<|je Zj.enc Ad.queue<|rt
theorem Yww {x0 r}  : rC x0=some r->Zq Tryz.prog Mo (Yee x0 r):=
 fK Tryz.func253<|br dZ λ{r0}=>br Ye3<|it (jk 6<|jn Zj.enc r0.queue<|cx (fz 1 1 1024++fz 3 2 2048++fz 4 2 1024) 7 Z4g)<|jk 6<|jn Zj.enc r0.queue<|cx (fz 1 1 1024++fz 3 2 2048++fz 4 2 1024) 7 Z4g
abbrev tF (x0:Za) (r:Int×Za):Y:=(213,[.agg (Za.ow x0)],il r.1,[.agg (Za.ow r.2)])
theorem Z1p {x0 r} {Ad At v0}:rD x0 Ad At v0=some r->CS (tF x0 r) Tryz.f213 [1,1,1,1,1,1] [(0,.ptr (0,63) 0 0),(3,il v0),(5,pt 9)] (Za.bk Ad 1++[((0,63),⟨true,true,true,0,[(Za.rl Ad 1)]⟩),bx 9 (Zh.enc At)]):=
 st<|br Yww λ{r0}=>bn λW9=>bn λ{y0} Kk=>jw (xq Zh.enc W9 y0)<|jk 9<|je Zj.enc r0.1.queue<|jo (Ie Zh.enc Kk)<|je Zd.enc Ad.Ae.Ab<|jo (Kc Zh.enc Kk)<|je Zk.enc Ad.buckets<|je Zc Ad.splits<|jw (Zf.so Ad.model)<|je Zt.enc Ad.log<|rt
theorem Z1o {x0 r} {Ad At v0 v1}:rE x0 Ad At v0 v1=some r->CS (tF x0 r) Tryz.f213 [1,1,1,1,1,0,1] [(0,.ptr (0,63) 0 0),(3,il v0),(5,pt 9),(47,bl v1)] (Za.bk Ad 1++[((0,63),⟨true,true,true,0,[(Za.rl Ad 1)]⟩),bx 9 (Zh.enc At)]):=
 st<|it (jw (Za.sc {Ad with Af:=v0,held:=0})<|cx (A1 1 9) 4 Z1p)<|jw (Za.sc Ad)<|cx (A1 1 9) 2 Z1p
theorem Z1q {x0 r} {Ad At v0}:Sh x0 Ad At v0=some r->CS (tF x0 r) Tryz.f213 [1,1,1,1,1] [(0,.ptr (0,63) 0 0),(3,il v0),(5,pt 9)] (Za.bk Ad 1++[((0,63),⟨true,true,true,0,[(Za.rl Ad 1)]⟩),bx 9 (Zh.enc At)]):=
 st<|br Yeq<|it (jk 5<|jw (Za.sc Ad)<|cx (A1 1 9) 3 Z1o)<|jk 5<|jw (Za.sc Ad)<|cx (A1 1 9) 3 Z1o
theorem Ytp {x0 r}  : rF x0=some r->Zq Tryz.prog Mo (tF x0 r):=
 fK Tryz.func213<|jk 8<|jw (Za.so x0)<|br Yxj λ{r2}=>it (jk 8<|jw (Za.so r2.2.2)<|rt)<|bd Zh.enc λ{a1}=>it (jk 6<|jw (Za.sc {r2.2.2 with addr:=(Zi.mk true r2.1 a1.Ao true r2.2.1 0 0 false)})<|cx (Za.ff 1 2 1536++fz 9 4 7168) 13 Z1q)<|jk 6<|jw (Za.sc {r2.2.2 with addr:=(Zi.mk true r2.1 a1.Ao (decide (r2.2.2.last≠r2.1)) r2.2.1 0 0 false)})<|cx (Za.ff 1 2 1536++fz 9 4 7168) 13 Z1q
abbrev LF (x0:Za) (x1:Zb) (r:Zr×Za):Y:=(161,[.agg (Za.ow x0),.agg (Zb.enc x1)],.agg (Zr.enc r.1),[.agg (Za.ow r.2),.undef])
theorem Z4t {x0 x1 r} {Ad At}:cR x0 x1 Ad At=some r->CS (LF x0 x1 r) Tryz.f161 [1,1,1,1,1,1,1,1,1] [(0,.ptr (0,63) 0 0),(4,pt 9),(5,pt 10)] (Za.bk Ad 1++[((0,63),⟨true,true,true,0,[(Za.rl Ad 1)]⟩),bx 9 (Zr.enc Zr.z0),bx 10 (Zr.enc At)]):=
 st<|jk 8<|jw (Za.so Ad)<|rt
theorem Z24 {x0 x1 r} {Ad At}:cS x0 x1 Ad At=some r->CS (LF x0 x1 r) Tryz.f161 [1,1,1,1,1,1,1,1,0,1,0,1,1] [(0,.ptr (0,63) 0 0),(4,pt 9),(5,pt 10)] (Za.bk Ad 1++[((0,63),⟨true,true,true,0,[(Za.rl Ad 1)]⟩),bx 9 (Zr.enc Zr.z0),bx 10 (Zr.enc At)]):=
 st<|jk 8<|jw (Za.so Ad)<|br Ytp λ{r0}=>jw (Za.sc r0.2)<|cx (Za.ff 1 2 1536++A1 9 2) 1 Z4t
theorem Z3w {x0 x1 r} {Ad AJ}:Uz x0 x1 Ad AJ=some r->CS (LF x0 x1 r) Tryz.f161 [1,1,1,1,1,1,1,1,0,1,0,1] [(0,.ptr (0,63) 0 0),(3,pt 9),(4,pt 10),(5,pt 11)] (Za.bk Ad 1++[((0,63),⟨true,true,true,0,[(Za.rl Ad 1)]⟩),bx 9 (Zb.enc x1),bx 10 (Zr.enc Zr.z0),bx 11 (Zr.enc AJ)]):=
 st<|it (jk 8<|jw (Za.so Ad)<|br Ypu λ{r1}=>jw (Za.sc {Ad with addr:=Zi.z0,Aa:={Ad.addr with left:=r1.2,Ar:=r1.1},Aw:=(Zl Ad.Aw 1)})<|cx (A1 1 8++fz 9 1 10++fz 10 1 11) 11 Z24)<|jw (Za.sc Ad)<|cx (A1 1 8++fz 9 1 10++fz 10 1 11) 7 Z24
theorem Z4p {x0 x1 r} {Ad AJ v0}:OK x0 x1 Ad AJ v0=some r->CS (LF x0 x1 r) Tryz.f161 [1,1,1,1,1,1,1,1,0,1,0,0,1] [(0,.ptr (0,63) 0 0),(3,pt 9),(4,pt 10),(5,pt 11),(187,bl v0)] (Za.bk Ad 1++[((0,63),⟨true,true,true,0,[(Za.rl Ad 1)]⟩),bx 9 (Zb.enc x1),bx 10 (Zr.enc Zr.z0),bx 11 (Zr.enc AJ)]):=
 st<|it (bn λW9=>bn λKk=>jw (xp Zh.enc W9 Kk)<|jk 8<|je Zd.enc Ad.Ae.Ab<|jo (Kc Zh.enc Kk)<|je Zk.enc Ad.buckets<|je Zc Ad.splits<|jw (Zf.so Ad.model)<|je Zt.enc Ad.log<|br Ydm λ{r2}=>jw (Za.sc r2)<|cx (Za.ff 1 3 1536++A1 9 3) 4 Z3w)<|jw (Za.sc Ad)<|cx (A1 1 11) 2 Z3w
theorem Z3g {x0 x1 r} {Ad AJ}:OL x0 x1 Ad AJ=some r->CS (LF x0 x1 r) Tryz.f161 [1,1,1,1,1,1,1] [(0,.ptr (0,63) 0 0),(3,pt 9),(4,pt 10),(5,pt 11)] (Za.bk Ad 1++[((0,63),⟨true,true,true,0,[(Za.rl Ad 1)]⟩),bx 9 (Zb.enc x1),bx 10 (Zr.enc Zr.z0),bx 11 (Zr.enc AJ)]):=
 st<|jk 8<|jw (Za.so Ad)<|br Yrf λ{r3}=>it (it (jk 10<|jw (Za.sc r3.2.1)<|cx (Za.ff 1 2 2560++A1 9 3) 9 Z4p)<|jk 10<|jw (Za.sc r3.2.1)<|cx (Za.ff 1 2 2560++A1 9 3) 9 Z4p)<|jw (Za.sc r3.2.1)<|cx (Za.ff 1 2 2560++fz 9 1 10++fz 10 1 11) 7 Z4t
theorem Yla {x0 x1 r}:∀{m Ad AJ v1 v2},Si x0 x1 m Ad AJ v1 v2=some r->CS (LF x0 x1 r) Tryz.f161 [1,1,1,1,1,0,1,0] [(0,.ptr (0,63) 0 0),(3,pt 9),(4,pt 10),(5,pt 11),(107,sq 4 (Ad.splits.map Zc).length),(108,il v1),(109,il v2)] (Za.bk Ad 1++[((0,63),⟨true,true,true,0,[(Za.rl Ad 1)]⟩),bx 9 (Zb.enc x1),bx 10 (Zr.enc Zr.z0),bx 11 (Zr.enc AJ)]):=by
 intro m
 induction m with
 | zero=>intro Ad AJ v1 v2 h;cases h
 | succ m ih=>exactλ{Ad} {AJ} {v1} {v2}=>st<|it (bn λBU=>jw (xd Zc BU)<|bn λ{y1} Cp=>jw (xp Zc BU Cp)<|bn λDd=>jw (xd Zk.enc Dd)<|bd Zd.enc<|br Yp2<|bn λ{y2} D8=>jw (xp Zk.enc Dd D8)<|jp (.num (y1.map Zc).length 0 0 [])<|jw (tq (Za.nm {Ad with buckets:=y2,splits:=y1}))<|jo (Kc Zc Cp)<|je Zd.enc Ad.Ae.Ab<|je Zh.enc Ad.m<|jo (Kc Zk.enc D8)<|jo (Kc Zc Cp)<|jw (Zf.so Ad.model)<|je Zt.enc Ad.log<|cx (A1 1 11) 15 ih)<|it (jw (Za.sc {Ad with held:=(Dp (Zl Ad.held 1) Ad.Ae.Al)})<|cx (A1 1 11) 14 Z3g)<|jw (Za.sc Ad)<|cx (A1 1 11) 14 Z3g
theorem Ylf {x0 x1 r}:∀{m Ad AJ v3 v4 v5},cT x0 x1 m Ad AJ v3 v4 v5=some r->CS (LF x0 x1 r) Tryz.f161 [1,1,1,1,0,1,0] [(0,.ptr (0,63) 0 0),(3,pt 9),(4,pt 10),(5,pt 11),(69,sq 12 (v3.map Zm.enc).length),(70,il v4),(71,il v5)] (Za.bk Ad 1++[((0,63),⟨true,true,true,0,[(Za.rl Ad 1)]⟩),bx 9 (Zb.enc x1),bx 10 (Zr.enc Zr.z0),bx 11 (Zr.enc AJ),rx 12 60 (v3.map Zm.enc)]):=by
 intro m
 induction m with
 | zero=>intro Ad AJ v3 v4 v5 h;cases h
 | succ m ih=>exactλ{Ad} {AJ} {v3} {v4} {v5}=>st<|it (bd Zm.enc<|jk 1<|je Zd.enc Ad.Ae.Ab<|br Sv<|it (bn λLD=>jw (xd Zh.enc LD)<|br Y09 λ{r6}=>bn λ{y3} GS=>jw (xq Zh.enc LD y3)<|jk 1<|je Zj.enc r6.1.queue<|jo (Ie Zh.enc GS)<|jn Zm.enc v3<|jw (tq (Za.nm {Ad with m:=y3}))<|je Zd.enc Ad.Ae.Ab<|jo (Kc Zh.enc GS)<|je Zk.enc Ad.buckets<|je Zc Ad.splits<|jw (Zf.so Ad.model)<|je Zt.enc Ad.log<|cx (A1 1 12) 16 ih)<|jn Zm.enc v3<|jw (Za.sc Ad)<|cx (A1 1 12) 16 ih)<|js Zc Ad.splits<|jn Zc Ad.splits<|jw (Za.sc Ad)<|cx (A1 1 11) 13 Yla
theorem Z4x {x0 x1 r} {AJ}:cU x0 x1 AJ=some r->CS (LF x0 x1 r) Tryz.f161 [1,1,1,1] [(0,.ptr (0,63) 0 0),(3,pt 9),(4,pt 10),(5,pt 11)] (Za.bk x0 1++[((0,63),⟨true,true,true,0,[(Za.rl x0 1)]⟩),bx 9 (Zb.enc x1),bx 10 (Zr.enc Zr.z0),bx 11 (Zr.enc AJ)]):=
 st<|br Y1j λ{r7}=>js Zm.enc r7<|jn Zm.enc r7<|jw (Za.sc x0)<|cx (A1 1 11++fz 12 2 5120) 4 Ylf
theorem Zur {x0 x1 r} {AJ}:cV x0 x1 AJ=some r->CS (LF x0 x1 r) Tryz.f161 [1,1,1] [(0,.ptr (0,63) 0 0),(3,pt 9),(4,pt 10),(5,pt 11)] (Za.bk x0 1++[((0,63),⟨true,true,true,0,[(Za.rl x0 1)]⟩),bx 9 (Zb.enc x1),bx 10 (Zr.enc Zr.z0),bx 11 (Zr.enc AJ)]):=
 st<|it (bd Zh.enc<|br dY<|jw (Za.sc x0)<|cx (A1 1 11) 7 Z4x)<|jw (Za.sc x0)<|cx (A1 1 11) 7 Z4x
theorem Z3d {x0 x1 r}  : Sj x0 x1=some r->Zq Tryz.prog Mo (LF x0 x1 r):=
 fK Tryz.func161<|it (bd Zh.enc<|br dY<|it (jw (Za.sc x0)<|cx (Za.ff 1 0 0++fz 9 1 0++fz 10 1 1024++fz 11 2 5120) 16 Zur)<|jw (Za.sc x0)<|cx (Za.ff 1 0 0++fz 9 1 0++fz 10 1 1024++fz 11 2 5120) 16 Zur)<|jw (Za.sc x0)<|cx (Za.ff 1 0 0++fz 9 1 0++fz 10 1 1024++fz 11 2 5120) 11 Zur
abbrev Y50 (x0:Int) (x1:List ByteArray) (r:ByteArray):Y:=(238,[il x0,.tr (x1.map Zp)],ss r,un 2)
theorem Yo4 {x0 x1 r}  : Sk x0 x1=some r->Zq Tryz.prog Mo (Y50 x0 x1 r):=
 fK Tryz.func238<|js Zp x1<|br Xh<|it rt<|bb Zp<|rt
abbrev Yw5 (x0:Int) (r:ByteArray):Y:=(203,[il x0],ss r,un 1)
theorem Yvh {x0 r}  : cW x0=some r->Zq Tryz.prog Mo (Yw5 x0 r):=
 fK Tryz.func203<|jk 1<|jo (show 4=([(Ze [105,100,108,101]),ByteArray.empty,(Ze [102,105,114,115,116]),(Ze [110,101,120,116])].map Zp).length from rfl)<|br Yo4<|rt
abbrev Y6r (x0:Int) (r:ByteArray):Y:=(165,[il x0],ss r,un 1)
theorem UR {x0 r}  : MX x0=some r->Zq Tryz.prog Mo (Y6r x0 r):=
 fK Tryz.func165<|it rt<|br H9<|rt
abbrev Yve (x0:Int) (r:ByteArray):Y:=(204,[il x0],ss r,un 1)
theorem Yep {x0 r}  : U0 x0=some r->Zq Tryz.prog Mo (Yve x0 r):=
 fK Tryz.func204<|jk 1<|jo (show 4=([(Ze [111,107,97,121]),(Ze [101,114,114,111,114]),(Ze [114,101,116,114,121]),(Ze [115,112,108,105,116])].map Zp).length from rfl)<|br Yo4<|rt
abbrev Ygt (x0:Zr) (r:ByteArray):Y:=(160,[.agg (Zr.enc x0)],ss r,un 1)
theorem Z3p {x0 r} {v0}:cX x0 v0=some r->CS (Ygt x0 r) Tryz.f160 [1,1,1] [(1,pt 1),(3,ss v0)] [bx 1 (Zr.enc x0)]:=
 st<|br H9 λ{r0}=>br Yvh λ{r1}=>br UR λ{r2}=>jl<|bo Yd<|br UR λ{r3}=>jl<|bo Yd<|br UR λ{r4}=>jl<|bo Yd<|br UR λ{r5}=>jl<|bo Yd<|br Yep λ{r6}=>br UR λ{r7}=>jk 1<|jo (show 7=([r0,r1,((r2++(Ze [58]))++r3),((r4++(Ze [58]))++r5),v0,r6,r7].map Zp).length from rfl)<|br OR<|rt
theorem Yxg {x0 r}  : rI x0=some r->Zq Tryz.prog Mo (Ygt x0 r):=
 fK Tryz.func160<|it (cx (fz 1 1 0) 9 Z3p)<|cx (fz 1 1 0) 9 Z3p
abbrev Zl8 (x0:List Zk) (r:List Zk):Y:=(254,[.tr (x0.map Zk.enc)],.own 92 (r.map Zk.enc),[.undef])
theorem Zyb {x0:List Zk} {r:List Zk} (h:rJ x0=some r):Zq Tryz.prog Mo (Zl8 x0 r):=by
 refine sI Tryz.func254 ?_;unfold rJ at h;cases x0 with
 | nil=>
  obtain rfl:[]=r:=(lA h);have hn:CS (Zl8 [] []) Tryz.f254 [1,0,0] [(0,.tr [])] []:=kX Mo L9 (k:=at_ [1,0,1] (ML Tryz.f254) []) (x0:=.tmp 0) (d0:=3) (d1:=4) (t:=45) (e:=92) (y:=.const (.slice none 0 0)) (by kernel_rfl) (by kernel_rfl) rfl rfl λb=>by
   cases b with
   | true=>exact Ih rfl [.k] tt
   | false=>exact Ih rfl [.k,.app [] true [] 0,.k] (aa (Eq.refl ([]:List (List V))) (aa (Eq.refl true) (aa (Eq.refl true) (aa (Eq.refl 0) (aa (lB 16) (aa (Eq.refl ([]:List (List V))) (aa (Eq.refl 0) (aa (Eq.refl 0) tt))))))))
  exact Nd [] 4 [] tt hn
 | cons a l=>
  exact Ih rfl [.k,.app ((a::l).map Zk.enc) true (r.map Zk.enc) (r.map Zk.enc).length,.k] (aa (iJ (Zk.enc a) (l.map Zk.enc)) (aa (Eq.refl ((a::l).map Zk.enc)) (aa (ZL Zk.Cd (a::l)) (aa (CM 2 Zk.A9 (a::l)) (aa (Eq.refl 0) (aa (FI Zk.enc h) (aa (MJ Zk.enc h) (aa (Ox Zk.enc r) (aa (Ox Zk.enc r) tt)))))))))
abbrev Zqx (x0:List Zt) (r:List Zt):Y:=(257,[.tr (x0.map Zt.enc)],.own 102 (r.map Zt.enc),[.undef])
theorem Z48 {x0:List Zt} {r:List Zt} (h:rK x0=some r):Zq Tryz.prog Mo (Zqx x0 r):=by
 refine sI Tryz.func257 ?_;unfold rK at h;cases x0 with
 | nil=>
  obtain rfl:[]=r:=(lA h);have hn:CS (Zqx [] []) Tryz.f257 [1,0,0] [(0,.tr [])] []:=kX Mo L9 (k:=at_ [1,0,1] (ML Tryz.f257) []) (x0:=.tmp 0) (d0:=3) (d1:=4) (t:=52) (e:=102) (y:=.const (.slice none 0 0)) (by kernel_rfl) (by kernel_rfl) rfl rfl λb=>by
   cases b with
   | true=>exact Ih rfl [.k] tt
   | false=>exact Ih rfl [.k,.app [] true [] 0,.k] (aa (Eq.refl ([]:List (List V))) (aa (Eq.refl true) (aa (Eq.refl true) (aa (Eq.refl 0) (aa (lB 56) (aa (Eq.refl ([]:List (List V))) (aa (Eq.refl 0) (aa (Eq.refl 0) tt))))))))
  exact Nd [] 4 [] tt hn
 | cons a l=>
  exact Ih rfl [.k,.app ((a::l).map Zt.enc) true (r.map Zt.enc) (r.map Zt.enc).length,.k] (aa (iJ (Zt.enc a) (l.map Zt.enc)) (aa (Eq.refl ((a::l).map Zt.enc)) (aa (ZL Zt.Cd (a::l)) (aa (CM 7 Zt.A9 (a::l)) (aa (Eq.refl 0) (aa (FI Zt.enc h) (aa (MJ Zt.enc h) (aa (Ox Zt.enc r) (aa (Ox Zt.enc r) tt)))))))))
abbrev Ymo (x0:Za) (r:Za):Y:=(214,[.agg (Za.enc x0)],.agg (Za.ow r),un 1)
theorem Yqz {x0 r}:∀{m Ad v0 v1},cY x0 m Ad v0 v1=some r->CS (Ymo x0 r) Tryz.f214 [1,1,1,0,1,0] [(1,pt 1),(2,pt 3),(3,sq 12 (v0.map Zh.enc).length),(12,.tr (x0.m.map Zh.enc)),(13,il (x0.m.length:Int)),(14,il v1)] ([rx 2 83 (Ad.Ae.Ab.map Zd.enc),bx 1 [sq 2 (Ad.Ae.Ab.map Zd.enc).length,il Ad.Ae.Av,il Ad.Ae.As,il Ad.Ae.An,il Ad.Ae.Ap,il Ad.Ae.Al,il Ad.now,.tr (Ad.m.map Zh.enc),il Ad.Bo.at_,il Ad.Bo.Bd,.tr (Ad.buckets.map Zk.enc),.tr (Ad.splits.map Zc),il Ad.Af,il Ad.held,il Ad.last,bl Ad.addr.live,il Ad.addr.Aj,il Ad.addr.Ao,bl Ad.addr.first,il Ad.addr.B5,il Ad.addr.left,il Ad.addr.Ar,bl Ad.addr.second,bl Ad.Aa.live,il Ad.Aa.Aj,il Ad.Aa.Ao,bl Ad.Aa.first,il Ad.Aa.B5,il Ad.Aa.left,il Ad.Aa.Ar,bl Ad.Aa.second,.tr (Ad.model.mem.map Zc),.tr (Ad.model.dev.AD.map Zc),il Ad.model.dev.timer,.tr (Ad.model.dev.A2.map Zc),il Ad.Aw,.tr (Ad.log.map Zt.enc)]]++Za.bk Za.z0 4++[bx 3 (Za.rl Za.z0 4),rx 12 90 (v0.map Zh.enc)]):=by
 intro m
 induction m with
 | zero=>intro Ad v0 v1 h;cases h
 | succ m ih=>exactλ{Ad} {v0} {v1}=>st<|it (bb Zh.enc<|br dZ λ{r0}=>jk 1<|bn λ{z0} Xe=>jt Zh.enc [r0] z0<|jk 1<|je Zj.enc r0.queue<|ja 6 Zh.A9 r0<|jx Zh.enc Xe<|jn Zh.enc z0<|je Zh.enc z0<|jn Zd.enc Ad.Ae.Ab<|jw (Za.sc Za.z0)<|cx (A1 1 11++fz 12 4 4096) 13 ih)<|br Zyb λ{r1}=>br Ko λ{r2}=>br Z3k λ{r3}=>br Z48 λ{r4}=>jk 8<|je Zd.enc Ad.Ae.Ab<|je Zh.enc v0<|je Zk.enc r1<|je Zc r2<|jw (Zf.so r3)<|je Zt.enc r4<|rt
theorem Ynz {x0 r}  : cZ x0=some r->Zq Tryz.prog Mo (Ymo x0 r):=
 fK Tryz.func214<|br Yjh λ{r5}=>js Zh.enc x0.m<|jp (.num ([].map Zh.enc).length 0 0 [])<|jo (show 0=([].map Zh.enc).length from rfl)<|jn Zd.enc r5.Ab<|cx (fz 1 1 0++fz 2 2 2048++fz 3 1 1024++fz 12 3 0) 10 Yqz
abbrev Zqw (x0:Za) (r:Bool):Y:=(258,[.rp true (Za.enc x0) 0],bl r,un 1)
theorem Z75 {x0 r}:∀{m v0},Zkv x0 m v0=some r->CS (Zqw x0 r) Tryz.f258 [1,1,1,0,1,0] [(0,.rp true (Za.enc x0) 0),(40,.tr (x0.m.map Zh.enc)),(41,il (x0.m.length:Int)),(42,il v0)] []:=by
 intro m
 induction m with
 | zero=>intro v0 h;cases h
 | succ m ih=>exact st<|it (bb Zh.enc<|br UP<|it (jk 42<|rt)<|jk 8<|it (jk 33<|rt)<|jk 5<|bb Zk.enc<|jk 8<|bb Zd.enc<|jk 2<|br Ygj<|jk 2<|it (jk 15<|rt)<|jk 5<|bb Zc<|jk 7<|br Xh<|jk 2<|it rt<|cx [] 16 ih)<|rt
theorem Zkm {x0 r} {v1}:Kn x0 v1=some r->CS (Zqw x0 r) Tryz.f258 [1,1,0,1] [(0,.rp true (Za.enc x0) 0),(36,bl v1)] []:=
 st<|it rt<|js Zh.enc x0.m<|cx [] 6 Z75
theorem Yec {x0 r}  : rN x0=some r->Zq Tryz.prog Mo (Zqw x0 r):=
 fK Tryz.func258<|js Zd.enc x0.Ae.Ab<|js Zh.enc x0.m<|it (jk 15<|cx [] 7 Zkm)<|jk 4<|js Zk.enc x0.buckets<|jk 3<|it (jk 7<|cx [] 7 Zkm)<|jk 4<|js Zc x0.splits<|jk 3<|cx [] 7 Zkm
abbrev Yqj (x0:Zi) (r:Bool):Y:=(304,[.agg (Zi.enc x0)],bl r,un 1)
theorem Z9i {x0 r}  : rO x0=some r->Zq Tryz.prog Mo (Yqj x0 r):=
 fK Tryz.func304<|rt
abbrev Zct (x0:List Zi) (r:Int):Y:=(307,[.tr (x0.map Zi.enc),.fn 304 []],il r,un 2)
theorem Ziu {x0 r}:∀{m v0},Q7 x0 m v0=some r->CS (Zct x0 r) Tryz.f307 [1,0,1,0] [(0,.tr (x0.map Zi.enc)),(1,.fn 304 []),(7,il (x0.length:Int)),(8,il v0)] []:=by
 intro m
 induction m with
 | zero=>intro v0 h;cases h
 | succ m ih=>exact st<|it (bb Zi.enc<|br Z9i<|it rt<|cx [] 16 ih)<|rt
theorem Zlq {x0 r}  : K1 x0=some r->Zq Tryz.prog Mo (Zct x0 r):=
 fK Tryz.func307<|js Zi.enc x0<|cx [] 6 Ziu
abbrev Zce (x0:List Zi) (r:List Zi):Y:=(303,[.own 47 (x0.map Zi.enc),.fn 304 []],.own 47 (r.map Zi.enc),un 2)
theorem Zip {x0 r}:∀{m v0 v1 v2},Q2 x0 m v0 v1 v2=some r->CS (Zce x0 r) Tryz.f303 [1,1,1,0,1,0] [(0,sq 1 (v0.map Zi.enc).length),(1,.fn 304 []),(5,il v1),(6,il v2)] [rx 1 47 (v0.map Zi.enc)]:=by
 intro m
 induction m with
 | zero=>intro v0 v1 v2 h;cases h
 | succ m ih=>exactλ{v0} {v1} {v2}=>st<|js Zi.enc v0<|it (bd Zi.enc<|br Z9i<|it (bn λBU=>bn λ{y0} Kk=>jw (xp Zi.enc BU Kk)<|jp (.num (y0.map Zi.enc).length 0 0 [])<|jo (Kc Zi.enc Kk)<|cx (A1 1 1) 18 ih)<|jn Zi.enc v0<|cx (A1 1 1) 16 ih)<|jp (.num (v1:Int).toNat ((v0.length:Int):Int).toNat (((v0.length:Int):Int).toNat - (v1:Int).toNat) [])<|jk 1<|bn λQr=>bn λ{y1} Cp=>jp (.app (y1.map Zi.enc) true [] 0)<|jp (.num (0:Int).toNat (v1:Int).toNat ((v1:Int).toNat - (0:Int).toNat) [])<|jk 1<|bn λ{s1} Ch=>jp (.mk 0 (s1.map Zi.enc))<|je Zi.enc v0<|jo (DV Qr).1<|jo (G7 Zi.enc v0)<|jo (Em Zi.enc Qr)<|jo (CM 8 Zi.A9 v0)<|jo (Eq.refl (((v0.length:Int):Int).toNat - (v1:Int).toNat))<|jo (clrl Zi.enc Cp)<|jo (clrr Zi.enc Cp)<|jo (clrs Zi.enc Cp)<|jo (Eq.refl 0)<|jo (DV Ch).2<|jo (Em Zi.enc Ch)<|jo (CM 8 Zi.A9 y1)<|jo (Eq.refl ((v1:Int).toNat - (0:Int).toNat))<|jo (kZ Zi.enc Ch)<|jo (EJ Zi.enc Ch)<|rt
theorem Zk0 {x0 r}  : W2 x0=some r->Zq Tryz.prog Mo (Zce x0 r):=
 fK Tryz.func303<|jk 1<|je Zi.enc x0<|br Zlq<|it (jk 1<|je Zi.enc x0<|rt)<|jn Zi.enc x0<|cx (fz 1 0 0) 13 Zip
abbrev Yy1 (x0:Za) (r:List Zi):Y:=(292,[.rp true (Za.enc x0) 0],.own 47 (r.map Zi.enc),un 1)
theorem Yw1 {x0 r}  : rP x0=some r->Zq Tryz.prog Mo (Yy1 x0 r):=
 fK Tryz.func292<|jk 1<|jo (show 2=([x0.addr,x0.Aa].map Zi.enc).length from rfl)<|br Zk0 λ{r0}=>jk 1<|je Zi.enc r0<|rt
abbrev Jw (x0:Za) (r:Bool):Y:=(261,[.rp true (Za.enc x0) 0],bl r,un 1)
theorem Zmr {x0 r} {A4:(List Int)->(List Zi)->Int->Int->Option Bool} (AW:∀{v0 v1 v2 v3},A4 v0 v1 v2 v3=some r->CS (Jw x0 r) Tryz.f261 [1,1,0,1,0] [(0,.rp true (Za.enc x0) 0),(3,sq 1 (v0.map Zc).length),(18,sq 2 (v1.map Zi.enc).length),(19,il v2),(20,il v3)] [rx 1 3 (v0.map Zc),rx 2 47 (v1.map Zi.enc)]) {Ad v0 v1 v2 v3 v4}:Jx x0 A4 Ad v0 v1 v2 v3 v4=some r->CS (Jw x0 r) Tryz.f261 [1,1,0,1,0,0,1,1,0,0,1,0,1] [(0,.rp true (Za.enc x0) 0),(3,sq 2 (v0.map Zc).length),(5,pt 1),(18,sq 3 (v1.map Zi.enc).length),(19,il v2),(20,il v3),(48,bl v4)] [bx 1 (Zi.enc Ad),rx 2 3 (v0.map Zc),rx 3 47 (v1.map Zi.enc)]:=
 st<|it rt<|bn λW9=>jw (xd Zc W9)<|bn λ{y0} Kk=>jw (xp Zc W9 Kk)<|jp (.num (y0.map Zc).length 0 0 [])<|jo (Kc Zc Kk)<|jn Zi.enc v1<|cx (fz 1 1 2++fz 2 1 3) 5 AW
theorem Zm9 {x0 r} {v5}:Kf x0 v5=some r->CS (Jw x0 r) Tryz.f261 [1,1,1,1,1,1,1,1,0,0,1,1,1,1,1] [(0,.rp true (Za.enc x0) 0),(9,pt 1),(179,bl v5)] [bx 1 (Zi.enc x0.Aa)]:=
 st<|it rt<|it (jk 7<|rt)<|jk 3<|it (jk 5<|it (jk 8<|rt)<|jk 8<|rt)<|jk 14<|rt
theorem Zxk {x0 r} {At v6}:c6 x0 At v6=some r->CS (Jw x0 r) Tryz.f261 [1,1,1,1,1,1,1,1,0,0,1,1,1] [(0,.rp true (Za.enc x0) 0),(9,pt 1),(10,pt 2),(165,bl v6)] [bx 1 (Zi.enc x0.Aa),bx 2 (Zh.enc At)]:=
 st<|it rt<|it (jk 2<|it (jk 9<|cx (A1 1 1) 3 Zm9)<|jk 9<|cx (A1 1 1) 3 Zm9)<|jk 4<|cx (A1 1 1) 3 Zm9
theorem Znw {x0 r} {At v7}:U4 x0 At v7=some r->CS (Jw x0 r) Tryz.f261 [1,1,1,1,1,1,1,1,0,0,1] [(0,.rp true (Za.enc x0) 0),(9,pt 1),(10,pt 2),(141,bl v7)] [bx 1 (Zi.enc x0.Aa),bx 2 (Zh.enc At)]:=
 st<|it rt<|it (jk 8<|cx (A1 1 2) 3 Zxk)<|jk 8<|cx (A1 1 2) 3 Zxk
theorem Kb {x0 r} {v8}:Xm x0 v8=some r->CS (Jw x0 r) Tryz.f261 [1,1,1,1,0,1,1] [(0,.rp true (Za.enc x0) 0),(122,bl v8)] []:=
 st<|it rt<|it rt<|bb Zh.enc<|it (jk 15<|cx (fz 1 2 4096++fz 2 4 8192) 15 Znw)<|jk 8<|br Xh<|jk 2<|it (jk 4<|cx (fz 1 2 4096++fz 2 4 8192) 15 Znw)<|jk 2<|br Xh<|jk 2<|cx (fz 1 2 4096++fz 2 4 8192) 15 Znw
theorem Ya0 {x0 r}:∀{m v0 v9},c7 x0 m v0 v9=some r->CS (Jw x0 r) Tryz.f261 [1,1,1,0,1,0] [(0,.rp true (Za.enc x0) 0),(3,sq 1 (v0.map Zc).length),(60,.tr (x0.m.map Zh.enc)),(61,il (x0.m.length:Int)),(62,il v9)] [rx 1 3 (v0.map Zc)]:=by
 intro m
 induction m with
 | zero=>intro v0 v9 h;cases h
 | succ m ih=>exactλ{v0} {v9}=>st<|it (bb Zh.enc<|bd Zc<|it rt<|jn Zc v0<|cx (A1 1 1) 16 ih)<|it (jk 8<|bb Zh.enc<|jk 5<|it (jk 22<|cx [] 14 Kb)<|jk 5<|it (jk 16<|cx [] 14 Kb)<|jk 5<|it (jk 10<|cx [] 14 Kb)<|jk 4<|it (jk 5<|cx [] 14 Kb)<|jk 3<|it (jk 5<|cx [] 14 Kb)<|jk 5<|cx [] 14 Kb)<|jk 23<|it (jk 5<|cx [] 14 Kb)<|jk 5<|cx [] 14 Kb
theorem Ycd {x0 r}:∀{m v0 v1 v2 v3},rQ x0 m v0 v1 v2 v3=some r->CS (Jw x0 r) Tryz.f261 [1,1,0,1,0] [(0,.rp true (Za.enc x0) 0),(3,sq 1 (v0.map Zc).length),(18,sq 2 (v1.map Zi.enc).length),(19,il v2),(20,il v3)] [rx 1 3 (v0.map Zc),rx 2 47 (v1.map Zi.enc)]:=by
 intro m
 induction m with
 | zero=>intro v0 v1 v2 v3 h;cases h
 | succ m ih=>exactλ{v0} {v1} {v2} {v3}=>st<|it (bd Zi.enc<|br Sv<|it (jk 14<|jn Zc v0<|jn Zi.enc v1<|cx (fz 1 3 2048++fz 2 1 1++fz 3 1 2) 13 (Zmr ih))<|jk 2<|br Xh<|jk 2<|it (jk 9<|jn Zc v0<|jn Zi.enc v1<|cx (fz 1 3 2048++fz 2 1 1++fz 3 1 2) 13 (Zmr ih))<|jk 6<|bb Zc<|jk 3<|jn Zc v0<|jn Zi.enc v1<|cx (fz 1 3 2048++fz 2 1 1++fz 3 1 2) 13 (Zmr ih))<|js Zh.enc x0.m<|jn Zc v0<|cx (A1 1 1) 13 Ya0
theorem Z3q {x0 r}  : U5 x0=some r->Zq Tryz.prog Mo (Jw x0 r):=
 fK Tryz.func261<|js Zh.enc x0.m<|bn λ{m0} Dy=>jp (.mk ((x0.m.length:Int):Int).toNat (m0.map Zc))<|jo (Lx Dy)<|jo (Lx Dy)<|jo (ZM Dy)<|jo (ZN Zc Dy)<|br Yw1 λ{r4}=>js Zi.enc r4<|jn Zc m0<|jn Zi.enc r4<|cx (fz 1 2 5120++fz 2 3 1024) 8 Ycd
abbrev Z9u (x0:Za) (r:Bool):Y:=(262,[.rp true (Za.enc x0) 0],bl r,un 1)
theorem Yet {x0 r}:∀{m v0},Zqv x0 m v0=some r->CS (Z9u x0 r) Tryz.f262 [1,0,1,0] [(0,.rp true (Za.enc x0) 0),(8,.tr (x0.m.map Zh.enc)),(9,il (x0.m.length:Int)),(10,il v0)] []:=by
 intro m
 induction m with
 | zero=>intro v0 h;cases h
 | succ m ih=>exact st<|it (bb Zh.enc<|it (jk 1<|br Yeq<|jk 1<|it (jk 6<|it rt<|cx [] 16 ih)<|jk 7<|cx [] 16 ih)<|jk 10<|cx [] 16 ih)<|it rt<|br Sv<|it (jk 8<|bb Zh.enc<|jk 2<|br Yeq<|jk 1<|it (jk 8<|bb Zc<|jk 3<|it (jk 9<|br Xh<|jk 1<|rt)<|jk 10<|rt)<|jk 22<|rt)<|jk 34<|rt
theorem Z8s {x0 r}  : U6 x0=some r->Zq Tryz.prog Mo (Z9u x0 r):=
 fK Tryz.func262<|js Zh.enc x0.m<|cx [] 6 Yet
abbrev Z3x (x0:Za) (r:Bool):Y:=(263,[.rp true (Za.enc x0) 0],bl r,un 1)
theorem Ya9 {x0 r}:∀{m v0 v1},rT x0 m v0 v1=some r->CS (Z3x x0 r) Tryz.f263 [1,1,0,1,0] [(0,.rp true (Za.enc x0) 0),(3,il v0),(9,.tr (x0.log.map Zt.enc)),(10,il (x0.log.length:Int)),(11,il v1)] []:=by
 intro m
 induction m with
 | zero=>intro v0 v1 h;cases h
 | succ m ih=>exact st<|it (bb Zt.enc<|it (jk 41<|rt)<|jk 7<|it (jk 33<|rt)<|jk 6<|br Sv<|jk 2<|it (jk 24<|rt)<|jk 4<|br s7<|jk 2<|it (jk 17<|rt)<|jk 3<|it (jk 13<|rt)<|jk 4<|br Su<|jk 2<|it (jk 6<|rt)<|jk 3<|it (jk 5<|it rt<|cx [] 18 ih)<|jk 6<|cx [] 18 ih)<|rt
theorem Z4j {x0 r}  : U7 x0=some r->Zq Tryz.prog Mo (Z3x x0 r):=
 fK Tryz.func263<|js Zt.enc x0.log<|cx [] 8 Ya9
abbrev Y9z (x0:Za) (r:Bool):Y:=(215,[.agg (Za.enc x0)],bl r,un 1)
theorem Y9l {x0 r}  : U8 x0=some r->Zq Tryz.prog Mo (Y9z x0 r):=
 fK Tryz.func215<|br UO<|it (jk 2<|br Xh<|jk 1<|it (br Yec<|jk 1<|it (jk 4<|br Ye6<|jk 1<|it (jk 3<|it (jk 10<|br Z79<|jk 1<|it (jk 4<|br Xh<|jk 1<|it (br Z3q<|jk 1<|it (br Z8s<|jk 1<|it (br Z4j<|jk 1<|rt)<|jk 1<|rt)<|jk 3<|rt)<|jk 5<|rt)<|jk 11<|rt)<|jk 4<|br Sv<|jk 3<|it (jk 2<|br Z79<|jk 1<|it (jk 4<|br Xh<|jk 1<|it (br Z3q<|jk 1<|it (br Z8s<|jk 1<|it (br Z4j<|jk 1<|rt)<|jk 1<|rt)<|jk 3<|rt)<|jk 5<|rt)<|jk 11<|rt)<|jk 15<|rt)<|jk 21<|rt)<|jk 27<|rt)<|jk 29<|rt)<|jk 33<|rt
abbrev Yge (x0:Zb) (r:Int):Y:=(216,[.agg (Zb.enc x0)],il r,un 1)
theorem Ylb {x0 r}:∀{m v0 v1},rU x0 m v0 v1=some r->CS (Yge x0 r) Tryz.f216 [1,1,0,1,0] [(3,il v0),(7,.tr (x0.Am.map Zm.enc)),(8,il (x0.Am.length:Int)),(9,il v1)] []:=by
 intro m
 induction m with
 | zero=>intro v0 v1 h;cases h
 | succ m ih=>exact st<|it (bb Zm.enc<|cx [] 13 ih)<|rt
theorem Yxb {x0 r}  : rV x0=some r->Zq Tryz.prog Mo (Yge x0 r):=
 fK Tryz.func216<|js Zm.enc x0.Am<|cx [] 8 Ylb
abbrev Yka (x0:Zh) (r:Bool):Y:=(218,[.agg (Zh.enc x0)],bl r,un 1)
theorem Yk0 {x0 r}  : c8 x0=some r->Zq Tryz.prog Mo (Yka x0 r):=
 fK Tryz.func218<|js Zj.enc x0.queue<|rt
abbrev Zcu (x0:List Zh) (r:Int):Y:=(264,[.tr (x0.map Zh.enc),.fn 218 []],il r,un 2)
theorem Zit {x0 r}:∀{m v0},Wo x0 m v0=some r->CS (Zcu x0 r) Tryz.f264 [1,0,1,0] [(0,.tr (x0.map Zh.enc)),(1,.fn 218 []),(7,il (x0.length:Int)),(8,il v0)] []:=by
 intro m
 induction m with
 | zero=>intro v0 h;cases h
 | succ m ih=>exact st<|it (bb Zh.enc<|br Yk0<|it rt<|cx [] 16 ih)<|rt
theorem Zlv {x0 r}  : K3 x0=some r->Zq Tryz.prog Mo (Zcu x0 r):=
 fK Tryz.func264<|js Zh.enc x0<|cx [] 6 Zit
abbrev Zjm (x0:List Zh) (r:Bool):Y:=(217,[.tr (x0.map Zh.enc),.fn 218 []],bl r,un 2)
theorem Zj0 {x0 r}  : Kj x0=some r->Zq Tryz.prog Mo (Zjm x0 r):=
 fK Tryz.func217<|br Zlv<|rt
abbrev Yqh (x0:Za) (r:Bool):Y:=(163,[.rp true (Za.enc x0) 0],bl r,un 1)
theorem Z88 {x0 r}  : dA x0=some r->Zq Tryz.prog Mo (Yqh x0 r):=
 fK Tryz.func163<|br Zj0<|rt
abbrev Yb1 (x0:Za) (x1:Zb) (r:Za×Int):Y:=(162,[.agg (Za.enc x0),.agg (Zb.enc x1)],.AX [.agg (Za.ow r.1),il r.2],un 2)
theorem Z87 {x0 x1 r} {Ad}:dB x0 x1 Ad=some r->CS (Yb1 x0 x1 r) Tryz.f162 [1,1,1,1,1] [(2,pt 1),(4,pt 2),(6,pt 11)] ([bx 1 (Za.enc x0)]++Za.bk Za.z0 3++[bx 2 (Za.rl Za.z0 3)]++Za.bk Ad 12++[bx 11 (Za.rl Ad 12)]):=
 st<|jk 8<|jw (Za.so Ad)<|br Ynz λ{r0}=>jk 8<|jw (Za.so r0)<|rt
theorem Yq4 {x0 x1 r}:∀{m At v0},Sl x0 x1 m At v0=some r->CS (Yb1 x0 x1 r) Tryz.f162 [1,1,1,1,0,0] [(2,pt 1),(3,pt 2),(4,pt 3),(6,pt 12),(7,il v0)] ([bx 1 (Za.enc x0),bx 2 (Zb.enc x1)]++Za.bk Za.z0 4++[bx 3 (Za.rl Za.z0 4)]++Za.bk At 13++[bx 12 (Za.rl At 13)]):=by
 intro m
 induction m with
 | zero=>intro At v0 h;cases h
 | succ m ih=>exactλ{At} {v0}=>st<|it (jk 8<|jw (Za.so At)<|br Z88<|jk 2<|it (jk 15<|jw (Za.so At)<|br Z3d λ{r2}=>jw (Za.sc Za.z0)<|jw (Za.sc r2.2)<|cx (A1 1 12++Za.ff 13 3 1536) 9 ih)<|jk 6<|it (jk 8<|jw (Za.so At)<|br Z3d λ{r2}=>jw (Za.sc Za.z0)<|jw (Za.sc r2.2)<|cx (A1 1 12++Za.ff 13 3 1536) 9 ih)<|jw (Za.sc Za.z0)<|jw (Za.sc At)<|cx (A1 1 1++fz 2 1 3++fz 3 1 4++fz 4 1 5++fz 5 1 6++fz 6 1 7++fz 7 1 8++fz 8 1 9++fz 9 1 10++fz 10 1 11++fz 11 1 12++fz 12 1 13++fz 13 1 14++fz 14 1 15++fz 15 1 16++fz 16 1 17++fz 17 1 18++fz 18 1 19++fz 19 1 20) 9 Z87)<|jk 5<|jw (Za.sc Za.z0)<|jw (Za.sc At)<|cx (A1 1 1++fz 2 1 3++fz 3 1 4++fz 4 1 5++fz 5 1 6++fz 6 1 7++fz 7 1 8++fz 8 1 9++fz 9 1 10++fz 10 1 11++fz 11 1 12++fz 12 1 13++fz 13 1 14++fz 14 1 15++fz 15 1 16++fz 16 1 17++fz 17 1 18++fz 18 1 19++fz 19 1 20) 9 Z87
theorem Y53 {x0 x1 r}  : rW x0 x1=some r->Zq Tryz.prog Mo (Yb1 x0 x1 r):=
 fK Tryz.func162<|br Ynz λ{r3}=>br Y9l<|it (jk 8<|jw (Za.so r3)<|rt)<|br Yxb<|jw (Za.sc r3)<|cx (fz 1 1 0++fz 2 1 1024++fz 3 1 2048++fz 12 2 2048++Za.ff 13 2 1024) 13 Yq4
abbrev Yo1 (x0:List Zt) (r:Zf×Int):Y:=(164,[.tr (x0.map Zt.enc)],.AX [.agg (Zf.ow r.1),il r.2],un 1)
theorem Yqd {x0 r}:∀{m Ad v0},dD x0 m Ad v0=some r->CS (Yo1 x0 r) Tryz.f164 [1,1,0,1,0] [(2,pt 1),(4,pt 5),(11,.tr (x0.map Zt.enc)),(12,il (x0.length:Int)),(13,il v0)] (Zf.bk Zf.z0 2++[bx 1 (Zf.rl Zf.z0 2)]++Zf.bk Ad 6++[bx 5 (Zf.rl Ad 6)]):=by
 intro m
 induction m with
 | zero=>intro Ad v0 h;cases h
 | succ m ih=>exactλ{Ad} {v0}=>st<|it (bb Zt.enc<|it (jw (Zf.sc Zf.z0)<|jw (Zf.sc Ad)<|cx (A1 1 8) 18 ih)<|jk 3<|jw (Zf.so Ad)<|br Yjv λ{r0}=>it (jk 8<|jw (Zf.so Ad)<|rt)<|jk 4<|it (jk 3<|jw (Zf.so Ad)<|rt)<|jw (Zf.sc Zf.z0)<|jw (Zf.sc r0.1)<|cx (A1 1 5++Zf.ff 6 5 9216) 25 ih)<|jk 3<|jw (Zf.so Ad)<|rt
theorem Y6a {x0 r}  : rX x0=some r->Zq Tryz.prog Mo (Yo1 x0 r):=
 fK Tryz.func164<|br Yex λ{r1}=>js Zt.enc x0<|jw (Zf.sc r1)<|cx (fz 1 1 0++fz 5 2 1024++Zf.ff 6 2 0) 8 Yqd
abbrev Ywk (x0:Zt) (r:ByteArray):Y:=(166,[.agg (Zt.enc x0)],ss r,un 1)
theorem Ywj {x0 r}  : rY x0=some r->Zq Tryz.prog Mo (Ywk x0 r):=
 fK Tryz.func166<|br H9 λ{r0}=>br H9 λ{r1}=>br Yc6 λ{r2}=>br H9 λ{r3}=>br H9 λ{r4}=>br Yep λ{r5}=>jk 1<|jo (show 6=([r0,r1,r2,r3,r4,r5].map Zp).length from rfl)<|br OR<|rt
abbrev Ytg (Au:Zg) (Aq:Zb) (AH:Za) (x1:ByteArray) (r:ByteArray×Z3):Y:=(105,[.agg [.own 83 (Au.Ab.map Zd.enc),il Au.Av,il Au.As,il Au.An,il Au.Ap,il Au.Al,.own 60 (Aq.Am.map Zm.enc),.own 3 (Aq.waits.map Zc),.own 3 (Aq.A3.map Zc),.CQ (Za.ow AH)],ss x1],ss r.1,[.agg [.own 83 (r.2.Ae.Ab.map Zd.enc),il r.2.Ae.Av,il r.2.Ae.As,il r.2.Ae.An,il r.2.Ae.Ap,il r.2.Ae.Al,.own 60 (r.2.script.Am.map Zm.enc),.own 3 (r.2.script.waits.map Zc),.own 3 (r.2.script.A3.map Zc),Za.oE r.2.DW],.undef])
theorem Yth {Au Aq AH x1 r}  : rZ Au Aq AH x1=some r->Zq Tryz.prog Mo (Ytg Au Aq AH x1 r):=
 fK Tryz.func105<|it (it (jk 12<|je Zd.enc Au.Ab<|jw (Zb.so Aq)<|jw (Za.so AH)<|rt)<|jk 11<|jw (Za.so AH)<|jw (Zb.so Aq)<|br Z3d λ{r0}=>br Yxg<|jk 12<|je Zd.enc Au.Ab<|jw (Zb.so Aq)<|jw (Za.so r0.2)<|rt)<|it (jk 11<|jw (Za.so AH)<|jw (Zb.so Aq)<|br Y53 λ{r2}=>br H9<|jk 12<|je Zd.enc Au.Ab<|jw (Zb.so Aq)<|jw (Za.so r2.1)<|rt)<|it (jk 8<|jw (Za.so AH)<|br Z88<|it (jk 12<|je Zd.enc Au.Ab<|jw (Zb.so Aq)<|jw (Za.so AH)<|rt)<|jk 12<|je Zd.enc Au.Ab<|jw (Zb.so Aq)<|jw (Za.so AH)<|rt)<|it (jk 1<|je Zt.enc AH.log<|br Y6a<|br UR<|jk 12<|je Zd.enc Au.Ab<|jw (Zb.so Aq)<|jw (Za.so AH)<|rt)<|js Zt.enc AH.log<|it (jk 12<|je Zd.enc Au.Ab<|jw (Zb.so Aq)<|jw (Za.so AH)<|rt)<|bd Zt.enc<|br Ywj<|jl<|bo Yd<|br H9<|jl<|jk 12<|bo Yd<|je Zd.enc Au.Ab<|jw (Zb.so Aq)<|jw (Za.so AH)<|rt
abbrev Z6d (Au:Zg) (Aq:Zb) (AH:Za) (x1:ByteArray) (r:ByteArray×Z3):Y:=(52,[.agg [.own 83 (Au.Ab.map Zd.enc),il Au.Av,il Au.As,il Au.An,il Au.Ap,il Au.Al,.own 60 (Aq.Am.map Zm.enc),.own 3 (Aq.waits.map Zc),.own 3 (Aq.A3.map Zc),.CQ (Za.ow AH)],ss x1],ss r.1,[.agg [.own 83 (r.2.Ae.Ab.map Zd.enc),il r.2.Ae.Av,il r.2.Ae.As,il r.2.Ae.An,il r.2.Ae.Ap,il r.2.Ae.Al,.own 60 (r.2.script.Am.map Zm.enc),.own 3 (r.2.script.waits.map Zc),.own 3 (r.2.script.A3.map Zc),Za.oE r.2.DW],.undef])
theorem eB {Au Aq AH x1 r} {v0}:Sm Au Aq AH x1 v0=some r->CS (Z6d Au Aq AH x1 r) Tryz.f52 [1,0,1,0,1,1,1,1,1] [(0,.ptr (0,63) 0 0),(1,ss x1),(34,bl v0)] ([rx 1 83 (Au.Ab.map Zd.enc),rx 2 60 (Aq.Am.map Zm.enc),rx 3 3 (Aq.waits.map Zc),rx 4 3 (Aq.A3.map Zc),((0,63),⟨true,true,true,0,[[sq 1 (Au.Ab.map Zd.enc).length,il Au.Av,il Au.As,il Au.An,il Au.Ap,il Au.Al,sq 2 (Aq.Am.map Zm.enc).length,sq 3 (Aq.waits.map Zc).length,sq 4 (Aq.A3.map Zc).length,pt 5]]⟩)]++Za.oB 5 (some AH)):=
 st<|it (jk 13<|je Zd.enc Au.Ab<|jw (Zb.so Aq)<|jw (Za.so AH)<|bn λ{r0} NY=>jr (Yth NY)<|match r0,NY with|(z0,⟨z1,z2,none⟩),NY=>jk 4<|je Zd.enc z1.Ab<|jw (Zb.so z2)<|rt|(z0,⟨z1,z2,some z3⟩),NY=>jk 12<|je Zd.enc z1.Ab<|jw (Zb.so z2)<|jw (Za.so z3)<|rt)<|jk 12<|je Zd.enc Au.Ab<|jw (Zb.so Aq)<|jw (Za.so AH)<|rt
theorem Yoo {Au Aq AH x1 r}  : dE Au Aq AH x1=some r->Zq Tryz.prog Mo (Z6d Au Aq AH x1 r):=
 fK Tryz.func52<|it (jk 1<|je Zd.enc Au.Ab<|br Yo5 λ{r1}=>it (jk 12<|je Zd.enc Au.Ab<|jw (Zb.so Aq)<|jw (Za.so AH)<|rt)<|jk 12<|je Zd.enc Au.Ab<|jw (Zb.so Aq)<|jw (Za.so r1.1)<|rt)<|it (jk 1<|je Zd.enc Au.Ab<|br Z3z<|it (jk 12<|je Zd.enc Au.Ab<|jw (Zb.so Aq)<|jw (Za.so AH)<|rt)<|jk 12<|je Zd.enc Au.Ab<|jw (Zb.so Aq)<|jw (Za.so AH)<|rt)<|it (jn Zd.enc Au.Ab<|jp (.num (Aq.Am.map Zm.enc).length 0 0 [])<|jp (.num (Aq.waits.map Zc).length 0 0 [])<|jp (.num (Aq.A3.map Zc).length 0 0 [])<|jw (Zb.so Aq)<|jw (Za.sc AH)<|cx (fz 1 0 0++fz 2 0 6++fz 3 0 7++fz 4 0 8++fz 5 0 9++fz 6 0 10++fz 7 0 17++fz 8 0 20++fz 9 0 21++fz 10 0 41++fz 11 0 42++fz 12 0 44++fz 13 0 46) 17 eB)<|it (jn Zd.enc Au.Ab<|jp (.num (Aq.Am.map Zm.enc).length 0 0 [])<|jp (.num (Aq.waits.map Zc).length 0 0 [])<|jp (.num (Aq.A3.map Zc).length 0 0 [])<|jw (Zb.so Aq)<|jw (Za.sc AH)<|cx (fz 1 0 0++fz 2 0 6++fz 3 0 7++fz 4 0 8++fz 5 0 9++fz 6 0 10++fz 7 0 17++fz 8 0 20++fz 9 0 21++fz 10 0 41++fz 11 0 42++fz 12 0 44++fz 13 0 46) 20 eB)<|it (jn Zd.enc Au.Ab<|jp (.num (Aq.Am.map Zm.enc).length 0 0 [])<|jp (.num (Aq.waits.map Zc).length 0 0 [])<|jp (.num (Aq.A3.map Zc).length 0 0 [])<|jw (Zb.so Aq)<|jw (Za.sc AH)<|cx (fz 1 0 0++fz 2 0 6++fz 3 0 7++fz 4 0 8++fz 5 0 9++fz 6 0 10++fz 7 0 17++fz 8 0 20++fz 9 0 21++fz 10 0 41++fz 11 0 42++fz 12 0 44++fz 13 0 46) 23 eB)<|it (jn Zd.enc Au.Ab<|jp (.num (Aq.Am.map Zm.enc).length 0 0 [])<|jp (.num (Aq.waits.map Zc).length 0 0 [])<|jp (.num (Aq.A3.map Zc).length 0 0 [])<|jw (Zb.so Aq)<|jw (Za.sc AH)<|cx (fz 1 0 0++fz 2 0 6++fz 3 0 7++fz 4 0 8++fz 5 0 9++fz 6 0 10++fz 7 0 17++fz 8 0 20++fz 9 0 21++fz 10 0 41++fz 11 0 42++fz 12 0 44++fz 13 0 46) 26 eB)<|jn Zd.enc Au.Ab<|jp (.num (Aq.Am.map Zm.enc).length 0 0 [])<|jp (.num (Aq.waits.map Zc).length 0 0 [])<|jp (.num (Aq.A3.map Zc).length 0 0 [])<|jw (Zb.so Aq)<|jw (Za.sc AH)<|cx (fz 1 0 0++fz 2 0 6++fz 3 0 7++fz 4 0 8++fz 5 0 9++fz 6 0 10++fz 7 0 17++fz 8 0 20++fz 9 0 21++fz 10 0 41++fz 11 0 42++fz 12 0 44++fz 13 0 46) 26 eB
abbrev tG (x0:ByteArray) (r:ByteArray):Y:=(19,[ss x0],ss r,un 1)
theorem Yy3 {x0 r}:∀{m Ad v0 v1 v2 v3},J1 x0 m Ad v0 v1 v2 v3=some r->CS (tG x0 r) Tryz.f19 [1,1,1,1,1,0,1,0] [(5,pt 1),(6,ss v0),(32,.tr (v1.map Zp)),(33,il v2),(34,il v3)] ([rx 2 83 (Ad.Ae.Ab.map Zd.enc),rx 3 60 (Ad.script.Am.map Zm.enc),rx 4 3 (Ad.script.waits.map Zc),rx 5 3 (Ad.script.A3.map Zc),bx 1 [sq 2 (Ad.Ae.Ab.map Zd.enc).length,il Ad.Ae.Av,il Ad.Ae.As,il Ad.Ae.An,il Ad.Ae.Ap,il Ad.Ae.Al,sq 3 (Ad.script.Am.map Zm.enc).length,sq 4 (Ad.script.waits.map Zc).length,sq 5 (Ad.script.A3.map Zc).length,Za.oV 6 Ad.DW]]++Za.oB 6 Ad.DW):=by
 intro m
 induction m with
 | zero=>intro Ad v0 v1 v2 v3 h;cases h
 | succ m ih=>exactλ{Ad} {v0} {v1} {v2} {v3}=>st<|match Ad with|⟨z0,z1,none⟩=>it (bb Zp<|it (jn Zd.enc z0.Ab<|jp (.num (z1.Am.map Zm.enc).length 0 0 [])<|jp (.num (z1.waits.map Zc).length 0 0 [])<|jp (.num (z1.A3.map Zc).length 0 0 [])<|jw (Zb.so z1)<|cx (A1 1 5) 18 ih)<|br Zz5<|it (jk 4<|je Zd.enc z0.Ab<|jw (Zb.so z1)<|bn λ{r1} EE=>jr (Yty EE)<|jl<|jl<|match r1,EE with|(z2,⟨z3,z4,none⟩),EE=>bo Yd<|bo Yd<|jn Zd.enc z3.Ab<|jp (.num (z4.Am.map Zm.enc).length 0 0 [])<|jp (.num (z4.waits.map Zc).length 0 0 [])<|jp (.num (z4.A3.map Zc).length 0 0 [])<|jw (Zb.so z4)<|cx (A1 1 1++fz 2 6 3584++fz 3 6 3590++fz 4 6 3591++fz 5 6 3592) 21 ih|(z2,⟨z3,z4,some z5⟩),EE=>bo Yd<|bo Yd<|jn Zd.enc z3.Ab<|jp (.num (z4.Am.map Zm.enc).length 0 0 [])<|jp (.num (z4.waits.map Zc).length 0 0 [])<|jp (.num (z4.A3.map Zc).length 0 0 [])<|jw (Zb.so z4)<|jw (Za.sc z5)<|cx (A1 1 1++fz 2 6 3584++fz 3 6 3590++fz 4 6 3591++fz 5 6 3592++fz 6 6 3593++fz 7 6 3594++fz 8 6 3601++fz 9 6 3604++fz 10 6 3605++fz 11 6 3625++fz 12 6 3626++fz 13 6 3628++fz 14 6 3630) 21 ih)<|jk 4<|je Zd.enc z0.Ab<|jw (Zb.so z1)<|bn λ{r2} Cw=>jr (Yp8 Cw)<|jl<|jl<|match r2,Cw with|(z6,⟨z7,z8,none⟩),Cw=>bo Yd<|bo Yd<|jn Zd.enc z7.Ab<|jp (.num (z8.Am.map Zm.enc).length 0 0 [])<|jp (.num (z8.waits.map Zc).length 0 0 [])<|jp (.num (z8.A3.map Zc).length 0 0 [])<|jw (Zb.so z8)<|cx (A1 1 1++fz 2 6 3584++fz 3 6 3590++fz 4 6 3591++fz 5 6 3592) 21 ih|(z6,⟨z7,z8,some z9⟩),Cw=>bo Yd<|bo Yd<|jn Zd.enc z7.Ab<|jp (.num (z8.Am.map Zm.enc).length 0 0 [])<|jp (.num (z8.waits.map Zc).length 0 0 [])<|jp (.num (z8.A3.map Zc).length 0 0 [])<|jw (Zb.so z8)<|jw (Za.sc z9)<|cx (A1 1 1++fz 2 6 3584++fz 3 6 3590++fz 4 6 3591++fz 5 6 3592++fz 6 6 3593++fz 7 6 3594++fz 8 6 3601++fz 9 6 3604++fz 10 6 3605++fz 11 6 3625++fz 12 6 3626++fz 13 6 3628++fz 14 6 3630) 21 ih)<|rt|⟨z0,z1,some Sn⟩=>it (bb Zp<|it (jn Zd.enc z0.Ab<|jp (.num (z1.Am.map Zm.enc).length 0 0 [])<|jp (.num (z1.waits.map Zc).length 0 0 [])<|jp (.num (z1.A3.map Zc).length 0 0 [])<|jw (Zb.so z1)<|jw (Za.sc Sn)<|cx (A1 1 14) 18 ih)<|br Zz5<|it (jk 12<|je Zd.enc z0.Ab<|jw (Zb.so z1)<|jw (Za.so Sn)<|bn λ{r1} EE=>jr (Yp7 EE)<|jl<|jl<|match r1,EE with|(z2,⟨z3,z4,none⟩),EE=>bo Yd<|bo Yd<|jn Zd.enc z3.Ab<|jp (.num (z4.Am.map Zm.enc).length 0 0 [])<|jp (.num (z4.waits.map Zc).length 0 0 [])<|jp (.num (z4.A3.map Zc).length 0 0 [])<|jw (Zb.so z4)<|cx (A1 1 1++fz 2 6 3584++fz 3 6 3590++fz 4 6 3591++fz 5 6 3592) 21 ih|(z2,⟨z3,z4,some z5⟩),EE=>bo Yd<|bo Yd<|jn Zd.enc z3.Ab<|jp (.num (z4.Am.map Zm.enc).length 0 0 [])<|jp (.num (z4.waits.map Zc).length 0 0 [])<|jp (.num (z4.A3.map Zc).length 0 0 [])<|jw (Zb.so z4)<|jw (Za.sc z5)<|cx (A1 1 1++fz 2 6 3584++fz 3 6 3590++fz 4 6 3591++fz 5 6 3592++fz 6 6 3593++fz 7 6 3594++fz 8 6 3601++fz 9 6 3604++fz 10 6 3605++fz 11 6 3625++fz 12 6 3626++fz 13 6 3628++fz 14 6 3630) 21 ih)<|jk 12<|je Zd.enc z0.Ab<|jw (Zb.so z1)<|jw (Za.so Sn)<|bn λ{r2} Cw=>jr (Yoo Cw)<|jl<|jl<|match r2,Cw with|(z6,⟨z7,z8,none⟩),Cw=>bo Yd<|bo Yd<|jn Zd.enc z7.Ab<|jp (.num (z8.Am.map Zm.enc).length 0 0 [])<|jp (.num (z8.waits.map Zc).length 0 0 [])<|jp (.num (z8.A3.map Zc).length 0 0 [])<|jw (Zb.so z8)<|cx (A1 1 1++fz 2 6 3584++fz 3 6 3590++fz 4 6 3591++fz 5 6 3592) 21 ih|(z6,⟨z7,z8,some z9⟩),Cw=>bo Yd<|bo Yd<|jn Zd.enc z7.Ab<|jp (.num (z8.Am.map Zm.enc).length 0 0 [])<|jp (.num (z8.waits.map Zc).length 0 0 [])<|jp (.num (z8.A3.map Zc).length 0 0 [])<|jw (Zb.so z8)<|jw (Za.sc z9)<|cx (A1 1 1++fz 2 6 3584++fz 3 6 3590++fz 4 6 3591++fz 5 6 3592++fz 6 6 3593++fz 7 6 3594++fz 8 6 3601++fz 9 6 3604++fz 10 6 3605++fz 11 6 3625++fz 12 6 3626++fz 13 6 3628++fz 14 6 3630) 21 ih)<|rt
theorem Ye5 {x0 r} {v4 v5}:Z41 x0 v4 v5=some r->CS (tG x0 r) Tryz.f19 [1,1,1,0,1] [(3,.tr (v4.map Zp)),(29,bl v5)] []:=
 st<|it rt<|js Zp v4<|cx (fz 1 2 1024) 8 Yy3
theorem Ygk {x0 r} {v4}:Sp x0 v4=some r->CS (tG x0 r) Tryz.f19 [1,1,1] [(0,ss x0),(3,.tr (v4.map Zp))] []:=
 st<|it (jk 3<|cx [] 3 Ye5)<|jk 1<|js Zp v4<|jk 2<|cx [] 3 Ye5
theorem Yye {x0 r}  : U9 x0=some r->Zq Tryz.prog Mo (tG x0 r):=
 fK Tryz.func19<|br UH λ{r3}=>js Zp r3<|bb Zp<|it (bn λ{s0} Qr=>jp (.num (0:Int).toNat ((Y8 (r3.length:Int) 1):Int).toNat 0 (s0.map Zp))<|jo (Eq.refl 0)<|jo (DV Qr).2<|jo (Em Zp Qr)<|jo (CM 1 Q8 r3)<|jo (EJ Zp Qr)<|cx [] 11 Ygk)<|cx [] 11 Ygk
abbrev Xfo (x0:List Int) (r:Bool):Y:=(12,[.tr (x0.map CC)],bl r,un 1)
theorem Xef {x0 r}  : Yp5 x0=some r->Zq Tryz.prog Mo (Xfo x0 r):=
 fK Tryz.func12<|js CC x0<|rt
abbrev Sw (x0:List Int) (x1:Int) (r:Int):Y:=(14,[.tr (x0.map CC),il x1],il r,un 2)
theorem Sx {x0 x1 r}  : sB x0 x1=some r->Zq Tryz.prog Mo (Sw x0 x1 r):=
 fK Tryz.func14<|js CC x0<|it (bb CC<|rt)<|js CC x0<|jk 1<|rt
abbrev tH (x0:List Int) (r:Z0):Y:=(54,[.tr (x0.map CC)],.CQ [.tr (r.b.map CC),il r.i,il r.h],un 1)
theorem Yda {x0 r} {A4:Int->Int->Option Z0} (AW:∀{v0 v1},A4 v0 v1=some r->CS (tH x0 r) Tryz.f54 [1,1,0,1,0] [(0,.tr (x0.map CC)),(3,il v0),(4,il v1)] []) {v0 v1 v2}:sC x0 A4 v0 v1 v2=some r->CS (tH x0 r) Tryz.f54 [1,1,0,1,0,0,0,1] [(0,.tr (x0.map CC)),(3,il v0),(4,il v1),(15,bl v2)] []:=
 st<|it (bb CC<|cx [] 7 AW)<|rt
theorem Yto {x0 r}:∀{m v0 v1},UA x0 m v0 v1=some r->CS (tH x0 r) Tryz.f54 [1,1,0,1,0] [(0,.tr (x0.map CC)),(3,il v0),(4,il v1)] []:=by
 intro m
 induction m with
 | zero=>intro v0 v1 h;cases h
 | succ m ih=>exact st<|js CC x0<|it (jk 2<|cx [] 4 (Yda ih))<|jk 2<|cx [] 4 (Yda ih)
theorem Y9r {x0 r}  : sD x0=some r->Zq Tryz.prog Mo (tH x0 r):=
 fK Tryz.func54<|js CC x0<|cx [] 8 Yto
abbrev Y7c (x0:Z0) (r:Int×Z0):Y:=(107,[.agg [.tr (x0.b.map CC),il x0.i,il x0.h]],il r.1,[.agg [.tr (r.2.b.map CC),il r.2.i,il r.2.h]])
theorem eC {x0 r}  : OM x0=some r->Zq Tryz.prog Mo (Y7c x0 r):=
 fK Tryz.func107<|jk 2<|js CC x0.b<|it (bb CC<|rt)<|rt
abbrev Y1x (x0:Z0) (x1:Int) (r:Int×Z0):Y:=(57,[.agg [.tr (x0.b.map CC),il x0.i,il x0.h],il x1],il r.1,[.agg [.tr (r.2.b.map CC),il r.2.i,il r.2.h],.undef])
theorem Xz {x0 x1 r}  : Xf x0 x1=some r->Zq Tryz.prog Mo (Y1x x0 x1 r):=
 fK Tryz.func57<|it rt<|it (br eC<|jl<|bo H7<|rt)<|br eC<|br eC<|br eC<|br eC<|jl<|bo H7<|rt
abbrev Y48 (x0:Z0) (x1:Int) (r:Bool×Z0):Y:=(56,[.agg [.tr (x0.b.map CC),il x0.i,il x0.h],il x1],bl r.1,[.agg [.tr (r.2.b.map CC),il r.2.i,il r.2.h],.undef])
theorem eD {x0 x1 r}  : MY x0 x1=some r->Zq Tryz.prog Mo (Y48 x0 x1 r):=
 fK Tryz.func56<|br Xz<|rt
abbrev Yn8 (x0:Z0) (r:Zg×Z0):Y:=(55,[.agg [.tr (x0.b.map CC),il x0.i,il x0.h]],.agg [.own 83 (r.1.Ab.map Zd.enc),il r.1.Av,il r.1.As,il r.1.An,il r.1.Ap,il r.1.Al],[.agg [.tr (r.2.b.map CC),il r.2.i,il r.2.h]])
theorem Yp3 {x0 r}:∀{m Ad At v0},UB x0 m Ad At v0=some r->CS (Yn8 x0 r) Tryz.f55 [1,1,0,1,0] [(0,.ptr (0,63) 0 0),(2,pt 1),(3,pt 3),(4,il v0)] [((0,63),⟨true,true,true,0,[(Z0.enc Ad)]⟩),rx 2 83 ([].map Zd.enc),bx 1 [sq 2 ([].map Zd.enc).length,il 0,il 0,il 0,il 0,il 0],rx 4 83 (At.Ab.map Zd.enc),bx 3 [sq 4 (At.Ab.map Zd.enc).length,il At.Av,il At.As,il At.An,il At.Ap,il At.Al]]:=by
 intro m
 induction m with
 | zero=>intro Ad At v0 h;cases h
 | succ m ih=>exactλ{Ad} {At} {v0}=>st<|it (br Xz λ{r0}=>bn λ{z0} Xe=>jt Zd.enc [(Zd.mk (Zl 1 r0.1) false 0 0)] z0<|jk 1<|ja 4 Zd.A9 (Zd.mk (Zl 1 r0.1) false 0 0)<|jx Zd.enc Xe<|je Zd.enc z0<|jn Zd.enc []<|jn Zd.enc z0<|cx (A1 1 3++fz 4 3 7168) 11 ih)<|br eD<|it (js Zd.enc At.Ab<|br Xz λ{r2}=>bn λW9=>bn λKk=>jw (xp Zd.enc W9 Kk)<|jk 1<|jo (Kc Zd.enc Kk)<|br Ybc<|br Xz<|bn λ{a1} BU=>jp (.row (r2.1:Int).toNat (Zd.enc a1))<|bn λ{y1} Cp=>jp (.put (Zd.enc a1) (y1.map Zd.enc))<|jo (G6 BU)<|jo (ixc Zd.enc BU (Kc Zd.enc Kk))<|jo (CX Zd.enc BU)<|jo (CX Zd.enc BU)<|jo (Ie Zd.enc Cp)<|br Xz<|bn λ{a2} Dd=>jp (.row (r2.1:Int).toNat (Zd.enc a2))<|bn λ{y2} D8=>jp (.put (Zd.enc a2) (y2.map Zd.enc))<|jk 1<|jo (G6 Dd)<|jo (ixc Zd.enc Dd ((Kc Zd.enc Kk).trans (Kc Zd.enc Cp)))<|jo (CX Zd.enc Dd)<|jo (CX Zd.enc Dd)<|jo (Ie Zd.enc D8)<|jo ((Kc Zd.enc Kk).trans ((Kc Zd.enc Cp).trans (Kc Zd.enc D8)))<|rt)<|jk 1<|je Zd.enc At.Ab<|rt
theorem Y56 {x0 r}  : sE x0=some r->Zq Tryz.prog Mo (Yn8 x0 r):=
 fK Tryz.func55<|br Xz<|br Xz<|br Xz<|br Xz<|br Xz<|br Xz<|cx (fz 1 1 0++fz 3 2 14336) 8 Yp3
abbrev Yul (x0:Z0) (x1:List Int) (r:Int×Z0):Y:=(109,[.agg [.tr (x0.b.map CC),il x0.i,il x0.h],.own 3 (x1.map Zc)],il r.1,[.agg [.tr (r.2.b.map CC),il r.2.i,il r.2.h],.undef])
theorem tI {x0 x1 r}  : ON x0 x1=some r->Zq Tryz.prog Mo (Yul x0 x1 r):=
 fK Tryz.func109<|js Zc x1<|br Xz<|bd Zc<|rt
abbrev eE (x0:Z0) (r:Zj×Z0):Y:=(59,[.agg [.tr (x0.b.map CC),il x0.i,il x0.h]],.agg [bl r.1.write,il r.1.addr,il r.1.size,il r.1.Az,bl r.1.lock,.own 3 (r.1.Aa.map Zc)],[.agg [.tr (r.2.b.map CC),il r.2.i,il r.2.h]])
theorem Ydb {x0 r} {A4:Z0->Zj->Int->Option (Zj×Z0)} (AW:∀{Ad At v0},A4 Ad At v0=some r->CS (eE x0 r) Tryz.f59 [1,1,1,1,1,0,1,0] [(0,.ptr (0,63) 0 0),(2,pt 1),(3,pt 3),(5,il v0)] [((0,63),⟨true,true,true,0,[(Z0.enc Ad)]⟩),rx 2 3 ([].map Zc),bx 1 [bl false,il 0,il 0,il 0,bl false,sq 2 ([].map Zc).length],rx 4 3 (At.Aa.map Zc),bx 3 [bl At.write,il At.addr,il At.size,il At.Az,bl At.lock,sq 4 (At.Aa.map Zc).length]]) {Ad At v0 v1}:sF x0 A4 Ad At v0 v1=some r->CS (eE x0 r) Tryz.f59 [1,1,1,1,1,0,1,0,0,0,1] [(0,.ptr (0,63) 0 0),(2,pt 1),(3,pt 3),(5,il v0),(57,bl v1)] [((0,63),⟨true,true,true,0,[(Z0.enc Ad)]⟩),rx 2 3 ([].map Zc),bx 1 [bl false,il 0,il 0,il 0,bl false,sq 2 ([].map Zc).length],rx 4 3 (At.Aa.map Zc),bx 3 [bl At.write,il At.addr,il At.size,il At.Az,bl At.lock,sq 4 (At.Aa.map Zc).length]]:=
 st<|it (br JS λ{r0}=>br JS λ{r1}=>jk 1<|jo (show 2=([(Dp r0 1000),r1].map Zc).length from rfl)<|br tI<|br Xz λ{r3}=>bn λ{z0} Xe=>jt Zc [r3.1] z0<|jk 1<|ja 1 Jo r3.1<|jx Zc Xe<|je Zc z0<|jn Zc []<|jn Zc z0<|cx (A1 1 3++fz 4 2 15360) 7 AW)<|jk 1<|je Zc At.Aa<|rt
theorem Ytv {x0 r}:∀{m Ad At v0},UC x0 m Ad At v0=some r->CS (eE x0 r) Tryz.f59 [1,1,1,1,1,0,1,0] [(0,.ptr (0,63) 0 0),(2,pt 1),(3,pt 3),(5,il v0)] [((0,63),⟨true,true,true,0,[(Z0.enc Ad)]⟩),rx 2 3 ([].map Zc),bx 1 [bl false,il 0,il 0,il 0,bl false,sq 2 ([].map Zc).length],rx 4 3 (At.Aa.map Zc),bx 3 [bl At.write,il At.addr,il At.size,il At.Az,bl At.lock,sq 4 (At.Aa.map Zc).length]]:=by
 intro m
 induction m with
 | zero=>intro Ad At v0 h;cases h
 | succ m ih=>exactλ{Ad} {At} {v0}=>st<|br Sr<|it (jk 2<|jn Zc []<|jn Zc At.Aa<|cx (A1 1 4) 4 (Ydb ih))<|jk 2<|jn Zc []<|jn Zc At.Aa<|cx (A1 1 4) 4 (Ydb ih)
theorem Yc8 {x0 r} {Ad At}:dF x0 Ad At=some r->CS (eE x0 r) Tryz.f59 [1,1,1,1,1] [(0,.ptr (0,63) 0 0),(2,pt 1),(3,pt 3)] [((0,63),⟨true,true,true,0,[(Z0.enc Ad)]⟩),rx 2 3 ([].map Zc),bx 1 [bl false,il 0,il 0,il 0,bl false,sq 2 ([].map Zc).length],rx 4 3 (At.Aa.map Zc),bx 3 [bl At.write,il At.addr,il At.size,il At.Az,bl At.lock,sq 4 (At.Aa.map Zc).length]]:=
 st<|jn Zc []<|jn Zc At.Aa<|cx (A1 1 4) 4 Ytv
theorem Xac {x0 r}  : sG x0=some r->Zq Tryz.prog Mo (eE x0 r):=
 fK Tryz.func59<|br eD<|jk 1<|jo (show 5=([2,2,2,0,1].map Zc).length from rfl)<|br tI<|jk 1<|jo (show 5=([0,0,1,2,3].map Zc).length from rfl)<|br tI<|br eD<|br Nh<|br Xz λ{EK}=>br Xz λ{He}=>br Xz λ{G8}=>br Xz λ{OO}=>br Xz λ{OP}=>jk 1<|jo (show 5=([EK.1,He.1,(Zl 128 G8.1),(Zl 192 OO.1),OP.1].map Zc).length from rfl)<|br tI<|jl<|bo H7<|br Yjq<|it (cx (fz 1 1 0++fz 3 2 11264) 13 Yc8)<|cx (fz 1 1 0++fz 3 2 11264) 13 Yc8
abbrev Y4k (x0:Z0) (x1:List ByteArray) (r:ByteArray×Z0):Y:=(60,[.agg [.tr (x0.b.map CC),il x0.i,il x0.h],.own 9 (x1.map Zp)],ss r.1,[.agg [.tr (r.2.b.map CC),il r.2.i,il r.2.h],.undef])
theorem Ynu {x0 x1 r}  : UD x0 x1=some r->Zq Tryz.prog Mo (Y4k x0 x1 r):=
 fK Tryz.func60<|js Zp x1<|br Xz<|bd Zp<|rt
abbrev Sy (x0:List Int) (r:ByteArray):Y:=(21,[.tr (x0.map CC)],ss r,un 1)
theorem Z3i {x0 r} {A4:Z0->Zg->ByteArray->Int->Option ByteArray} (AW:∀{Ad At v0 v1},A4 Ad At v0 v1=some r->CS (Sy x0 r) Tryz.f21 [1,1,1,1,1,0,1,0] [(3,pt 1),(4,pt 2),(5,ss v0),(6,il v1)] [bx 1 (Z0.enc Ad),rx 3 83 (At.Ab.map Zd.enc),bx 2 [sq 3 (At.Ab.map Zd.enc).length,il At.Av,il At.As,il At.An,il At.Ap,il At.Al]]) {Ad At v0 v1 v2}:dH x0 A4 Ad At v0 v1 v2=some r->CS (Sy x0 r) Tryz.f21 [1,1,1,1,1,0,1,0,0,1,0,0,0,1,0,1,1,1,1,1] [(3,pt 1),(4,pt 2),(5,ss v0),(6,il v1),(60,bl v2)] [bx 1 (Z0.enc Ad),rx 3 83 (At.Ab.map Zd.enc),bx 2 [sq 3 (At.Ab.map Zd.enc).length,il At.Av,il At.As,il At.An,il At.Ap,il At.Al]]:=
 st<|it (jl<|jl<|bo Yd<|bo Yd<|jn Zd.enc At.Ab<|cx (A1 1 3) 6 AW)<|jk 1<|jo (show 9=([(Ze [115,116,101,112]),(Ze [115,116,101,112]),(Ze [115,116,101,112]),(Ze [111,117,116]),(Ze [108,111,103]),(Ze [105,100,108,101]),(Ze [111,107]),(Ze [99,111,110,102]),(Ze [119,104,97,116])].map Zp).length from rfl)<|br Ynu<|jl<|jl<|bo Yd<|bo Yd<|jn Zd.enc At.Ab<|cx (A1 1 3) 6 AW
theorem Z3e {x0 r} {A4:Z0->Zg->ByteArray->Int->Option ByteArray} (AW:∀{Ad At v0 v1},A4 Ad At v0 v1=some r->CS (Sy x0 r) Tryz.f21 [1,1,1,1,1,0,1,0] [(3,pt 1),(4,pt 2),(5,ss v0),(6,il v1)] [bx 1 (Z0.enc Ad),rx 3 83 (At.Ab.map Zd.enc),bx 2 [sq 3 (At.Ab.map Zd.enc).length,il At.Av,il At.As,il At.An,il At.Ap,il At.Al]]) {Ad At v0 v1 v3 v4}:dI x0 A4 Ad At v0 v1 v3 v4=some r->CS (Sy x0 r) Tryz.f21 [1,1,1,1,1,0,1,0,0,1,0,0,0,1,0,1] [(3,pt 1),(4,pt 2),(5,ss v0),(6,il v1),(24,il v3),(30,bl v4)] [bx 1 (Z0.enc Ad),rx 3 83 (At.Ab.map Zd.enc),bx 2 [sq 3 (At.Ab.map Zd.enc).length,il At.Av,il At.As,il At.An,il At.Ap,il At.Al]]:=
 st<|it (jl<|bo Yd<|br Xz<|br Ks<|jl<|jl<|bo Yd<|bo Yd<|js Zd.enc At.Ab<|br Xz<|br Ks<|jl<|jl<|bo Yd<|bo Yd<|br Xac λ{r5}=>jk 1<|je Zc r5.1.Aa<|br Z7q<|jl<|jl<|bo Yd<|bo Yd<|jn Zd.enc At.Ab<|cx (A1 1 3) 6 AW)<|it (jk 1<|jo (show 11=([(Ze [119,97,105,116,115,32,49,32,48]),(Ze [119,97,105,116,115,32,50]),(Ze [115,97,121,115,32,50,32,48]),(Ze [115,97,121,115,32,51,32,48,32,50]),(Ze [119,97,105,116,115,32,120]),(Ze [115,97,121,115]),(Ze [99,111,110,102,32,49,32,49,32,49,32,49,32,49,32,49]),(Ze [99,111,110,102,32,120]),(Ze [112,111,115,116,32,120]),(Ze [119,104,97,116,32,49]),(Ze [112,111,115,116,32,49,32,50])].map Zp).length from rfl)<|br Ynu<|jl<|jl<|bo Yd<|bo Yd<|jn Zd.enc At.Ab<|cx (A1 1 3) 9 AW)<|it (jn Zd.enc At.Ab<|cx (A1 1 3) 9 (Z3i AW))<|jn Zd.enc At.Ab<|cx (A1 1 3) 9 (Z3i AW)
theorem Yk6 {x0 r}:∀{m Ad At v0 v1},Jk x0 m Ad At v0 v1=some r->CS (Sy x0 r) Tryz.f21 [1,1,1,1,1,0,1,0] [(3,pt 1),(4,pt 2),(5,ss v0),(6,il v1)] [bx 1 (Z0.enc Ad),rx 3 83 (At.Ab.map Zd.enc),bx 2 [sq 3 (At.Ab.map Zd.enc).length,il At.Av,il At.As,il At.An,il At.Ap,il At.Al]]:=by
 intro m
 induction m with
 | zero=>intro Ad At v0 v1 h;cases h
 | succ m ih=>exactλ{Ad} {At} {v0} {v1}=>st<|it (br Xz<|it (jn Zd.enc At.Ab<|cx (A1 1 3) 17 (Z3e ih))<|jn Zd.enc At.Ab<|cx (A1 1 3) 17 (Z3e ih))<|br eD<|it (jl<|bo Yd<|rt)<|rt
theorem Z4a {x0 r} {Ad At v0}:dJ x0 Ad At v0=some r->CS (Sy x0 r) Tryz.f21 [1,1,1,1,1] [(3,pt 1),(4,pt 2),(5,ss v0)] [bx 1 (Z0.enc Ad),rx 3 83 (At.Ab.map Zd.enc),bx 2 [sq 3 (At.Ab.map Zd.enc).length,il At.Av,il At.As,il At.An,il At.Ap,il At.Al]]:=
 st<|br Xz<|jn Zd.enc At.Ab<|cx (A1 1 3) 4 Yk6
theorem Yyw {x0 r}  : sH x0=some r->Zq Tryz.prog Mo (Sy x0 r):=
 fK Tryz.func21<|br Y9r<|br Y56 λ{G8}=>jk 1<|je Zd.enc G8.1.Ab<|br Z49<|jl<|jl<|bo Yd<|bo Yd<|br eD<|it (jn Zd.enc G8.1.Ab<|cx (fz 1 2 1087++fz 2 3 2048++fz 3 3 1024) 13 Z4a)<|jn Zd.enc G8.1.Ab<|cx (fz 1 2 1087++fz 2 3 2048++fz 3 3 1024) 13 Z4a
abbrev Y4r (x0:ByteArray) (x1:ByteArray) (r:Bool):Y:=(22,[ss x0,ss x1],bl r,un 2)
theorem Y6p {x0 x1 r}  : dK x0 x1=some r->Zq Tryz.prog Mo (Y4r x0 x1 r):=
 fK Tryz.func22<|it (jk 3<|bn λ{s0} Qr=>jp (.val (.lit (.string s0)))<|jk 3<|jo (ZO Qr)<|rt)<|jk 6<|rt
abbrev OX (x0:List Int) (r:Bool):Y:=(6,[.tr (x0.map CC)],bl r,un 1)
theorem Z9h {x0 r} {A4:ByteArray->ByteArray->Int->Int->Int->Int->Int->Int->Option Bool} (AW:∀{v0 v1 v2 v3 v4 v5 v7 v6},A4 v0 v1 v2 v3 v4 v5 v7 v6=some r->CS (OX x0 r) Tryz.f6 [1,1,1,1,1,1,1,1,1,1,0,1,0] [(3,ss v0),(4,ss v1),(5,il v2),(6,il v3),(7,il v4),(8,il v5),(9,il v7),(10,il v6)] []) {v0 v1 v2 v3 v4 v5 v6}:UE x0 A4 v0 v1 v2 v3 v4 v5 v6=some r->CS (OX x0 r) Tryz.f6 [1,1,1,1,1,1,1,1,1,1,0,1,0,0,1,0,0,1,1,1] [(3,ss v0),(4,ss v1),(5,il v2),(6,il v3),(7,il v4),(8,il v5),(10,il v6)] []:=
 st<|it (jk 4<|it (cx [] 8 AW)<|cx [] 8 AW)<|jk 5<|cx [] 8 AW
theorem eF {x0 r} {A4:ByteArray->ByteArray->Int->Int->Int->Int->Int->Int->Option Bool} (AW:∀{v0 v1 v2 v3 v4 v5 v7 v6},A4 v0 v1 v2 v3 v4 v5 v7 v6=some r->CS (OX x0 r) Tryz.f6 [1,1,1,1,1,1,1,1,1,1,0,1,0] [(3,ss v0),(4,ss v1),(5,il v2),(6,il v3),(7,il v4),(8,il v5),(9,il v7),(10,il v6)] []) {v0 v1 v2 v3 v4 v5 v7 v6 v8}:L7 x0 A4 v0 v1 v2 v3 v4 v5 v7 v6 v8=some r->CS (OX x0 r) Tryz.f6 [1,1,1,1,1,1,1,1,1,1,0,1,0,0,1,0,0,0,1] [(3,ss v0),(4,ss v1),(5,il v2),(6,il v3),(7,il v4),(8,il v5),(9,il v7),(10,il v6),(53,bl v8)] []:=
 st<|it (cx [] 5 AW)<|it (cx [] 9 (Z9h AW))<|cx [] 9 (Z9h AW)
theorem Yqs {x0 r}:∀{m v0 v1 v2 v4 v9 v10},UF x0 m v0 v1 v2 v4 v9 v10=some r->CS (OX x0 r) Tryz.f6 [1,1,1,1,1,1,1,1,1,1,1,1,1,0,1,0] [(3,ss v0),(4,ss v1),(5,il v2),(7,il v4),(11,il v9),(12,il v10)] []:=by
 intro m
 induction m with
 | zero=>intro v0 v1 v2 v4 v9 v10 h;cases h
 | succ m ih=>exact st<|it (bn λ{a0} W9=>jp (.val (.lit (.int .u8 a0)))<|jo (Ic W9)<|it (cx [] 14 ih)<|cx [] 14 ih)<|bn λ{s0} Qr=>jp (.val (.lit (.string s0)))<|jo (ZO Qr)<|br Yye<|br Y6p<|it (jk 3<|rt)<|jk 3<|rt
theorem Z82 {x0 r} {v0 v1 v2 v4 v11}:OQ x0 v0 v1 v2 v4 v11=some r->CS (OX x0 r) Tryz.f6 [1,1,1,1,1,1,1,1,1,1,1,0,1] [(3,ss v0),(4,ss v1),(5,il v2),(7,il v4),(80,bl v11)] []:=
 st<|it rt<|cx [] 8 Yqs
theorem Yrc {x0 r}:∀{m v0 v1 v2 v3 v4 v5 v7 v6},Wh x0 m v0 v1 v2 v3 v4 v5 v7 v6=some r->CS (OX x0 r) Tryz.f6 [1,1,1,1,1,1,1,1,1,1,0,1,0] [(3,ss v0),(4,ss v1),(5,il v2),(6,il v3),(7,il v4),(8,il v5),(9,il v7),(10,il v6)] []:=by
 intro m
 induction m with
 | zero=>intro v0 v1 v2 v3 v4 v5 v7 v6 h;cases h
 | succ m ih=>exact st<|it (it (jk 3<|it (jk 6<|cx [] 11 (eF ih))<|jk 4<|it (jk 2<|bn λ{a1} BU=>jp (.val (.lit (.int .u8 a1)))<|jk 4<|jo (Ic BU)<|cx [] 11 (eF ih))<|jk 6<|cx [] 11 (eF ih))<|jk 8<|it (jk 2<|bn λ{a1} BU=>jp (.val (.lit (.int .u8 a1)))<|jk 4<|jo (Ic BU)<|cx [] 11 (eF ih))<|jk 6<|cx [] 11 (eF ih))<|it (jk 3<|cx [] 12 Z82)<|jk 3<|cx [] 12 Z82
theorem Y6b {x0 r}  : Ybm x0=some r->Zq Tryz.prog Mo (OX x0 r):=
 fK Tryz.func6<|br Xef<|it rt<|br Yyw<|br Yye<|br Xb7<|it rt<|br Sx<|jk 1<|cx [] 30 Yrc
end Go.Proofs.YthdljdelfgofdaaGreatDoor.Ev
