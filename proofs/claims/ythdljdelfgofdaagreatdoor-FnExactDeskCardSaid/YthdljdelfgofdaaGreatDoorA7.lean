/- A part of the proof of FnExactDesk: see the text YthdljdelfgofdaaGreatDoorLawFnExactDesk for what is proved and its conditions. Conditions here: those in each line. -/
import Derived.Test.YthdljdelfgofdaaGreatDoorA6
set_option linter.unusedSimpArgs false
set_option linter.unusedVariables false
set_option linter.unusedSectionVars false
namespace Go.Proofs.YthdljdelfgofdaaGreatDoor.Ev
open Go Go.Proofs
variable [Anchor] [BG]
theorem Yh8 {x0 r}:∀{m v0 v4},o9 x0 m v0 v4=some r->CS (qW x0 r) Tryz.f251 [1,1,0,1,0] [(0,.ptr (0,63) 0 0),(4,sq 9 (v0.map Z8).length),(17,sq 2 (x0.m.map Zg.enc).length),(18,il (x0.m.length:Int)),(19,il v4)] (Za.bk x0 1++[((0,63),⟨true,true,true,0,[(Za.rl x0 1)]⟩),rx 9 4 (v0.map Z8)]):=by
 intro m
 induction m with
 | zero=>intro v0 v4 h;cases h
 | succ m ih=>exactλ{v0} {v4}=>st<|it (bd Zg.enc<|br Yen<|it (jk 5<|bn λ{a4} Fz=>jp (.row (v4:Int).toNat (Zc a4))<|jk 1<|jp (.cell (Zc a4))<|jk 2<|ig (λg3=>jp (.t true)<|jk 5<|ig (λg4=>jp (.t true)<|jk 8<|bn λ{z0} Xf=>jt Z8 [true] z0<|jk 1<|jp (.num (z0.map Z8).length 0 0 [])<|jp (.num (x0.m.map Zg.enc).length 0 0 [])<|jo (Hl Fz)<|jo (HE Zc Fz)<|jo (Dl Zc Fz)<|jo (Dl Zc Fz)<|jo g3<|jo g4<|ja 1 NS true<|jx Z8 Xf<|je Z8 z0<|je Z8 z0<|je Zg.enc x0.m<|jw (Za.sc x0)<|cx (Ay 1 8++fz 9 4 29696) 13 ih) λg4=>jp (.t false)<|jk 8<|bn λ{z0} Xf=>jt Z8 [decide (x0.Af=v4)] z0<|jk 1<|jp (.num (z0.map Z8).length 0 0 [])<|jp (.num (x0.m.map Zg.enc).length 0 0 [])<|jo (Hl Fz)<|jo (HE Zc Fz)<|jo (Dl Zc Fz)<|jo (Dl Zc Fz)<|jo g3<|jo g4<|ja 1 NS (decide (x0.Af=v4))<|jx Z8 Xf<|je Z8 z0<|je Z8 z0<|je Zg.enc x0.m<|jw (Za.sc x0)<|cx (Ay 1 8++fz 9 4 29696) 13 ih) λg3=>jp (.t false)<|jk 7<|bn λ{z0} Xf=>jt Z8 [false] z0<|jk 1<|jp (.num (z0.map Z8).length 0 0 [])<|jp (.num (x0.m.map Zg.enc).length 0 0 [])<|jo (Hl Fz)<|jo (HE Zc Fz)<|jo (Dl Zc Fz)<|jo (Dl Zc Fz)<|jo g3<|ja 1 NS false<|jx Z8 Xf<|je Z8 z0<|je Z8 z0<|je Zg.enc x0.m<|jw (Za.sc x0)<|cx (Ay 1 8++fz 9 4 29696) 13 ih)<|jk 16<|bn λ{z0} Xf=>jt Z8 [false] z0<|jk 1<|ja 1 NS false<|jx Z8 Xf<|jn Z8 z0<|je Z8 z0<|jn Zg.enc x0.m<|jw (Za.sc x0)<|cx (Ay 1 8++fz 9 4 29696) 13 ih)<|it (jk 5<|bn λ{a5} Lk=>jp (.row (x0.Af:Int).toNat (Z8 a5))<|jk 1<|jp (.cell (Z8 a5))<|jk 1<|jp (.num (v0.map Z8).length 0 0 [])<|jo (Hl Lk)<|jo (HE Z8 Lk)<|jo (Dl Z8 Lk)<|jo (Dl Z8 Lk)<|je Z8 v0<|jw (Za.sc x0)<|cx (Ay 1 9) 12 Z1u)<|jk 7<|jn Z8 v0<|jw (Za.sc x0)<|cx (Ay 1 9) 12 Z1u
theorem Ywb {x0 r}  : pA x0=some r->Zr Tryz.prog Mo (qW x0 r):=
 fK Tryz.func251<|js Zg.enc x0.m<|jp (.num ([].map Z8).length 0 0 [])<|jo (show 0=([].map Z8).length from rfl)<|jn Zg.enc x0.m<|jw (Za.sc x0)<|cx (Za.ff 1 0 0++fz 9 2 0) 8 Yh8
abbrev Y5e (x0:Zg) (r:Bool):Y:=(252,[.agg (Zg.enc x0)],bl r,un 1)
theorem Yec {x0 r}  : TK x0=some r->Zr Tryz.prog Mo (Y5e x0 r):=
 fK Tryz.func252<|js Zk.enc x0.queue<|it (jk 2<|bb Zk.enc<|jk 3<|it (jk 3<|rt)<|jk 3<|rt)<|jk 9<|rt
abbrev Yb2 (x0:Zg) (r:Zg×Bool):Y:=(253,[.agg (Zg.enc x0)],.AW [.agg [.own 41 (r.1.queue.map Zk.enc),il r.1.Ao,il r.1.done,il r.1.tries,bl r.1.Ax,bl r.1.broken],bl r.2],un 1)
theorem Z2s {x0 r} {Ad v0}:pB x0 Ad v0=some r->CS (Yb2 x0 r) Tryz.f253 [1,1,0,1] [(2,pt 1),(4,pt 3),(17,bl v0)] [rx 2 41 ([].map Zk.enc),bx 1 [sq 2 ([].map Zk.enc).length,il 0,il 0,il 0,bl false,bl false],rx 4 41 (Ad.queue.map Zk.enc),bx 3 [sq 4 (Ad.queue.map Zk.enc).length,il Ad.Ao,il Ad.done,il Ad.tries,bl Ad.Ax,bl Ad.broken]]:=
 st<|it (jk 1<|je Zk.enc Ad.queue<|rt)<|jk 1<|je Zk.enc Ad.queue<|rt
theorem Yvz {x0 r}  : pC x0=some r->Zr Tryz.prog Mo (Yb2 x0 r):=
 fK Tryz.func253<|br b6 λ{r0}=>br Yen<|it (jk 6<|jn Zk.enc r0.queue<|cx (fz 1 1 1024++fz 3 2 2048++fz 4 2 1024) 7 Z2s)<|jk 6<|jn Zk.enc r0.queue<|cx (fz 1 1 1024++fz 3 2 2048++fz 4 2 1024) 7 Z2s
abbrev qX (x0:Za) (r:Int×Za):Y:=(213,[.agg (Za.ow x0)],il r.1,[.agg (Za.ow r.2)])
theorem Zz5 {x0 r} {Ad A2 v0}:pD x0 Ad A2 v0=some r->CS (qX x0 r) Tryz.f213 [1,1,1,1,1,1] [(0,.ptr (0,63) 0 0),(3,il v0),(5,pt 9)] (Za.bk Ad 1++[((0,63),⟨true,true,true,0,[(Za.rl Ad 1)]⟩),bx 9 (Zg.enc A2)]):=
 st<|br Yvz λ{r0}=>bn λQe=>bn λ{y0} K4=>jw (xq Zg.enc Qe y0)<|jk 9<|je Zk.enc r0.1.queue<|jo (KU Zg.enc K4)<|je Ze.enc Ad.Ae.Ab<|jo (J0 Zg.enc K4)<|je Zj.enc Ad.buckets<|je Zc Ad.splits<|jw (Zf.so Ad.model)<|je Zt.enc Ad.log<|rt
theorem Zz3 {x0 r} {Ad A2 v0 v1}:pE x0 Ad A2 v0 v1=some r->CS (qX x0 r) Tryz.f213 [1,1,1,1,1,0,1] [(0,.ptr (0,63) 0 0),(3,il v0),(5,pt 9),(47,bl v1)] (Za.bk Ad 1++[((0,63),⟨true,true,true,0,[(Za.rl Ad 1)]⟩),bx 9 (Zg.enc A2)]):=
 st<|it (jw (Za.sc {Ad with Af:=v0,held:=0})<|cx (Ay 1 9) 4 Zz5)<|jw (Za.sc Ad)<|cx (Ay 1 9) 2 Zz5
theorem Zz6 {x0 r} {Ad A2 v0}:R8 x0 Ad A2 v0=some r->CS (qX x0 r) Tryz.f213 [1,1,1,1,1] [(0,.ptr (0,63) 0 0),(3,il v0),(5,pt 9)] (Za.bk Ad 1++[((0,63),⟨true,true,true,0,[(Za.rl Ad 1)]⟩),bx 9 (Zg.enc A2)]):=
 st<|br Yec<|it (jk 5<|jw (Za.sc Ad)<|cx (Ay 1 9) 3 Zz3)<|jk 5<|jw (Za.sc Ad)<|cx (Ay 1 9) 3 Zz3
theorem Yr8 {x0 r}  : pF x0=some r->Zr Tryz.prog Mo (qX x0 r):=
 fK Tryz.func213<|jk 8<|jw (Za.so x0)<|br Ywb λ{r2}=>it (jk 8<|jw (Za.so r2.2.2)<|rt)<|bd Zg.enc λ{a1}=>it (jk 6<|jw (Za.sc {r2.2.2 with addr:=(Zi.mk true r2.1 a1.Ao true r2.2.1 0 0 false)})<|cx (Za.ff 1 2 1536++fz 9 4 7168) 13 Zz6)<|jk 6<|jw (Za.sc {r2.2.2 with addr:=(Zi.mk true r2.1 a1.Ao (decide (r2.2.2.last≠r2.1)) r2.2.1 0 0 false)})<|cx (Za.ff 1 2 1536++fz 9 4 7168) 13 Zz6
abbrev Ll (x0:Za) (x1:Zb) (r:Zq×Za):Y:=(161,[.agg (Za.ow x0),.agg (Zb.enc x1)],.agg (Zq.enc r.1),[.agg (Za.ow r.2),.undef])
theorem Z2z {x0 x1 r} {Ad A2}:aW x0 x1 Ad A2=some r->CS (Ll x0 x1 r) Tryz.f161 [1,1,1,1,1,1,1,1,1] [(0,.ptr (0,63) 0 0),(4,pt 9),(5,pt 10)] (Za.bk Ad 1++[((0,63),⟨true,true,true,0,[(Za.rl Ad 1)]⟩),bx 9 (Zq.enc Zq.z0),bx 10 (Zq.enc A2)]):=
 st<|jk 8<|jw (Za.so Ad)<|rt
theorem Z1t {x0 x1 r} {Ad A2}:aX x0 x1 Ad A2=some r->CS (Ll x0 x1 r) Tryz.f161 [1,1,1,1,1,1,1,1,0,1,0,1,1] [(0,.ptr (0,63) 0 0),(4,pt 9),(5,pt 10)] (Za.bk Ad 1++[((0,63),⟨true,true,true,0,[(Za.rl Ad 1)]⟩),bx 9 (Zq.enc Zq.z0),bx 10 (Zq.enc A2)]):=
 st<|jk 8<|jw (Za.so Ad)<|br Yr8 λ{r0}=>jw (Za.sc r0.2)<|cx (Za.ff 1 2 1536++Ay 9 2) 1 Z2z
theorem Z3f {x0 x1 r} {Ad AI}:TL x0 x1 Ad AI=some r->CS (Ll x0 x1 r) Tryz.f161 [1,1,1,1,1,1,1,1,0,1,0,1] [(0,.ptr (0,63) 0 0),(3,pt 9),(4,pt 10),(5,pt 11)] (Za.bk Ad 1++[((0,63),⟨true,true,true,0,[(Za.rl Ad 1)]⟩),bx 9 (Zb.enc x1),bx 10 (Zq.enc Zq.z0),bx 11 (Zq.enc AI)]):=
 st<|it (jk 8<|jw (Za.so Ad)<|br Ynj λ{r1}=>jw (Za.sc {Ad with addr:=Zi.z0,Aa:={Ad.addr with left:=r1.2,Ar:=r1.1},Au:=(Zo Ad.Au 1)})<|cx (Ay 1 8++fz 9 1 10++fz 10 1 11) 11 Z1t)<|jw (Za.sc Ad)<|cx (Ay 1 8++fz 9 1 10++fz 10 1 11) 7 Z1t
theorem Z1l {x0 x1 r} {Ad AI v0}:Oq x0 x1 Ad AI v0=some r->CS (Ll x0 x1 r) Tryz.f161 [1,1,1,1,1,1,1,1,0,1,0,0,1] [(0,.ptr (0,63) 0 0),(3,pt 9),(4,pt 10),(5,pt 11),(187,bl v0)] (Za.bk Ad 1++[((0,63),⟨true,true,true,0,[(Za.rl Ad 1)]⟩),bx 9 (Zb.enc x1),bx 10 (Zq.enc Zq.z0),bx 11 (Zq.enc AI)]):=
 st<|it (bn λQe=>bn λK4=>jw (xp Zg.enc Qe K4)<|jk 8<|je Ze.enc Ad.Ae.Ab<|jo (J0 Zg.enc K4)<|je Zj.enc Ad.buckets<|je Zc Ad.splits<|jw (Zf.so Ad.model)<|je Zt.enc Ad.log<|br Ybs λ{r2}=>jw (Za.sc r2)<|cx (Za.ff 1 3 1536++Ay 9 3) 4 Z3f)<|jw (Za.sc Ad)<|cx (Ay 1 11) 2 Z3f
theorem Z2r {x0 x1 r} {Ad AI}:Ot x0 x1 Ad AI=some r->CS (Ll x0 x1 r) Tryz.f161 [1,1,1,1,1,1,1] [(0,.ptr (0,63) 0 0),(3,pt 9),(4,pt 10),(5,pt 11)] (Za.bk Ad 1++[((0,63),⟨true,true,true,0,[(Za.rl Ad 1)]⟩),bx 9 (Zb.enc x1),bx 10 (Zq.enc Zq.z0),bx 11 (Zq.enc AI)]):=
 st<|jk 8<|jw (Za.so Ad)<|br Yo2 λ{r3}=>it (it (jk 10<|jw (Za.sc r3.2.1)<|cx (Za.ff 1 2 2560++Ay 9 3) 9 Z1l)<|jk 10<|jw (Za.sc r3.2.1)<|cx (Za.ff 1 2 2560++Ay 9 3) 9 Z1l)<|jw (Za.sc r3.2.1)<|cx (Za.ff 1 2 2560++fz 9 1 10++fz 10 1 11) 7 Z2z
theorem Yiu {x0 x1 r}:∀{m Ad AI v1 v2},R9 x0 x1 m Ad AI v1 v2=some r->CS (Ll x0 x1 r) Tryz.f161 [1,1,1,1,1,0,1,0] [(0,.ptr (0,63) 0 0),(3,pt 9),(4,pt 10),(5,pt 11),(107,sq 4 (Ad.splits.map Zc).length),(108,il v1),(109,il v2)] (Za.bk Ad 1++[((0,63),⟨true,true,true,0,[(Za.rl Ad 1)]⟩),bx 9 (Zb.enc x1),bx 10 (Zq.enc Zq.z0),bx 11 (Zq.enc AI)]):=by
 intro m
 induction m with
 | zero=>intro Ad AI v1 v2 h;cases h
 | succ m ih=>exactλ{Ad} {AI} {v1} {v2}=>st<|it (bn λCz=>jw (xd Zc Cz)<|bn λ{y1} Cy=>jw (xp Zc Cz Cy)<|bn λD1=>jw (xd Zj.enc D1)<|bd Ze.enc<|br Yo0<|bn λ{y2} DJ=>jw (xp Zj.enc D1 DJ)<|jp (.num (y1.map Zc).length 0 0 [])<|jw (tq (Za.nm {Ad with buckets:=y2,splits:=y1}))<|jo (J0 Zc Cy)<|je Ze.enc Ad.Ae.Ab<|je Zg.enc Ad.m<|jo (J0 Zj.enc DJ)<|jo (J0 Zc Cy)<|jw (Zf.so Ad.model)<|je Zt.enc Ad.log<|cx (Ay 1 11) 15 ih)<|it (jw (Za.sc {Ad with held:=(D3 (Zo Ad.held 1) Ad.Ae.Am)})<|cx (Ay 1 11) 14 Z2r)<|jw (Za.sc Ad)<|cx (Ay 1 11) 14 Z2r
theorem Yi1 {x0 x1 r}:∀{m Ad AI v3 v4 v5},aY x0 x1 m Ad AI v3 v4 v5=some r->CS (Ll x0 x1 r) Tryz.f161 [1,1,1,1,0,1,0] [(0,.ptr (0,63) 0 0),(3,pt 9),(4,pt 10),(5,pt 11),(69,sq 12 (v3.map Zl.enc).length),(70,il v4),(71,il v5)] (Za.bk Ad 1++[((0,63),⟨true,true,true,0,[(Za.rl Ad 1)]⟩),bx 9 (Zb.enc x1),bx 10 (Zq.enc Zq.z0),bx 11 (Zq.enc AI),rx 12 60 (v3.map Zl.enc)]):=by
 intro m
 induction m with
 | zero=>intro Ad AI v3 v4 v5 h;cases h
 | succ m ih=>exactλ{Ad} {AI} {v3} {v4} {v5}=>st<|it (bd Zl.enc<|jk 1<|je Ze.enc Ad.Ae.Ab<|br RJ<|it (bn λLk=>jw (xd Zg.enc Lk)<|br Y0d λ{r6}=>bn λ{y3} G3=>jw (xq Zg.enc Lk y3)<|jk 1<|je Zk.enc r6.1.queue<|jo (KU Zg.enc G3)<|jn Zl.enc v3<|jw (tq (Za.nm {Ad with m:=y3}))<|je Ze.enc Ad.Ae.Ab<|jo (J0 Zg.enc G3)<|je Zj.enc Ad.buckets<|je Zc Ad.splits<|jw (Zf.so Ad.model)<|je Zt.enc Ad.log<|cx (Ay 1 12) 16 ih)<|jn Zl.enc v3<|jw (Za.sc Ad)<|cx (Ay 1 12) 16 ih)<|js Zc Ad.splits<|jn Zc Ad.splits<|jw (Za.sc Ad)<|cx (Ay 1 11) 13 Yiu
theorem Z2n {x0 x1 r} {AI}:aZ x0 x1 AI=some r->CS (Ll x0 x1 r) Tryz.f161 [1,1,1,1] [(0,.ptr (0,63) 0 0),(3,pt 9),(4,pt 10),(5,pt 11)] (Za.bk x0 1++[((0,63),⟨true,true,true,0,[(Za.rl x0 1)]⟩),bx 9 (Zb.enc x1),bx 10 (Zq.enc Zq.z0),bx 11 (Zq.enc AI)]):=
 st<|br Yyd λ{r7}=>js Zl.enc r7<|jn Zl.enc r7<|jw (Za.sc x0)<|cx (Ay 1 11++fz 12 2 5120) 4 Yi1
theorem Ztj {x0 x1 r} {AI}:bA x0 x1 AI=some r->CS (Ll x0 x1 r) Tryz.f161 [1,1,1] [(0,.ptr (0,63) 0 0),(3,pt 9),(4,pt 10),(5,pt 11)] (Za.bk x0 1++[((0,63),⟨true,true,true,0,[(Za.rl x0 1)]⟩),bx 9 (Zb.enc x1),bx 10 (Zq.enc Zq.z0),bx 11 (Zq.enc AI)]):=
 st<|it (bd Zg.enc<|br b4<|jw (Za.sc x0)<|cx (Ay 1 11) 7 Z2n)<|jw (Za.sc x0)<|cx (Ay 1 11) 7 Z2n
theorem Z1r {x0 x1 r}  : RA x0 x1=some r->Zr Tryz.prog Mo (Ll x0 x1 r):=
 fK Tryz.func161<|it (bd Zg.enc<|br b4<|it (jw (Za.sc x0)<|cx (Za.ff 1 0 0++fz 9 1 0++fz 10 1 1024++fz 11 2 5120) 16 Ztj)<|jw (Za.sc x0)<|cx (Za.ff 1 0 0++fz 9 1 0++fz 10 1 1024++fz 11 2 5120) 16 Ztj)<|jw (Za.sc x0)<|cx (Za.ff 1 0 0++fz 9 1 0++fz 10 1 1024++fz 11 2 5120) 11 Ztj
abbrev Y2y (x0:Int) (x1:List ByteArray) (r:ByteArray):Y:=(238,[il x0,.tr (x1.map Zp)],ss r,un 2)
theorem Yk9 {x0 x1 r}  : RB x0 x1=some r->Zr Tryz.prog Mo (Y2y x0 x1 r):=
 fK Tryz.func238<|js Zp x1<|br Xc<|it rt<|bb Zp<|rt
abbrev Yuv (x0:Int) (r:ByteArray):Y:=(203,[il x0],ss r,un 1)
theorem Yts {x0 r}  : bB x0=some r->Zr Tryz.prog Mo (Yuv x0 r):=
 fK Tryz.func203<|jk 1<|jo (show 4=([(Zd [105,100,108,101]),ByteArray.empty,(Zd [102,105,114,115,116]),(Zd [110,101,120,116])].map Zp).length from rfl)<|br Yk9<|rt
abbrev Y2x (x0:Int) (r:ByteArray):Y:=(165,[il x0],ss r,un 1)
theorem Uf {x0 r}  : M6 x0=some r->Zr Tryz.prog Mo (Y2x x0 r):=
 fK Tryz.func165<|it rt<|br Hm<|rt
abbrev Ywj (x0:Int) (r:ByteArray):Y:=(204,[il x0],ss r,un 1)
theorem Yb9 {x0 r}  : TM x0=some r->Zr Tryz.prog Mo (Ywj x0 r):=
 fK Tryz.func204<|jk 1<|jo (show 4=([(Zd [111,107,97,121]),(Zd [101,114,114,111,114]),(Zd [114,101,116,114,121]),(Zd [115,112,108,105,116])].map Zp).length from rfl)<|br Yk9<|rt
abbrev Ydj (x0:Zq) (r:ByteArray):Y:=(160,[.agg (Zq.enc x0)],ss r,un 1)
theorem Z26 {x0 r} {v0}:bC x0 v0=some r->CS (Ydj x0 r) Tryz.f160 [1,1,1] [(1,pt 1),(3,ss v0)] [bx 1 (Zq.enc x0)]:=
 st<|br Hm λ{r0}=>br Yts λ{r1}=>br Uf λ{r2}=>jl<|bo Yi<|br Uf λ{r3}=>jl<|bo Yi<|br Uf λ{r4}=>jl<|bo Yi<|br Uf λ{r5}=>jl<|bo Yi<|br Yb9 λ{r6}=>br Uf λ{r7}=>jk 1<|jo (show 7=([r0,r1,((r2++(Zd [58]))++r3),((r4++(Zd [58]))++r5),v0,r6,r7].map Zp).length from rfl)<|br Ou<|rt
theorem Yuj {x0 r}  : pI x0=some r->Zr Tryz.prog Mo (Ydj x0 r):=
 fK Tryz.func160<|it (cx (fz 1 1 0) 9 Z26)<|cx (fz 1 1 0) 9 Z26
abbrev Zkk (x0:List Zj) (r:List Zj):Y:=(254,[.tr (x0.map Zj.enc)],.own 92 (r.map Zj.enc),[.undef])
theorem Zw2 {x0:List Zj} {r:List Zj} (h:pJ x0=some r):Zr Tryz.prog Mo (Zkk x0 r):=by
 refine p7 Tryz.func254 ?_;unfold pJ at h;cases x0 with
 | nil=>
  obtain rfl:[]=r:=(iU h);have hn:CS (Zkk [] []) Tryz.f254 [1,0,0] [(0,.tr [])] []:=iR Mo Lg (k:=at_ [1,0,1] (Mw Tryz.f254) []) (x0:=.tmp 0) (d0:=3) (d1:=4) (t:=45) (e:=92) (y:=.const (.slice none 0 0)) (by kernel_rfl) (by kernel_rfl) rfl rfl λb=>by
   cases b with
   | true=>exact HH rfl [.k] tt
   | false=>exact HH rfl [.k,.app [] true [] 0,.k] (aa (Eq.refl ([]:List (List V))) (aa (Eq.refl true) (aa (Eq.refl true) (aa (Eq.refl 0) (aa (iV 16) (aa (Eq.refl ([]:List (List V))) (aa (Eq.refl 0) (aa (Eq.refl 0) tt))))))))
  exact MB [] 4 [] tt hn
 | cons a l=>
  exact HH rfl [.k,.app ((a::l).map Zj.enc) true (r.map Zj.enc) (r.map Zj.enc).length,.k] (aa (fA (Zj.enc a) (l.map Zj.enc)) (aa (Eq.refl ((a::l).map Zj.enc)) (aa (XS Zj.BZ (a::l)) (aa (CF 2 Zj.A8 (a::l)) (aa (Eq.refl 0) (aa (Fu Zj.enc h) (aa (Mt Zj.enc h) (aa (NR Zj.enc r) (aa (NR Zj.enc r) tt)))))))))
abbrev Zp6 (x0:List Zt) (r:List Zt):Y:=(257,[.tr (x0.map Zt.enc)],.own 102 (r.map Zt.enc),[.undef])
theorem Z1o {x0:List Zt} {r:List Zt} (h:pK x0=some r):Zr Tryz.prog Mo (Zp6 x0 r):=by
 refine p7 Tryz.func257 ?_;unfold pK at h;cases x0 with
 | nil=>
  obtain rfl:[]=r:=(iU h);have hn:CS (Zp6 [] []) Tryz.f257 [1,0,0] [(0,.tr [])] []:=iR Mo Lg (k:=at_ [1,0,1] (Mw Tryz.f257) []) (x0:=.tmp 0) (d0:=3) (d1:=4) (t:=52) (e:=102) (y:=.const (.slice none 0 0)) (by kernel_rfl) (by kernel_rfl) rfl rfl λb=>by
   cases b with
   | true=>exact HH rfl [.k] tt
   | false=>exact HH rfl [.k,.app [] true [] 0,.k] (aa (Eq.refl ([]:List (List V))) (aa (Eq.refl true) (aa (Eq.refl true) (aa (Eq.refl 0) (aa (iV 56) (aa (Eq.refl ([]:List (List V))) (aa (Eq.refl 0) (aa (Eq.refl 0) tt))))))))
  exact MB [] 4 [] tt hn
 | cons a l=>
  exact HH rfl [.k,.app ((a::l).map Zt.enc) true (r.map Zt.enc) (r.map Zt.enc).length,.k] (aa (fA (Zt.enc a) (l.map Zt.enc)) (aa (Eq.refl ((a::l).map Zt.enc)) (aa (XS Zt.BZ (a::l)) (aa (CF 7 Zt.A8 (a::l)) (aa (Eq.refl 0) (aa (Fu Zt.enc h) (aa (Mt Zt.enc h) (aa (NR Zt.enc r) (aa (NR Zt.enc r) tt)))))))))
abbrev Yle (x0:Za) (r:Za):Y:=(214,[.agg (Za.enc x0)],.agg (Za.ow r),un 1)
theorem Yo5 {x0 r}:∀{m Ad v0 v1},bD x0 m Ad v0 v1=some r->CS (Yle x0 r) Tryz.f214 [1,1,1,0,1,0] [(1,pt 1),(2,pt 3),(3,sq 12 (v0.map Zg.enc).length),(12,.tr (x0.m.map Zg.enc)),(13,il (x0.m.length:Int)),(14,il v1)] ([rx 2 83 (Ad.Ae.Ab.map Ze.enc),bx 1 [sq 2 (Ad.Ae.Ab.map Ze.enc).length,il Ad.Ae.Av,il Ad.Ae.As,il Ad.Ae.An,il Ad.Ae.Ap,il Ad.Ae.Am,il Ad.now,.tr (Ad.m.map Zg.enc),il Ad.Bm.at_,il Ad.Bm.Bc,.tr (Ad.buckets.map Zj.enc),.tr (Ad.splits.map Zc),il Ad.Af,il Ad.held,il Ad.last,bl Ad.addr.live,il Ad.addr.Aj,il Ad.addr.Ao,bl Ad.addr.first,il Ad.addr.B2,il Ad.addr.left,il Ad.addr.Ar,bl Ad.addr.second,bl Ad.Aa.live,il Ad.Aa.Aj,il Ad.Aa.Ao,bl Ad.Aa.first,il Ad.Aa.B2,il Ad.Aa.left,il Ad.Aa.Ar,bl Ad.Aa.second,.tr (Ad.model.mem.map Zc),.tr (Ad.model.dev.AB.map Zc),il Ad.model.dev.timer,.tr (Ad.model.dev.A1.map Zc),il Ad.Au,.tr (Ad.log.map Zt.enc)]]++Za.bk Za.z0 4++[bx 3 (Za.rl Za.z0 4),rx 12 90 (v0.map Zg.enc)]):=by
 intro m
 induction m with
 | zero=>intro Ad v0 v1 h;cases h
 | succ m ih=>exactλ{Ad} {v0} {v1}=>st<|it (bb Zg.enc<|br b6 λ{r0}=>jk 1<|bn λ{z0} Xf=>jt Zg.enc [r0] z0<|jk 1<|je Zk.enc r0.queue<|ja 6 Zg.A8 r0<|jx Zg.enc Xf<|jn Zg.enc z0<|je Zg.enc z0<|jn Ze.enc Ad.Ae.Ab<|jw (Za.sc Za.z0)<|cx (Ay 1 11++fz 12 4 4096) 13 ih)<|br Zw2 λ{r1}=>br Kb λ{r2}=>br Z2p λ{r3}=>br Z1o λ{r4}=>jk 8<|je Ze.enc Ad.Ae.Ab<|je Zg.enc v0<|je Zj.enc r1<|je Zc r2<|jw (Zf.so r3)<|je Zt.enc r4<|rt
theorem Ymq {x0 r}  : bE x0=some r->Zr Tryz.prog Mo (Yle x0 r):=
 fK Tryz.func214<|br Yhr λ{r5}=>js Zg.enc x0.m<|jp (.num ([].map Zg.enc).length 0 0 [])<|jo (show 0=([].map Zg.enc).length from rfl)<|jn Ze.enc r5.Ab<|cx (fz 1 1 0++fz 2 2 2048++fz 3 1 1024++fz 12 3 0) 10 Yo5
abbrev Zp4 (x0:Za) (r:Bool):Y:=(258,[.rp true (Za.enc x0) 0],bl r,un 1)
theorem Z56 {x0 r}:∀{m v0},zE x0 m v0=some r->CS (Zp4 x0 r) Tryz.f258 [1,1,1,0,1,0] [(0,.rp true (Za.enc x0) 0),(40,.tr (x0.m.map Zg.enc)),(41,il (x0.m.length:Int)),(42,il v0)] []:=by
 intro m
 induction m with
 | zero=>intro v0 h;cases h
 | succ m ih=>exact st<|it (bb Zg.enc<|br Ud<|it (jk 42<|rt)<|jk 8<|it (jk 33<|rt)<|jk 5<|bb Zj.enc<|jk 8<|bb Ze.enc<|jk 2<|br Ycy<|jk 2<|it (jk 15<|rt)<|jk 5<|bb Zc<|jk 7<|br Xc<|jk 2<|it rt<|cx [] 16 ih)<|rt
theorem Zjm {x0 r} {v1}:Kd x0 v1=some r->CS (Zp4 x0 r) Tryz.f258 [1,1,0,1] [(0,.rp true (Za.enc x0) 0),(36,bl v1)] []:=
 st<|it rt<|js Zg.enc x0.m<|cx [] 6 Z56
theorem Ybk {x0 r}  : pN x0=some r->Zr Tryz.prog Mo (Zp4 x0 r):=
 fK Tryz.func258<|js Ze.enc x0.Ae.Ab<|js Zg.enc x0.m<|it (jk 15<|cx [] 7 Zjm)<|jk 4<|js Zj.enc x0.buckets<|jk 3<|it (jk 7<|cx [] 7 Zjm)<|jk 4<|js Zc x0.splits<|jk 3<|cx [] 7 Zjm
abbrev Ynk (x0:Zi) (r:Bool):Y:=(304,[.agg (Zi.enc x0)],bl r,un 1)
theorem Z67 {x0 r}  : pO x0=some r->Zr Tryz.prog Mo (Ynk x0 r):=
 fK Tryz.func304<|rt
abbrev Zb5 (x0:List Zi) (r:Int):Y:=(307,[.tr (x0.map Zi.enc),.fn 304 []],il r,un 2)
theorem Zhw {x0 r}:∀{m v0},Qw x0 m v0=some r->CS (Zb5 x0 r) Tryz.f307 [1,0,1,0] [(0,.tr (x0.map Zi.enc)),(1,.fn 304 []),(7,il (x0.length:Int)),(8,il v0)] []:=by
 intro m
 induction m with
 | zero=>intro v0 h;cases h
 | succ m ih=>exact st<|it (bb Zi.enc<|br Z67<|it rt<|cx [] 16 ih)<|rt
theorem Zkw {x0 r}  : Kn x0=some r->Zr Tryz.prog Mo (Zb5 x0 r):=
 fK Tryz.func307<|js Zi.enc x0<|cx [] 6 Zhw
abbrev Zbs (x0:List Zi) (r:List Zi):Y:=(303,[.own 47 (x0.map Zi.enc),.fn 304 []],.own 47 (r.map Zi.enc),un 2)
theorem Zhr {x0 r}:∀{m v0 v1 v2},Qr x0 m v0 v1 v2=some r->CS (Zbs x0 r) Tryz.f303 [1,1,1,0,1,0] [(0,sq 1 (v0.map Zi.enc).length),(1,.fn 304 []),(5,il v1),(6,il v2)] [rx 1 47 (v0.map Zi.enc)]:=by
 intro m
 induction m with
 | zero=>intro v0 v1 v2 h;cases h
 | succ m ih=>exactλ{v0} {v1} {v2}=>st<|js Zi.enc v0<|it (bd Zi.enc<|br Z67<|it (bn λCz=>bn λ{y0} K4=>jw (xp Zi.enc Cz K4)<|jp (.num (y0.map Zi.enc).length 0 0 [])<|jo (J0 Zi.enc K4)<|cx (Ay 1 1) 18 ih)<|jn Zi.enc v0<|cx (Ay 1 1) 16 ih)<|jp (.num (v1:Int).toNat ((v0.length:Int):Int).toNat (((v0.length:Int):Int).toNat - (v1:Int).toNat) [])<|jk 1<|bn λQu=>bn λ{y1} Cy=>jp (.app (y1.map Zi.enc) true [] 0)<|jp (.num (0:Int).toNat (v1:Int).toNat ((v1:Int).toNat - (0:Int).toNat) [])<|jk 1<|bn λ{s1} Cc=>jp (.mk 0 (s1.map Zi.enc))<|je Zi.enc v0<|jo (DL Qu).1<|jo (Gi Zi.enc v0)<|jo (Eb Zi.enc Qu)<|jo (CF 8 Zi.A8 v0)<|jo (Eq.refl (((v0.length:Int):Int).toNat - (v1:Int).toNat))<|jo (yE Zi.enc Cy)<|jo (yF Zi.enc Cy)<|jo (yG Zi.enc Cy)<|jo (Eq.refl 0)<|jo (DL Cc).2<|jo (Eb Zi.enc Cc)<|jo (CF 8 Zi.A8 y1)<|jo (Eq.refl ((v1:Int).toNat - (0:Int).toNat))<|jo (iT Zi.enc Cc)<|jo (E3 Zi.enc Cc)<|rt
theorem Zjw {x0 r}  : Wu x0=some r->Zr Tryz.prog Mo (Zbs x0 r):=
 fK Tryz.func303<|jk 1<|je Zi.enc x0<|br Zkw<|it (jk 1<|je Zi.enc x0<|rt)<|jn Zi.enc x0<|cx (fz 1 0 0) 13 Zhr
abbrev Yvy (x0:Za) (r:List Zi):Y:=(292,[.rp true (Za.enc x0) 0],.own 47 (r.map Zi.enc),un 1)
theorem Yvl {x0 r}  : pP x0=some r->Zr Tryz.prog Mo (Yvy x0 r):=
 fK Tryz.func292<|jk 1<|jo (show 2=([x0.addr,x0.Aa].map Zi.enc).length from rfl)<|br Zjw λ{r0}=>jk 1<|je Zi.enc r0<|rt
abbrev K8 (x0:Za) (r:Bool):Y:=(261,[.rp true (Za.enc x0) 0],bl r,un 1)
theorem Zll {x0 r} {AM:(List Int)->(List Zi)->Int->Int->Option Bool} (By:∀{v0 v1 v2 v3},AM v0 v1 v2 v3=some r->CS (K8 x0 r) Tryz.f261 [1,1,0,1,0] [(0,.rp true (Za.enc x0) 0),(3,sq 1 (v0.map Zc).length),(18,sq 2 (v1.map Zi.enc).length),(19,il v2),(20,il v3)] [rx 1 3 (v0.map Zc),rx 2 47 (v1.map Zi.enc)]) {Ad v0 v1 v2 v3 v4}:Jc x0 AM Ad v0 v1 v2 v3 v4=some r->CS (K8 x0 r) Tryz.f261 [1,1,0,1,0,0,1,1,0,0,1,0,1] [(0,.rp true (Za.enc x0) 0),(3,sq 2 (v0.map Zc).length),(5,pt 1),(18,sq 3 (v1.map Zi.enc).length),(19,il v2),(20,il v3),(48,bl v4)] [bx 1 (Zi.enc Ad),rx 2 3 (v0.map Zc),rx 3 47 (v1.map Zi.enc)]:=
 st<|it rt<|bn λQe=>jw (xd Zc Qe)<|bn λ{y0} K4=>jw (xp Zc Qe K4)<|jp (.num (y0.map Zc).length 0 0 [])<|jo (J0 Zc K4)<|jn Zi.enc v1<|cx (fz 1 1 2++fz 2 1 3) 5 By
theorem Zlw {x0 r} {v5}:Q1 x0 v5=some r->CS (K8 x0 r) Tryz.f261 [1,1,1,1,1,1,1,1,0,0,1,1,1,1,1] [(0,.rp true (Za.enc x0) 0),(9,pt 1),(179,bl v5)] [bx 1 (Zi.enc x0.Aa)]:=
 st<|it rt<|it (jk 7<|rt)<|jk 3<|it (jk 5<|it (jk 8<|rt)<|jk 8<|rt)<|jk 14<|rt
theorem Zwh {x0 r} {A2 v6}:bF x0 A2 v6=some r->CS (K8 x0 r) Tryz.f261 [1,1,1,1,1,1,1,1,0,0,1,1,1] [(0,.rp true (Za.enc x0) 0),(9,pt 1),(10,pt 2),(165,bl v6)] [bx 1 (Zi.enc x0.Aa),bx 2 (Zg.enc A2)]:=
 st<|it rt<|it (jk 2<|it (jk 9<|cx (Ay 1 1) 3 Zlw)<|jk 9<|cx (Ay 1 1) 3 Zlw)<|jk 4<|cx (Ay 1 1) 3 Zlw
theorem Zlq {x0 r} {A2 v7}:TN x0 A2 v7=some r->CS (K8 x0 r) Tryz.f261 [1,1,1,1,1,1,1,1,0,0,1] [(0,.rp true (Za.enc x0) 0),(9,pt 1),(10,pt 2),(141,bl v7)] [bx 1 (Zi.enc x0.Aa),bx 2 (Zg.enc A2)]:=
 st<|it rt<|it (jk 8<|cx (Ay 1 2) 3 Zwh)<|jk 8<|cx (Ay 1 2) 3 Zwh
theorem Q9 {x0 r} {v8}:Xi x0 v8=some r->CS (K8 x0 r) Tryz.f261 [1,1,1,1,0,1,1] [(0,.rp true (Za.enc x0) 0),(122,bl v8)] []:=
 st<|it rt<|it rt<|bb Zg.enc<|it (jk 15<|cx (fz 1 2 4096++fz 2 4 8192) 15 Zlq)<|jk 8<|br Xc<|jk 2<|it (jk 4<|cx (fz 1 2 4096++fz 2 4 8192) 15 Zlq)<|jk 2<|br Xc<|jk 2<|cx (fz 1 2 4096++fz 2 4 8192) 15 Zlq
theorem Yab {x0 r}:∀{m v0 v9},bG x0 m v0 v9=some r->CS (K8 x0 r) Tryz.f261 [1,1,1,0,1,0] [(0,.rp true (Za.enc x0) 0),(3,sq 1 (v0.map Zc).length),(60,.tr (x0.m.map Zg.enc)),(61,il (x0.m.length:Int)),(62,il v9)] [rx 1 3 (v0.map Zc)]:=by
 intro m
 induction m with
 | zero=>intro v0 v9 h;cases h
 | succ m ih=>exactλ{v0} {v9}=>st<|it (bb Zg.enc<|bd Zc<|it rt<|jn Zc v0<|cx (Ay 1 1) 16 ih)<|it (jk 8<|bb Zg.enc<|jk 5<|it (jk 22<|cx [] 14 Q9)<|jk 5<|it (jk 16<|cx [] 14 Q9)<|jk 5<|it (jk 10<|cx [] 14 Q9)<|jk 4<|it (jk 5<|cx [] 14 Q9)<|jk 3<|it (jk 5<|cx [] 14 Q9)<|jk 5<|cx [] 14 Q9)<|jk 23<|it (jk 5<|cx [] 14 Q9)<|jk 5<|cx [] 14 Q9
theorem Z99 {x0 r}:∀{m v0 v1 v2 v3},pQ x0 m v0 v1 v2 v3=some r->CS (K8 x0 r) Tryz.f261 [1,1,0,1,0] [(0,.rp true (Za.enc x0) 0),(3,sq 1 (v0.map Zc).length),(18,sq 2 (v1.map Zi.enc).length),(19,il v2),(20,il v3)] [rx 1 3 (v0.map Zc),rx 2 47 (v1.map Zi.enc)]:=by
 intro m
 induction m with
 | zero=>intro v0 v1 v2 v3 h;cases h
 | succ m ih=>exactλ{v0} {v1} {v2} {v3}=>st<|it (bd Zi.enc<|br RJ<|it (jk 14<|jn Zc v0<|jn Zi.enc v1<|cx (fz 1 3 2048++fz 2 1 1++fz 3 1 2) 13 (Zll ih))<|jk 2<|br Xc<|jk 2<|it (jk 9<|jn Zc v0<|jn Zi.enc v1<|cx (fz 1 3 2048++fz 2 1 1++fz 3 1 2) 13 (Zll ih))<|jk 6<|bb Zc<|jk 3<|jn Zc v0<|jn Zi.enc v1<|cx (fz 1 3 2048++fz 2 1 1++fz 3 1 2) 13 (Zll ih))<|js Zg.enc x0.m<|jn Zc v0<|cx (Ay 1 1) 13 Yab
theorem Z3b {x0 r}  : TO x0=some r->Zr Tryz.prog Mo (K8 x0 r):=
 fK Tryz.func261<|js Zg.enc x0.m<|bn λ{m0} Dn=>jp (.mk ((x0.m.length:Int):Int).toNat (m0.map Zc))<|jo (KT Dn)<|jo (KT Dn)<|jo (XT Dn)<|jo (XU Zc Dn)<|br Yvl λ{r4}=>js Zi.enc r4<|jn Zc m0<|jn Zi.enc r4<|cx (fz 1 2 5120++fz 2 3 1024) 8 Z99
abbrev Z66 (x0:Za) (r:Bool):Y:=(262,[.rp true (Za.enc x0) 0],bl r,un 1)
theorem Yc1 {x0 r}:∀{m v0},zF x0 m v0=some r->CS (Z66 x0 r) Tryz.f262 [1,0,1,0] [(0,.rp true (Za.enc x0) 0),(8,.tr (x0.m.map Zg.enc)),(9,il (x0.m.length:Int)),(10,il v0)] []:=by
 intro m
 induction m with
 | zero=>intro v0 h;cases h
 | succ m ih=>exact st<|it (bb Zg.enc<|it (jk 1<|br Yec<|jk 1<|it (jk 6<|it rt<|cx [] 16 ih)<|jk 7<|cx [] 16 ih)<|jk 10<|cx [] 16 ih)<|it rt<|br RJ<|it (jk 8<|bb Zg.enc<|jk 2<|br Yec<|jk 1<|it (jk 8<|bb Zc<|jk 3<|it (jk 9<|br Xc<|jk 1<|rt)<|jk 10<|rt)<|jk 22<|rt)<|jk 34<|rt
theorem Z7b {x0 r}  : TP x0=some r->Zr Tryz.prog Mo (Z66 x0 r):=
 fK Tryz.func262<|js Zg.enc x0.m<|cx [] 6 Yc1
abbrev Z2o (x0:Za) (r:Bool):Y:=(263,[.rp true (Za.enc x0) 0],bl r,un 1)
theorem Z8i {x0 r}:∀{m v0 v1},pT x0 m v0 v1=some r->CS (Z2o x0 r) Tryz.f263 [1,1,0,1,0] [(0,.rp true (Za.enc x0) 0),(3,il v0),(9,.tr (x0.log.map Zt.enc)),(10,il (x0.log.length:Int)),(11,il v1)] []:=by
 intro m
 induction m with
 | zero=>intro v0 v1 h;cases h
 | succ m ih=>exact st<|it (bb Zt.enc<|it (jk 41<|rt)<|jk 7<|it (jk 33<|rt)<|jk 6<|br RJ<|jk 2<|it (jk 24<|rt)<|jk 4<|br qP<|jk 2<|it (jk 17<|rt)<|jk 3<|it (jk 13<|rt)<|jk 4<|br RI<|jk 2<|it (jk 6<|rt)<|jk 3<|it (jk 5<|it rt<|cx [] 18 ih)<|jk 6<|cx [] 18 ih)<|rt
theorem Z27 {x0 r}  : TQ x0=some r->Zr Tryz.prog Mo (Z2o x0 r):=
 fK Tryz.func263<|js Zt.enc x0.log<|cx [] 8 Z8i
abbrev Y57 (x0:Za) (r:Bool):Y:=(215,[.agg (Za.enc x0)],bl r,un 1)
theorem Y47 {x0 r}  : TR x0=some r->Zr Tryz.prog Mo (Y57 x0 r):=
 fK Tryz.func215<|br Uc<|it (jk 2<|br Xc<|jk 1<|it (br Ybk<|jk 1<|it (jk 4<|br Ycr<|jk 1<|it (jk 3<|it (jk 10<|br Z55<|jk 1<|it (jk 4<|br Xc<|jk 1<|it (br Z3b<|jk 1<|it (br Z7b<|jk 1<|it (br Z27<|jk 1<|rt)<|jk 1<|rt)<|jk 3<|rt)<|jk 5<|rt)<|jk 11<|rt)<|jk 4<|br RJ<|jk 3<|it (jk 2<|br Z55<|jk 1<|it (jk 4<|br Xc<|jk 1<|it (br Z3b<|jk 1<|it (br Z7b<|jk 1<|it (br Z27<|jk 1<|rt)<|jk 1<|rt)<|jk 3<|rt)<|jk 5<|rt)<|jk 11<|rt)<|jk 15<|rt)<|jk 21<|rt)<|jk 27<|rt)<|jk 29<|rt)<|jk 33<|rt
abbrev Ydq (x0:Zb) (r:Int):Y:=(216,[.agg (Zb.enc x0)],il r,un 1)
theorem Yh9 {x0 r}:∀{m v0 v1},pU x0 m v0 v1=some r->CS (Ydq x0 r) Tryz.f216 [1,1,0,1,0] [(3,il v0),(7,.tr (x0.Al.map Zl.enc)),(8,il (x0.Al.length:Int)),(9,il v1)] []:=by
 intro m
 induction m with
 | zero=>intro v0 v1 h;cases h
 | succ m ih=>exact st<|it (bb Zl.enc<|cx [] 13 ih)<|rt
theorem Yvk {x0 r}  : pV x0=some r->Zr Tryz.prog Mo (Ydq x0 r):=
 fK Tryz.func216<|js Zl.enc x0.Al<|cx [] 8 Yh9
abbrev Yim (x0:Zg) (r:Bool):Y:=(218,[.agg (Zg.enc x0)],bl r,un 1)
theorem Yik {x0 r}  : bH x0=some r->Zr Tryz.prog Mo (Yim x0 r):=
 fK Tryz.func218<|js Zk.enc x0.queue<|rt
abbrev Zb4 (x0:List Zg) (r:Int):Y:=(264,[.tr (x0.map Zg.enc),.fn 218 []],il r,un 2)
theorem Zhy {x0 r}:∀{m v0},Wg x0 m v0=some r->CS (Zb4 x0 r) Tryz.f264 [1,0,1,0] [(0,.tr (x0.map Zg.enc)),(1,.fn 218 []),(7,il (x0.length:Int)),(8,il v0)] []:=by
 intro m
 induction m with
 | zero=>intro v0 h;cases h
 | succ m ih=>exact st<|it (bb Zg.enc<|br Yik<|it rt<|cx [] 16 ih)<|rt
theorem Zk4 {x0 r}  : Ko x0=some r->Zr Tryz.prog Mo (Zb4 x0 r):=
 fK Tryz.func264<|js Zg.enc x0<|cx [] 6 Zhy
abbrev Zix (x0:List Zg) (r:Bool):Y:=(217,[.tr (x0.map Zg.enc),.fn 218 []],bl r,un 2)
theorem Zi8 {x0 r}  : Q2 x0=some r->Zr Tryz.prog Mo (Zix x0 r):=
 fK Tryz.func217<|br Zk4<|rt
abbrev Yns (x0:Za) (r:Bool):Y:=(163,[.rp true (Za.enc x0) 0],bl r,un 1)
theorem Z72 {x0 r}  : bI x0=some r->Zr Tryz.prog Mo (Yns x0 r):=
 fK Tryz.func163<|br Zi8<|rt
abbrev Z8k (x0:Za) (x1:Zb) (r:Za×Int):Y:=(162,[.agg (Za.enc x0),.agg (Zb.enc x1)],.AW [.agg (Za.ow r.1),il r.2],un 2)
theorem Z7w {x0 x1 r} {Ad}:bJ x0 x1 Ad=some r->CS (Z8k x0 x1 r) Tryz.f162 [1,1,1,1,1] [(2,pt 1),(4,pt 2),(6,pt 11)] ([bx 1 (Za.enc x0)]++Za.bk Za.z0 3++[bx 2 (Za.rl Za.z0 3)]++Za.bk Ad 12++[bx 11 (Za.rl Ad 12)]):=
 st<|jk 8<|jw (Za.so Ad)<|br Ymq λ{r0}=>jk 8<|jw (Za.so r0)<|rt
theorem You {x0 x1 r}:∀{m A2 v0},RC x0 x1 m A2 v0=some r->CS (Z8k x0 x1 r) Tryz.f162 [1,1,1,1,0,0] [(2,pt 1),(3,pt 2),(4,pt 3),(6,pt 12),(7,il v0)] ([bx 1 (Za.enc x0),bx 2 (Zb.enc x1)]++Za.bk Za.z0 4++[bx 3 (Za.rl Za.z0 4)]++Za.bk A2 13++[bx 12 (Za.rl A2 13)]):=by
 intro m
 induction m with
 | zero=>intro A2 v0 h;cases h
 | succ m ih=>exactλ{A2} {v0}=>st<|it (jk 8<|jw (Za.so A2)<|br Z72<|jk 2<|it (jk 15<|jw (Za.so A2)<|br Z1r λ{r2}=>jw (Za.sc Za.z0)<|jw (Za.sc r2.2)<|cx (Ay 1 12++Za.ff 13 3 1536) 9 ih)<|jk 6<|it (jk 8<|jw (Za.so A2)<|br Z1r λ{r2}=>jw (Za.sc Za.z0)<|jw (Za.sc r2.2)<|cx (Ay 1 12++Za.ff 13 3 1536) 9 ih)<|jw (Za.sc Za.z0)<|jw (Za.sc A2)<|cx (Ay 1 1++fz 2 1 3++fz 3 1 4++fz 4 1 5++fz 5 1 6++fz 6 1 7++fz 7 1 8++fz 8 1 9++fz 9 1 10++fz 10 1 11++fz 11 1 12++fz 12 1 13++fz 13 1 14++fz 14 1 15++fz 15 1 16++fz 16 1 17++fz 17 1 18++fz 18 1 19++fz 19 1 20) 9 Z7w)<|jk 5<|jw (Za.sc Za.z0)<|jw (Za.sc A2)<|cx (Ay 1 1++fz 2 1 3++fz 3 1 4++fz 4 1 5++fz 5 1 6++fz 6 1 7++fz 7 1 8++fz 8 1 9++fz 9 1 10++fz 10 1 11++fz 11 1 12++fz 12 1 13++fz 13 1 14++fz 14 1 15++fz 15 1 16++fz 16 1 17++fz 17 1 18++fz 18 1 19++fz 19 1 20) 9 Z7w
theorem Y36 {x0 x1 r}  : pW x0 x1=some r->Zr Tryz.prog Mo (Z8k x0 x1 r):=
 fK Tryz.func162<|br Ymq λ{r3}=>br Y47<|it (jk 8<|jw (Za.so r3)<|rt)<|br Yvk<|jw (Za.sc r3)<|cx (fz 1 1 0++fz 2 1 1024++fz 3 1 2048++fz 12 2 2048++Za.ff 13 2 1024) 13 You
abbrev Ymj (x0:List Zt) (r:Zf×Int):Y:=(164,[.tr (x0.map Zt.enc)],.AW [.agg (Zf.ow r.1),il r.2],un 1)
theorem Yot {x0 r}:∀{m Ad v0},bL x0 m Ad v0=some r->CS (Ymj x0 r) Tryz.f164 [1,1,0,1,0] [(2,pt 1),(4,pt 5),(11,.tr (x0.map Zt.enc)),(12,il (x0.length:Int)),(13,il v0)] (Zf.bk Zf.z0 2++[bx 1 (Zf.rl Zf.z0 2)]++Zf.bk Ad 6++[bx 5 (Zf.rl Ad 6)]):=by
 intro m
 induction m with
 | zero=>intro Ad v0 h;cases h
 | succ m ih=>exactλ{Ad} {v0}=>st<|it (bb Zt.enc<|it (jw (Zf.sc Zf.z0)<|jw (Zf.sc Ad)<|cx (Ay 1 8) 18 ih)<|jk 3<|jw (Zf.so Ad)<|br Yhk λ{r0}=>it (jk 8<|jw (Zf.so Ad)<|rt)<|jk 4<|it (jk 3<|jw (Zf.so Ad)<|rt)<|jw (Zf.sc Zf.z0)<|jw (Zf.sc r0.1)<|cx (Ay 1 5++Zf.ff 6 5 9216) 25 ih)<|jk 3<|jw (Zf.so Ad)<|rt
theorem Y1p {x0 r}  : pX x0=some r->Zr Tryz.prog Mo (Ymj x0 r):=
 fK Tryz.func164<|br Ydk λ{r1}=>js Zt.enc x0<|jw (Zf.sc r1)<|cx (fz 1 1 0++fz 5 2 1024++Zf.ff 6 2 0) 8 Yot
abbrev Yta (x0:Zt) (r:ByteArray):Y:=(166,[.agg (Zt.enc x0)],ss r,un 1)
theorem Ysm {x0 r}  : pY x0=some r->Zr Tryz.prog Mo (Yta x0 r):=
 fK Tryz.func166<|br Hm λ{r0}=>br Hm λ{r1}=>br Ya8 λ{r2}=>br Hm λ{r3}=>br Hm λ{r4}=>br Yb9 λ{r5}=>jk 1<|jo (show 6=([r0,r1,r2,r3,r4,r5].map Zp).length from rfl)<|br Ou<|rt
abbrev Yrn (At:Zh) (Aq:Zb) (AG:Za) (x1:ByteArray) (r:ByteArray×Z3):Y:=(105,[.agg [.own 83 (At.Ab.map Ze.enc),il At.Av,il At.As,il At.An,il At.Ap,il At.Am,.own 60 (Aq.Al.map Zl.enc),.own 3 (Aq.waits.map Zc),.own 3 (Aq.A3.map Zc),.CM (Za.ow AG)],ss x1],ss r.1,[.agg [.own 83 (r.2.Ae.Ab.map Ze.enc),il r.2.Ae.Av,il r.2.Ae.As,il r.2.Ae.An,il r.2.Ae.Ap,il r.2.Ae.Am,.own 60 (r.2.script.Al.map Zl.enc),.own 3 (r.2.script.waits.map Zc),.own 3 (r.2.script.A3.map Zc),Za.oE r.2.DM],.undef])
theorem Yrs {At Aq AG x1 r}  : pZ At Aq AG x1=some r->Zr Tryz.prog Mo (Yrn At Aq AG x1 r):=
 fK Tryz.func105<|it (it (jk 12<|je Ze.enc At.Ab<|jw (Zb.so Aq)<|jw (Za.so AG)<|rt)<|jk 11<|jw (Za.so AG)<|jw (Zb.so Aq)<|br Z1r λ{r0}=>br Yuj<|jk 12<|je Ze.enc At.Ab<|jw (Zb.so Aq)<|jw (Za.so r0.2)<|rt)<|it (jk 11<|jw (Za.so AG)<|jw (Zb.so Aq)<|br Y36 λ{r2}=>br Hm<|jk 12<|je Ze.enc At.Ab<|jw (Zb.so Aq)<|jw (Za.so r2.1)<|rt)<|it (jk 8<|jw (Za.so AG)<|br Z72<|it (jk 12<|je Ze.enc At.Ab<|jw (Zb.so Aq)<|jw (Za.so AG)<|rt)<|jk 12<|je Ze.enc At.Ab<|jw (Zb.so Aq)<|jw (Za.so AG)<|rt)<|it (jk 1<|je Zt.enc AG.log<|br Y1p<|br Uf<|jk 12<|je Ze.enc At.Ab<|jw (Zb.so Aq)<|jw (Za.so AG)<|rt)<|js Zt.enc AG.log<|it (jk 12<|je Ze.enc At.Ab<|jw (Zb.so Aq)<|jw (Za.so AG)<|rt)<|bd Zt.enc<|br Ysm<|jl<|bo Yi<|br Hm<|jl<|jk 12<|bo Yi<|je Ze.enc At.Ab<|jw (Zb.so Aq)<|jw (Za.so AG)<|rt
abbrev Z4e (At:Zh) (Aq:Zb) (AG:Za) (x1:ByteArray) (r:ByteArray×Z3):Y:=(52,[.agg [.own 83 (At.Ab.map Ze.enc),il At.Av,il At.As,il At.An,il At.Ap,il At.Am,.own 60 (Aq.Al.map Zl.enc),.own 3 (Aq.waits.map Zc),.own 3 (Aq.A3.map Zc),.CM (Za.ow AG)],ss x1],ss r.1,[.agg [.own 83 (r.2.Ae.Ab.map Ze.enc),il r.2.Ae.Av,il r.2.Ae.As,il r.2.Ae.An,il r.2.Ae.Ap,il r.2.Ae.Am,.own 60 (r.2.script.Al.map Zl.enc),.own 3 (r.2.script.waits.map Zc),.own 3 (r.2.script.A3.map Zc),Za.oE r.2.DM],.undef])
theorem b8 {At Aq AG x1 r} {v0}:Jx At Aq AG x1 v0=some r->CS (Z4e At Aq AG x1 r) Tryz.f52 [1,0,1,0,1,1,1,1,1] [(0,.ptr (0,63) 0 0),(1,ss x1),(34,bl v0)] ([rx 1 83 (At.Ab.map Ze.enc),rx 2 60 (Aq.Al.map Zl.enc),rx 3 3 (Aq.waits.map Zc),rx 4 3 (Aq.A3.map Zc),((0,63),⟨true,true,true,0,[[sq 1 (At.Ab.map Ze.enc).length,il At.Av,il At.As,il At.An,il At.Ap,il At.Am,sq 2 (Aq.Al.map Zl.enc).length,sq 3 (Aq.waits.map Zc).length,sq 4 (Aq.A3.map Zc).length,pt 5]]⟩)]++Za.oB 5 (some AG)):=
 st<|it (jk 13<|je Ze.enc At.Ab<|jw (Zb.so Aq)<|jw (Za.so AG)<|bn λ{r0} N5=>jr (Yrs N5)<|match r0,N5 with|(z0,⟨z1,z2,none⟩),N5=>jk 4<|je Ze.enc z1.Ab<|jw (Zb.so z2)<|rt|(z0,⟨z1,z2,some z3⟩),N5=>jk 12<|je Ze.enc z1.Ab<|jw (Zb.so z2)<|jw (Za.so z3)<|rt)<|jk 12<|je Ze.enc At.Ab<|jw (Zb.so Aq)<|jw (Za.so AG)<|rt
theorem Yj7 {At Aq AG x1 r}  : bM At Aq AG x1=some r->Zr Tryz.prog Mo (Z4e At Aq AG x1 r):=
 fK Tryz.func52<|it (jk 1<|je Ze.enc At.Ab<|br Yjo λ{r1}=>it (jk 12<|je Ze.enc At.Ab<|jw (Zb.so Aq)<|jw (Za.so AG)<|rt)<|jk 12<|je Ze.enc At.Ab<|jw (Zb.so Aq)<|jw (Za.so r1.1)<|rt)<|it (jk 1<|je Ze.enc At.Ab<|br Z2t<|it (jk 12<|je Ze.enc At.Ab<|jw (Zb.so Aq)<|jw (Za.so AG)<|rt)<|jk 12<|je Ze.enc At.Ab<|jw (Zb.so Aq)<|jw (Za.so AG)<|rt)<|it (jn Ze.enc At.Ab<|jp (.num (Aq.Al.map Zl.enc).length 0 0 [])<|jp (.num (Aq.waits.map Zc).length 0 0 [])<|jp (.num (Aq.A3.map Zc).length 0 0 [])<|jw (Zb.so Aq)<|jw (Za.sc AG)<|cx (fz 1 0 0++fz 2 0 6++fz 3 0 7++fz 4 0 8++fz 5 0 9++fz 6 0 10++fz 7 0 17++fz 8 0 20++fz 9 0 21++fz 10 0 41++fz 11 0 42++fz 12 0 44++fz 13 0 46) 17 b8)<|it (jn Ze.enc At.Ab<|jp (.num (Aq.Al.map Zl.enc).length 0 0 [])<|jp (.num (Aq.waits.map Zc).length 0 0 [])<|jp (.num (Aq.A3.map Zc).length 0 0 [])<|jw (Zb.so Aq)<|jw (Za.sc AG)<|cx (fz 1 0 0++fz 2 0 6++fz 3 0 7++fz 4 0 8++fz 5 0 9++fz 6 0 10++fz 7 0 17++fz 8 0 20++fz 9 0 21++fz 10 0 41++fz 11 0 42++fz 12 0 44++fz 13 0 46) 20 b8)<|it (jn Ze.enc At.Ab<|jp (.num (Aq.Al.map Zl.enc).length 0 0 [])<|jp (.num (Aq.waits.map Zc).length 0 0 [])<|jp (.num (Aq.A3.map Zc).length 0 0 [])<|jw (Zb.so Aq)<|jw (Za.sc AG)<|cx (fz 1 0 0++fz 2 0 6++fz 3 0 7++fz 4 0 8++fz 5 0 9++fz 6 0 10++fz 7 0 17++fz 8 0 20++fz 9 0 21++fz 10 0 41++fz 11 0 42++fz 12 0 44++fz 13 0 46) 23 b8)<|it (jn Ze.enc At.Ab<|jp (.num (Aq.Al.map Zl.enc).length 0 0 [])<|jp (.num (Aq.waits.map Zc).length 0 0 [])<|jp (.num (Aq.A3.map Zc).length 0 0 [])<|jw (Zb.so Aq)<|jw (Za.sc AG)<|cx (fz 1 0 0++fz 2 0 6++fz 3 0 7++fz 4 0 8++fz 5 0 9++fz 6 0 10++fz 7 0 17++fz 8 0 20++fz 9 0 21++fz 10 0 41++fz 11 0 42++fz 12 0 44++fz 13 0 46) 26 b8)<|jn Ze.enc At.Ab<|jp (.num (Aq.Al.map Zl.enc).length 0 0 [])<|jp (.num (Aq.waits.map Zc).length 0 0 [])<|jp (.num (Aq.A3.map Zc).length 0 0 [])<|jw (Zb.so Aq)<|jw (Za.sc AG)<|cx (fz 1 0 0++fz 2 0 6++fz 3 0 7++fz 4 0 8++fz 5 0 9++fz 6 0 10++fz 7 0 17++fz 8 0 20++fz 9 0 21++fz 10 0 41++fz 11 0 42++fz 12 0 44++fz 13 0 46) 26 b8
abbrev qY (x0:ByteArray) (r:ByteArray):Y:=(19,[ss x0],ss r,un 1)
theorem Yt9 {x0 r}:∀{m Ad v0 v1 v2 v3},Jp x0 m Ad v0 v1 v2 v3=some r->CS (qY x0 r) Tryz.f19 [1,1,1,1,1,0,1,0] [(5,pt 1),(6,ss v0),(32,.tr (v1.map Zp)),(33,il v2),(34,il v3)] ([rx 2 83 (Ad.Ae.Ab.map Ze.enc),rx 3 60 (Ad.script.Al.map Zl.enc),rx 4 3 (Ad.script.waits.map Zc),rx 5 3 (Ad.script.A3.map Zc),bx 1 [sq 2 (Ad.Ae.Ab.map Ze.enc).length,il Ad.Ae.Av,il Ad.Ae.As,il Ad.Ae.An,il Ad.Ae.Ap,il Ad.Ae.Am,sq 3 (Ad.script.Al.map Zl.enc).length,sq 4 (Ad.script.waits.map Zc).length,sq 5 (Ad.script.A3.map Zc).length,Za.oV 6 Ad.DM]]++Za.oB 6 Ad.DM):=by
 intro m
 induction m with
 | zero=>intro Ad v0 v1 v2 v3 h;cases h
 | succ m ih=>exactλ{Ad} {v0} {v1} {v2} {v3}=>st<|match Ad with|⟨z0,z1,none⟩=>it (bb Zp<|it (jn Ze.enc z0.Ab<|jp (.num (z1.Al.map Zl.enc).length 0 0 [])<|jp (.num (z1.waits.map Zc).length 0 0 [])<|jp (.num (z1.A3.map Zc).length 0 0 [])<|jw (Zb.so z1)<|cx (Ay 1 5) 18 ih)<|br Zy4<|it (jk 4<|je Ze.enc z0.Ab<|jw (Zb.so z1)<|bn λ{r1} Ez=>jr (Yrv Ez)<|jl<|jl<|match r1,Ez with|(z2,⟨z3,z4,none⟩),Ez=>bo Yi<|bo Yi<|jn Ze.enc z3.Ab<|jp (.num (z4.Al.map Zl.enc).length 0 0 [])<|jp (.num (z4.waits.map Zc).length 0 0 [])<|jp (.num (z4.A3.map Zc).length 0 0 [])<|jw (Zb.so z4)<|cx (Ay 1 1++fz 2 6 3584++fz 3 6 3590++fz 4 6 3591++fz 5 6 3592) 21 ih|(z2,⟨z3,z4,some z5⟩),Ez=>bo Yi<|bo Yi<|jn Ze.enc z3.Ab<|jp (.num (z4.Al.map Zl.enc).length 0 0 [])<|jp (.num (z4.waits.map Zc).length 0 0 [])<|jp (.num (z4.A3.map Zc).length 0 0 [])<|jw (Zb.so z4)<|jw (Za.sc z5)<|cx (Ay 1 1++fz 2 6 3584++fz 3 6 3590++fz 4 6 3591++fz 5 6 3592++fz 6 6 3593++fz 7 6 3594++fz 8 6 3601++fz 9 6 3604++fz 10 6 3605++fz 11 6 3625++fz 12 6 3626++fz 13 6 3628++fz 14 6 3630) 21 ih)<|jk 4<|je Ze.enc z0.Ab<|jw (Zb.so z1)<|bn λ{r2} C6=>jr (Yn4 C6)<|jl<|jl<|match r2,C6 with|(z6,⟨z7,z8,none⟩),C6=>bo Yi<|bo Yi<|jn Ze.enc z7.Ab<|jp (.num (z8.Al.map Zl.enc).length 0 0 [])<|jp (.num (z8.waits.map Zc).length 0 0 [])<|jp (.num (z8.A3.map Zc).length 0 0 [])<|jw (Zb.so z8)<|cx (Ay 1 1++fz 2 6 3584++fz 3 6 3590++fz 4 6 3591++fz 5 6 3592) 21 ih|(z6,⟨z7,z8,some z9⟩),C6=>bo Yi<|bo Yi<|jn Ze.enc z7.Ab<|jp (.num (z8.Al.map Zl.enc).length 0 0 [])<|jp (.num (z8.waits.map Zc).length 0 0 [])<|jp (.num (z8.A3.map Zc).length 0 0 [])<|jw (Zb.so z8)<|jw (Za.sc z9)<|cx (Ay 1 1++fz 2 6 3584++fz 3 6 3590++fz 4 6 3591++fz 5 6 3592++fz 6 6 3593++fz 7 6 3594++fz 8 6 3601++fz 9 6 3604++fz 10 6 3605++fz 11 6 3625++fz 12 6 3626++fz 13 6 3628++fz 14 6 3630) 21 ih)<|rt|⟨z0,z1,some RD⟩=>it (bb Zp<|it (jn Ze.enc z0.Ab<|jp (.num (z1.Al.map Zl.enc).length 0 0 [])<|jp (.num (z1.waits.map Zc).length 0 0 [])<|jp (.num (z1.A3.map Zc).length 0 0 [])<|jw (Zb.so z1)<|jw (Za.sc RD)<|cx (Ay 1 14) 18 ih)<|br Zy4<|it (jk 12<|je Ze.enc z0.Ab<|jw (Zb.so z1)<|jw (Za.so RD)<|bn λ{r1} Ez=>jr (Yoy Ez)<|jl<|jl<|match r1,Ez with|(z2,⟨z3,z4,none⟩),Ez=>bo Yi<|bo Yi<|jn Ze.enc z3.Ab<|jp (.num (z4.Al.map Zl.enc).length 0 0 [])<|jp (.num (z4.waits.map Zc).length 0 0 [])<|jp (.num (z4.A3.map Zc).length 0 0 [])<|jw (Zb.so z4)<|cx (Ay 1 1++fz 2 6 3584++fz 3 6 3590++fz 4 6 3591++fz 5 6 3592) 21 ih|(z2,⟨z3,z4,some z5⟩),Ez=>bo Yi<|bo Yi<|jn Ze.enc z3.Ab<|jp (.num (z4.Al.map Zl.enc).length 0 0 [])<|jp (.num (z4.waits.map Zc).length 0 0 [])<|jp (.num (z4.A3.map Zc).length 0 0 [])<|jw (Zb.so z4)<|jw (Za.sc z5)<|cx (Ay 1 1++fz 2 6 3584++fz 3 6 3590++fz 4 6 3591++fz 5 6 3592++fz 6 6 3593++fz 7 6 3594++fz 8 6 3601++fz 9 6 3604++fz 10 6 3605++fz 11 6 3625++fz 12 6 3626++fz 13 6 3628++fz 14 6 3630) 21 ih)<|jk 12<|je Ze.enc z0.Ab<|jw (Zb.so z1)<|jw (Za.so RD)<|bn λ{r2} C6=>jr (Yj7 C6)<|jl<|jl<|match r2,C6 with|(z6,⟨z7,z8,none⟩),C6=>bo Yi<|bo Yi<|jn Ze.enc z7.Ab<|jp (.num (z8.Al.map Zl.enc).length 0 0 [])<|jp (.num (z8.waits.map Zc).length 0 0 [])<|jp (.num (z8.A3.map Zc).length 0 0 [])<|jw (Zb.so z8)<|cx (Ay 1 1++fz 2 6 3584++fz 3 6 3590++fz 4 6 3591++fz 5 6 3592) 21 ih|(z6,⟨z7,z8,some z9⟩),C6=>bo Yi<|bo Yi<|jn Ze.enc z7.Ab<|jp (.num (z8.Al.map Zl.enc).length 0 0 [])<|jp (.num (z8.waits.map Zc).length 0 0 [])<|jp (.num (z8.A3.map Zc).length 0 0 [])<|jw (Zb.so z8)<|jw (Za.sc z9)<|cx (Ay 1 1++fz 2 6 3584++fz 3 6 3590++fz 4 6 3591++fz 5 6 3592++fz 6 6 3593++fz 7 6 3594++fz 8 6 3601++fz 9 6 3604++fz 10 6 3605++fz 11 6 3625++fz 12 6 3626++fz 13 6 3628++fz 14 6 3630) 21 ih)<|rt
theorem Yd5 {x0 r} {v4 v5}:zH x0 v4 v5=some r->CS (qY x0 r) Tryz.f19 [1,1,1,0,1] [(3,.tr (v4.map Zp)),(29,bl v5)] []:=
 st<|it rt<|js Zp v4<|cx (fz 1 2 1024) 8 Yt9
theorem Ybz {x0 r} {v4}:RE x0 v4=some r->CS (qY x0 r) Tryz.f19 [1,1,1] [(0,ss x0),(3,.tr (v4.map Zp))] []:=
 st<|it (jk 3<|cx [] 3 Yd5)<|jk 1<|js Zp v4<|jk 2<|cx [] 3 Yd5
theorem Y7r {x0 r}  : p6 x0=some r->Zr Tryz.prog Mo (qY x0 r):=
 fK Tryz.func19<|br TT λ{r3}=>js Zp r3<|bb Zp<|it (bn λ{s0} Qu=>jp (.num (0:Int).toNat ((Xd (r3.length:Int) 1):Int).toNat 0 (s0.map Zp))<|jo (Eq.refl 0)<|jo (DL Qu).2<|jo (Eb Zp Qu)<|jo (CF 1 Qx r3)<|jo (E3 Zp Qu)<|cx [] 11 Ybz)<|cx [] 11 Ybz
abbrev Yjq (x0:ByteArray) (r:Bool):Y:=(5,[ss x0],bl r,un 1)
theorem Ykz {x0 r}  : zI x0=some r->Zr Tryz.prog Mo (Yjq x0 r):=
 fK Tryz.func5<|it rt<|br Y9u<|br Y7r<|it rt<|rt
end Go.Proofs.YthdljdelfgofdaaGreatDoor.Ev
