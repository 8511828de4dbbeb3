/- A part of the proof of FnDeskWorks: see the text YthdljdelfgofdaaGreatDoorLawFnDeskWorks for what is proved and its conditions. Conditions here: those in each line. -/
import Derived.Test.YthdljdelfgofdaaGreatDoorA6
set_option linter.unusedSimpArgs false
set_option linter.unusedVariables false
set_option linter.unusedSectionVars false
namespace Go.Proofs.YthdljdelfgofdaaGreatDoor.Ev
open Go Go.Proofs
variable [Anchor] [BF]
theorem Yh7 {x0 r}:∀{m v0 v4},qA x0 m v0 v4=some r->CS (rT x0 r) Tryz.f251 [1,1,0,1,0] [(0,.ptr (0,63) 0 0),(4,sq 9 (v0.map Z9).length),(17,sq 2 (x0.m.map Zg.enc).length),(18,il (x0.m.length:Int)),(19,il v4)] (Za.bk x0 1++[((0,63),⟨true,true,true,0,[(Za.rl x0 1)]⟩),rx 9 4 (v0.map Z9)]):=by
 intro m
 induction m with
 | zero=>intro v0 v4 h;cases h
 | succ m ih=>exactλ{v0} {v4}=>st<|it (bd Zg.enc<|br Yds<|it (jk 5<|bn λ{a4} F4=>jp (.row (v4:Int).toNat (Zd a4))<|jk 1<|jp (.cell (Zd a4))<|jk 2<|ig (λg3=>jp (.t true)<|jk 5<|ig (λg4=>jp (.t true)<|jk 8<|bn λ{z0} Xr=>jt Z9 [true] z0<|jk 1<|jp (.num (z0.map Z9).length 0 0 [])<|jp (.num (x0.m.map Zg.enc).length 0 0 [])<|jo (Ht F4)<|jo (HT Zd F4)<|jo (Dl Zd F4)<|jo (Dl Zd F4)<|jo g3<|jo g4<|ja 1 Oo true<|jx Z9 Xr<|je Z9 z0<|je Z9 z0<|je Zg.enc x0.m<|jw (Za.sc x0)<|cx (Az 1 8++fz 9 4 29696) 13 ih) λg4=>jp (.t false)<|jk 8<|bn λ{z0} Xr=>jt Z9 [decide (x0.Af=v4)] z0<|jk 1<|jp (.num (z0.map Z9).length 0 0 [])<|jp (.num (x0.m.map Zg.enc).length 0 0 [])<|jo (Ht F4)<|jo (HT Zd F4)<|jo (Dl Zd F4)<|jo (Dl Zd F4)<|jo g3<|jo g4<|ja 1 Oo (decide (x0.Af=v4))<|jx Z9 Xr<|je Z9 z0<|je Z9 z0<|je Zg.enc x0.m<|jw (Za.sc x0)<|cx (Az 1 8++fz 9 4 29696) 13 ih) λg3=>jp (.t false)<|jk 7<|bn λ{z0} Xr=>jt Z9 [false] z0<|jk 1<|jp (.num (z0.map Z9).length 0 0 [])<|jp (.num (x0.m.map Zg.enc).length 0 0 [])<|jo (Ht F4)<|jo (HT Zd F4)<|jo (Dl Zd F4)<|jo (Dl Zd F4)<|jo g3<|ja 1 Oo false<|jx Z9 Xr<|je Z9 z0<|je Z9 z0<|je Zg.enc x0.m<|jw (Za.sc x0)<|cx (Az 1 8++fz 9 4 29696) 13 ih)<|jk 16<|bn λ{z0} Xr=>jt Z9 [false] z0<|jk 1<|ja 1 Oo false<|jx Z9 Xr<|jn Z9 z0<|je Z9 z0<|jn Zg.enc x0.m<|jw (Za.sc x0)<|cx (Az 1 8++fz 9 4 29696) 13 ih)<|it (jk 5<|bn λ{a5} LA=>jp (.row (x0.Af:Int).toNat (Z9 a5))<|jk 1<|jp (.cell (Z9 a5))<|jk 1<|jp (.num (v0.map Z9).length 0 0 [])<|jo (Ht LA)<|jo (HT Z9 LA)<|jo (Dl Z9 LA)<|jo (Dl Z9 LA)<|je Z9 v0<|jw (Za.sc x0)<|cx (Az 1 9) 12 Z11)<|jk 7<|jn Z9 v0<|jw (Za.sc x0)<|cx (Az 1 9) 12 Z11
theorem Yva {x0 r}  : qB x0=some r->Zq Tryz.prog Mo (rT x0 r):=
 fK Tryz.func251<|js Zg.enc x0.m<|jp (.num ([].map Z9).length 0 0 [])<|jo (show 0=([].map Z9).length from rfl)<|jn Zg.enc x0.m<|jw (Za.sc x0)<|cx (Za.ff 1 0 0++fz 9 2 0) 8 Yh7
abbrev Y5k (x0:Zg) (r:Bool):Y:=(252,[.agg (Zg.enc x0)],bl r,un 1)
theorem Ybi {x0 r}  : Uk x0=some r->Zq Tryz.prog Mo (Y5k x0 r):=
 fK Tryz.func252<|js Zj.enc x0.queue<|it (jk 2<|bb Zj.enc<|jk 3<|it (jk 3<|rt)<|jk 3<|rt)<|jk 9<|rt
abbrev Ycu (x0:Zg) (r:Zg×Bool):Y:=(253,[.agg (Zg.enc x0)],.AZ [.agg [.own 41 (r.1.queue.map Zj.enc),il r.1.An,il r.1.done,il r.1.tries,bl r.1.Ax,bl r.1.broken],bl r.2],un 1)
theorem Z3p {x0 r} {Ae v0}:qC x0 Ae v0=some r->CS (Ycu x0 r) Tryz.f253 [1,1,0,1] [(2,pt 1),(4,pt 3),(17,bl v0)] [rx 2 41 ([].map Zj.enc),bx 1 [sq 2 ([].map Zj.enc).length,il 0,il 0,il 0,bl false,bl false],rx 4 41 (Ae.queue.map Zj.enc),bx 3 [sq 4 (Ae.queue.map Zj.enc).length,il Ae.An,il Ae.done,il Ae.tries,bl Ae.Ax,bl Ae.broken]]:=
 st<|it (jk 1<|je Zj.enc Ae.queue<|rt)<|jk 1<|je Zj.enc Ae.queue<|rt
theorem Yv1 {x0 r}  : qD x0=some r->Zq Tryz.prog Mo (Ycu x0 r):=
 fK Tryz.func253<|br dA λ{r0}=>br Yds<|it (jk 6<|jn Zj.enc r0.queue<|cx (fz 1 1 1024++fz 3 2 2048++fz 4 2 1024) 7 Z3p)<|jk 6<|jn Zj.enc r0.queue<|cx (fz 1 1 1024++fz 3 2 2048++fz 4 2 1024) 7 Z3p
abbrev rU (x0:Za) (r:Int×Za):Y:=(213,[.agg (Za.ow x0)],il r.1,[.agg (Za.ow r.2)])
theorem Z0d {x0 r} {Ae A1 v0}:qE x0 Ae A1 v0=some r->CS (rU x0 r) Tryz.f213 [1,1,1,1,1,1] [(0,.ptr (0,63) 0 0),(3,il v0),(5,pt 9)] (Za.bk Ae 1++[((0,63),⟨true,true,true,0,[(Za.rl Ae 1)]⟩),bx 9 (Zg.enc A1)]):=
 st<|br Yv1 λ{r0}=>bn λCc=>bn λ{y0} K7=>jw (xq Zg.enc Cc y0)<|jk 9<|je Zj.enc r0.1.queue<|jo (Ls Zg.enc K7)<|je Ze.enc Ae.Ad.Ab<|jo (Jx Zg.enc K7)<|je Zk.enc Ae.buckets<|je Zd Ae.splits<|jw (Zf.so Ae.model)<|je Zs.enc Ae.log<|rt
theorem Z0c {x0 r} {Ae A1 v0 v1}:qF x0 Ae A1 v0 v1=some r->CS (rU x0 r) Tryz.f213 [1,1,1,1,1,0,1] [(0,.ptr (0,63) 0 0),(3,il v0),(5,pt 9),(47,bl v1)] (Za.bk Ae 1++[((0,63),⟨true,true,true,0,[(Za.rl Ae 1)]⟩),bx 9 (Zg.enc A1)]):=
 st<|it (jw (Za.sc {Ae with Af:=v0,held:=0})<|cx (Az 1 9) 4 Z0d)<|jw (Za.sc Ae)<|cx (Az 1 9) 2 Z0d
theorem Z0g {x0 r} {Ae A1 v0}:RQ x0 Ae A1 v0=some r->CS (rU x0 r) Tryz.f213 [1,1,1,1,1] [(0,.ptr (0,63) 0 0),(3,il v0),(5,pt 9)] (Za.bk Ae 1++[((0,63),⟨true,true,true,0,[(Za.rl Ae 1)]⟩),bx 9 (Zg.enc A1)]):=
 st<|br Ybi<|it (jk 5<|jw (Za.sc Ae)<|cx (Az 1 9) 3 Z0c)<|jk 5<|jw (Za.sc Ae)<|cx (Az 1 9) 3 Z0c
theorem Yq2 {x0 r}  : qG x0=some r->Zq Tryz.prog Mo (rU x0 r):=
 fK Tryz.func213<|jk 8<|jw (Za.so x0)<|br Yva λ{r2}=>it (jk 8<|jw (Za.so r2.2.2)<|rt)<|bd Zg.enc λ{a1}=>it (jk 6<|jw (Za.sc {r2.2.2 with addr:=(Zh.mk true r2.1 a1.An true r2.2.1 0 0 false)})<|cx (Za.ff 1 2 1536++fz 9 4 7168) 13 Z0g)<|jk 6<|jw (Za.sc {r2.2.2 with addr:=(Zh.mk true r2.1 a1.An (decide (r2.2.2.last≠r2.1)) r2.2.1 0 0 false)})<|cx (Za.ff 1 2 1536++fz 9 4 7168) 13 Z0g
abbrev LB (x0:Za) (x1:Zb) (r:Zp×Za):Y:=(161,[.agg (Za.ow x0),.agg (Zb.enc x1)],.agg (Zp.enc r.1),[.agg (Za.ow r.2),.undef])
theorem Z23 {x0 x1 r} {Ae A1}:bZ x0 x1 Ae A1=some r->CS (LB x0 x1 r) Tryz.f161 [1,1,1,1,1,1,1,1,1] [(0,.ptr (0,63) 0 0),(4,pt 9),(5,pt 10)] (Za.bk Ae 1++[((0,63),⟨true,true,true,0,[(Za.rl Ae 1)]⟩),bx 9 (Zp.enc Zp.z0),bx 10 (Zp.enc A1)]):=
 st<|jk 8<|jw (Za.so Ae)<|rt
theorem Z2h {x0 x1 r} {Ae A1}:b4 x0 x1 Ae A1=some r->CS (LB x0 x1 r) Tryz.f161 [1,1,1,1,1,1,1,1,0,1,0,1,1] [(0,.ptr (0,63) 0 0),(4,pt 9),(5,pt 10)] (Za.bk Ae 1++[((0,63),⟨true,true,true,0,[(Za.rl Ae 1)]⟩),bx 9 (Zp.enc Zp.z0),bx 10 (Zp.enc A1)]):=
 st<|jk 8<|jw (Za.so Ae)<|br Yq2 λ{r0}=>jw (Za.sc r0.2)<|cx (Za.ff 1 2 1536++Az 9 2) 1 Z23
theorem Z2m {x0 x1 r} {Ae AI}:Ul x0 x1 Ae AI=some r->CS (LB x0 x1 r) Tryz.f161 [1,1,1,1,1,1,1,1,0,1,0,1] [(0,.ptr (0,63) 0 0),(3,pt 9),(4,pt 10),(5,pt 11)] (Za.bk Ae 1++[((0,63),⟨true,true,true,0,[(Za.rl Ae 1)]⟩),bx 9 (Zb.enc x1),bx 10 (Zp.enc Zp.z0),bx 11 (Zp.enc AI)]):=
 st<|it (jk 8<|jw (Za.so Ae)<|br Ynp λ{r1}=>jw (Za.sc {Ae with addr:=Zh.z0,Aa:={Ae.addr with left:=r1.2,Ap:=r1.1},At:=(Zn Ae.At 1)})<|cx (Az 1 8++fz 9 1 10++fz 10 1 11) 11 Z2h)<|jw (Za.sc Ae)<|cx (Az 1 8++fz 9 1 10++fz 10 1 11) 7 Z2h
theorem Z10 {x0 x1 r} {Ae AI v0}:OB x0 x1 Ae AI v0=some r->CS (LB x0 x1 r) Tryz.f161 [1,1,1,1,1,1,1,1,0,1,0,0,1] [(0,.ptr (0,63) 0 0),(3,pt 9),(4,pt 10),(5,pt 11),(187,bl v0)] (Za.bk Ae 1++[((0,63),⟨true,true,true,0,[(Za.rl Ae 1)]⟩),bx 9 (Zb.enc x1),bx 10 (Zp.enc Zp.z0),bx 11 (Zp.enc AI)]):=
 st<|it (bn λCc=>bn λK7=>jw (xp Zg.enc Cc K7)<|jk 8<|je Ze.enc Ae.Ad.Ab<|jo (Jx Zg.enc K7)<|je Zk.enc Ae.buckets<|je Zd Ae.splits<|jw (Zf.so Ae.model)<|je Zs.enc Ae.log<|br Ybr λ{r2}=>jw (Za.sc r2)<|cx (Za.ff 1 3 1536++Az 9 3) 4 Z2m)<|jw (Za.sc Ae)<|cx (Az 1 11) 2 Z2m
theorem Z13 {x0 x1 r} {Ae AI}:OC x0 x1 Ae AI=some r->CS (LB x0 x1 r) Tryz.f161 [1,1,1,1,1,1,1] [(0,.ptr (0,63) 0 0),(3,pt 9),(4,pt 10),(5,pt 11)] (Za.bk Ae 1++[((0,63),⟨true,true,true,0,[(Za.rl Ae 1)]⟩),bx 9 (Zb.enc x1),bx 10 (Zp.enc Zp.z0),bx 11 (Zp.enc AI)]):=
 st<|jk 8<|jw (Za.so Ae)<|br Yob λ{r3}=>it (it (jk 10<|jw (Za.sc r3.2.1)<|cx (Za.ff 1 2 2560++Az 9 3) 9 Z10)<|jk 10<|jw (Za.sc r3.2.1)<|cx (Za.ff 1 2 2560++Az 9 3) 9 Z10)<|jw (Za.sc r3.2.1)<|cx (Za.ff 1 2 2560++fz 9 1 10++fz 10 1 11) 7 Z23
theorem Yiq {x0 x1 r}:∀{m Ae AI v1 v2},RR x0 x1 m Ae AI v1 v2=some r->CS (LB x0 x1 r) Tryz.f161 [1,1,1,1,1,0,1,0] [(0,.ptr (0,63) 0 0),(3,pt 9),(4,pt 10),(5,pt 11),(107,sq 4 (Ae.splits.map Zd).length),(108,il v1),(109,il v2)] (Za.bk Ae 1++[((0,63),⟨true,true,true,0,[(Za.rl Ae 1)]⟩),bx 9 (Zb.enc x1),bx 10 (Zp.enc Zp.z0),bx 11 (Zp.enc AI)]):=by
 intro m
 induction m with
 | zero=>intro Ae AI v1 v2 h;cases h
 | succ m ih=>exactλ{Ae} {AI} {v1} {v2}=>st<|it (bn λCV=>jw (xd Zd CV)<|bn λ{y1} Cz=>jw (xp Zd CV Cz)<|bn λDM=>jw (xd Zk.enc DM)<|bd Ze.enc<|br Ync<|bn λ{y2} DL=>jw (xp Zk.enc DM DL)<|jp (.num (y1.map Zd).length 0 0 [])<|jw (tq (Za.nm {Ae with buckets:=y2,splits:=y1}))<|jo (Jx Zd Cz)<|je Ze.enc Ae.Ad.Ab<|je Zg.enc Ae.m<|jo (Jx Zk.enc DL)<|jo (Jx Zd Cz)<|jw (Zf.so Ae.model)<|je Zs.enc Ae.log<|cx (Az 1 11) 15 ih)<|it (jw (Za.sc {Ae with held:=(D2 (Zn Ae.held 1) Ae.Ad.Am)})<|cx (Az 1 11) 14 Z13)<|jw (Za.sc Ae)<|cx (Az 1 11) 14 Z13
theorem Yii {x0 x1 r}:∀{m Ae AI v3 v4 v5},b6 x0 x1 m Ae AI v3 v4 v5=some r->CS (LB x0 x1 r) Tryz.f161 [1,1,1,1,0,1,0] [(0,.ptr (0,63) 0 0),(3,pt 9),(4,pt 10),(5,pt 11),(69,sq 12 (v3.map Zo.enc).length),(70,il v4),(71,il v5)] (Za.bk Ae 1++[((0,63),⟨true,true,true,0,[(Za.rl Ae 1)]⟩),bx 9 (Zb.enc x1),bx 10 (Zp.enc Zp.z0),bx 11 (Zp.enc AI),rx 12 60 (v3.map Zo.enc)]):=by
 intro m
 induction m with
 | zero=>intro Ae AI v3 v4 v5 h;cases h
 | succ m ih=>exactλ{Ae} {AI} {v3} {v4} {v5}=>st<|it (bd Zo.enc<|jk 1<|je Ze.enc Ae.Ad.Ab<|br Sa<|it (bn λLA=>jw (xd Zg.enc LA)<|br Yx5 λ{r6}=>bn λ{y3} G7=>jw (xq Zg.enc LA y3)<|jk 1<|je Zj.enc r6.1.queue<|jo (Ls Zg.enc G7)<|jn Zo.enc v3<|jw (tq (Za.nm {Ae with m:=y3}))<|je Ze.enc Ae.Ad.Ab<|jo (Jx Zg.enc G7)<|je Zk.enc Ae.buckets<|je Zd Ae.splits<|jw (Zf.so Ae.model)<|je Zs.enc Ae.log<|cx (Az 1 12) 16 ih)<|jn Zo.enc v3<|jw (Za.sc Ae)<|cx (Az 1 12) 16 ih)<|js Zd Ae.splits<|jn Zd Ae.splits<|jw (Za.sc Ae)<|cx (Az 1 11) 13 Yiq
theorem Z28 {x0 x1 r} {AI}:b7 x0 x1 AI=some r->CS (LB x0 x1 r) Tryz.f161 [1,1,1,1] [(0,.ptr (0,63) 0 0),(3,pt 9),(4,pt 10),(5,pt 11)] (Za.bk x0 1++[((0,63),⟨true,true,true,0,[(Za.rl x0 1)]⟩),bx 9 (Zb.enc x1),bx 10 (Zp.enc Zp.z0),bx 11 (Zp.enc AI)]):=
 st<|br Yxq λ{r7}=>js Zo.enc r7<|jn Zo.enc r7<|jw (Za.sc x0)<|cx (Az 1 11++fz 12 2 5120) 4 Yii
theorem Ztv {x0 x1 r} {AI}:b8 x0 x1 AI=some r->CS (LB x0 x1 r) Tryz.f161 [1,1,1] [(0,.ptr (0,63) 0 0),(3,pt 9),(4,pt 10),(5,pt 11)] (Za.bk x0 1++[((0,63),⟨true,true,true,0,[(Za.rl x0 1)]⟩),bx 9 (Zb.enc x1),bx 10 (Zp.enc Zp.z0),bx 11 (Zp.enc AI)]):=
 st<|it (bd Zg.enc<|br c8<|jw (Za.sc x0)<|cx (Az 1 11) 7 Z28)<|jw (Za.sc x0)<|cx (Az 1 11) 7 Z28
theorem Z1q {x0 x1 r}  : RS x0 x1=some r->Zq Tryz.prog Mo (LB x0 x1 r):=
 fK Tryz.func161<|it (bd Zg.enc<|br c8<|it (jw (Za.sc x0)<|cx (Za.ff 1 0 0++fz 9 1 0++fz 10 1 1024++fz 11 2 5120) 16 Ztv)<|jw (Za.sc x0)<|cx (Za.ff 1 0 0++fz 9 1 0++fz 10 1 1024++fz 11 2 5120) 16 Ztv)<|jw (Za.sc x0)<|cx (Za.ff 1 0 0++fz 9 1 0++fz 10 1 1024++fz 11 2 5120) 11 Ztv
abbrev Y2i (x0:Int) (x1:List ByteArray) (r:ByteArray):Y:=(238,[il x0,.tr (x1.map Zv)],ss r,un 2)
theorem Yk9 {x0 x1 r}  : RT x0 x1=some r->Zq Tryz.prog Mo (Y2i x0 x1 r):=
 fK Tryz.func238<|js Zv x1<|br Xd<|it rt<|bb Zv<|rt
abbrev Yt9 (x0:Int) (r:ByteArray):Y:=(203,[il x0],ss r,un 1)
theorem Yv4 {x0 r}  : b9 x0=some r->Zq Tryz.prog Mo (Yt9 x0 r):=
 fK Tryz.func203<|jk 1<|jo (show 4=([(Zc [105,100,108,101]),ByteArray.empty,(Zc [102,105,114,115,116]),(Zc [110,101,120,116])].map Zv).length from rfl)<|br Yk9<|rt
abbrev Y1y (x0:Int) (r:ByteArray):Y:=(165,[il x0],ss r,un 1)
theorem U6 {x0 r}  : MR x0=some r->Zq Tryz.prog Mo (Y1y x0 r):=
 fK Tryz.func165<|it rt<|br Hx<|rt
abbrev Ytf (x0:Int) (r:ByteArray):Y:=(204,[il x0],ss r,un 1)
theorem Yed {x0 r}  : Um x0=some r->Zq Tryz.prog Mo (Ytf x0 r):=
 fK Tryz.func204<|jk 1<|jo (show 4=([(Zc [111,107,97,121]),(Zc [101,114,114,111,114]),(Zc [114,101,116,114,121]),(Zc [115,112,108,105,116])].map Zv).length from rfl)<|br Yk9<|rt
abbrev Ybn (x0:Zp) (r:ByteArray):Y:=(160,[.agg (Zp.enc x0)],ss r,un 1)
theorem Z3r {x0 r} {v0}:cA x0 v0=some r->CS (Ybn x0 r) Tryz.f160 [1,1,1] [(1,pt 1),(3,ss v0)] [bx 1 (Zp.enc x0)]:=
 st<|br Hx λ{r0}=>br Yv4 λ{r1}=>br U6 λ{r2}=>jl<|bo Xx<|br U6 λ{r3}=>jl<|bo Xx<|br U6 λ{r4}=>jl<|bo Xx<|br U6 λ{r5}=>jl<|bo Xx<|br Yed λ{r6}=>br U6 λ{r7}=>jk 1<|jo (show 7=([r0,r1,((r2++(Zc [58]))++r3),((r4++(Zc [58]))++r5),v0,r6,r7].map Zv).length from rfl)<|br OD<|rt
theorem Yu8 {x0 r}  : qJ x0=some r->Zq Tryz.prog Mo (Ybn x0 r):=
 fK Tryz.func160<|it (cx (fz 1 1 0) 9 Z3r)<|cx (fz 1 1 0) 9 Z3r
abbrev Zkx (x0:List Zk) (r:List Zk):Y:=(254,[.tr (x0.map Zk.enc)],.own 92 (r.map Zk.enc),[.undef])
theorem Zxc {x0:List Zk} {r:List Zk} (h:qK x0=some r):Zq Tryz.prog Mo (Zkx x0 r):=by
 refine q8 Tryz.func254 ?_;unfold qK at h;cases x0 with
 | nil=>
  obtain rfl:[]=r:=(kD h);have hn:CS (Zkx [] []) Tryz.f254 [1,0,0] [(0,.tr [])] []:=kA Mo L5 (k:=at_ [1,0,1] (MH Tryz.f254) []) (x0:=.tmp 0) (d0:=3) (d1:=4) (t:=45) (e:=92) (y:=.const (.slice none 0 0)) (by kernel_rfl) (by kernel_rfl) rfl rfl λb=>by
   cases b with
   | true=>exact HW rfl [.k] tt
   | false=>exact HW rfl [.k,.app [] true [] 0,.k] (aa (Eq.refl ([]:List (List V))) (aa (Eq.refl true) (aa (Eq.refl true) (aa (Eq.refl 0) (aa (kE 16) (aa (Eq.refl ([]:List (List V))) (aa (Eq.refl 0) (aa (Eq.refl 0) tt))))))))
  exact MX [] 4 [] tt hn
 | cons a l=>
  exact HW rfl [.k,.app ((a::l).map Zk.enc) true (r.map Zk.enc) (r.map Zk.enc).length,.k] (aa (gP (Zk.enc a) (l.map Zk.enc)) (aa (Eq.refl ((a::l).map Zk.enc)) (aa (YU Zk.Ca (a::l)) (aa (D3 2 Zk.AE (a::l)) (aa (Eq.refl 0) (aa (FL Zk.enc h) (aa (MG Zk.enc h) (aa (Om Zk.enc r) (aa (Om Zk.enc r) tt)))))))))
abbrev Zpy (x0:List Zs) (r:List Zs):Y:=(257,[.tr (x0.map Zs.enc)],.own 102 (r.map Zs.enc),[.undef])
theorem Z3l {x0:List Zs} {r:List Zs} (h:qL x0=some r):Zq Tryz.prog Mo (Zpy x0 r):=by
 refine q8 Tryz.func257 ?_;unfold qL at h;cases x0 with
 | nil=>
  obtain rfl:[]=r:=(kD h);have hn:CS (Zpy [] []) Tryz.f257 [1,0,0] [(0,.tr [])] []:=kA Mo L5 (k:=at_ [1,0,1] (MH Tryz.f257) []) (x0:=.tmp 0) (d0:=3) (d1:=4) (t:=52) (e:=102) (y:=.const (.slice none 0 0)) (by kernel_rfl) (by kernel_rfl) rfl rfl λb=>by
   cases b with
   | true=>exact HW rfl [.k] tt
   | false=>exact HW rfl [.k,.app [] true [] 0,.k] (aa (Eq.refl ([]:List (List V))) (aa (Eq.refl true) (aa (Eq.refl true) (aa (Eq.refl 0) (aa (kE 56) (aa (Eq.refl ([]:List (List V))) (aa (Eq.refl 0) (aa (Eq.refl 0) tt))))))))
  exact MX [] 4 [] tt hn
 | cons a l=>
  exact HW rfl [.k,.app ((a::l).map Zs.enc) true (r.map Zs.enc) (r.map Zs.enc).length,.k] (aa (gP (Zs.enc a) (l.map Zs.enc)) (aa (Eq.refl ((a::l).map Zs.enc)) (aa (YU Zs.Ca (a::l)) (aa (D3 7 Zs.AE (a::l)) (aa (Eq.refl 0) (aa (FL Zs.enc h) (aa (MG Zs.enc h) (aa (Om Zs.enc r) (aa (Om Zs.enc r) tt)))))))))
abbrev Ylx (x0:Za) (r:Za):Y:=(214,[.agg (Za.enc x0)],.agg (Za.ow r),un 1)
theorem Ynk {x0 r}:∀{m Ae v0 v1},cB x0 m Ae v0 v1=some r->CS (Ylx x0 r) Tryz.f214 [1,1,1,0,1,0] [(1,pt 1),(2,pt 3),(3,sq 12 (v0.map Zg.enc).length),(12,.tr (x0.m.map Zg.enc)),(13,il (x0.m.length:Int)),(14,il v1)] ([rx 2 83 (Ae.Ad.Ab.map Ze.enc),bx 1 [sq 2 (Ae.Ad.Ab.map Ze.enc).length,il Ae.Ad.Aw,il Ae.Ad.Au,il Ae.Ad.Ao,il Ae.Ad.Ar,il Ae.Ad.Am,il Ae.now,.tr (Ae.m.map Zg.enc),il Ae.Bq.at_,il Ae.Bq.Be,.tr (Ae.buckets.map Zk.enc),.tr (Ae.splits.map Zd),il Ae.Af,il Ae.held,il Ae.last,bl Ae.addr.live,il Ae.addr.Ah,il Ae.addr.An,bl Ae.addr.first,il Ae.addr.B6,il Ae.addr.left,il Ae.addr.Ap,bl Ae.addr.second,bl Ae.Aa.live,il Ae.Aa.Ah,il Ae.Aa.An,bl Ae.Aa.first,il Ae.Aa.B6,il Ae.Aa.left,il Ae.Aa.Ap,bl Ae.Aa.second,.tr (Ae.model.mem.map Zd),.tr (Ae.model.dev.AH.map Zd),il Ae.model.dev.timer,.tr (Ae.model.dev.A2.map Zd),il Ae.At,.tr (Ae.log.map Zs.enc)]]++Za.bk Za.z0 4++[bx 3 (Za.rl Za.z0 4),rx 12 90 (v0.map Zg.enc)]):=by
 intro m
 induction m with
 | zero=>intro Ae v0 v1 h;cases h
 | succ m ih=>exactλ{Ae} {v0} {v1}=>st<|it (bb Zg.enc<|br dA λ{r0}=>jk 1<|bn λ{z0} Xr=>jt Zg.enc [r0] z0<|jk 1<|je Zj.enc r0.queue<|ja 6 Zg.AE r0<|jx Zg.enc Xr<|jn Zg.enc z0<|je Zg.enc z0<|jn Ze.enc Ae.Ad.Ab<|jw (Za.sc Za.z0)<|cx (Az 1 11++fz 12 4 4096) 13 ih)<|br Zxc λ{r1}=>br Ke λ{r2}=>br Z24 λ{r3}=>br Z3l λ{r4}=>jk 8<|je Ze.enc Ae.Ad.Ab<|je Zg.enc v0<|je Zk.enc r1<|je Zd r2<|jw (Zf.so r3)<|je Zs.enc r4<|rt
theorem Yjf {x0 r}  : cC x0=some r->Zq Tryz.prog Mo (Ylx x0 r):=
 fK Tryz.func214<|br Yge λ{r5}=>js Zg.enc x0.m<|jp (.num ([].map Zg.enc).length 0 0 [])<|jo (show 0=([].map Zg.enc).length from rfl)<|jn Ze.enc r5.Ab<|cx (fz 1 1 0++fz 2 2 2048++fz 3 1 1024++fz 12 3 0) 10 Ynk
abbrev Zpl (x0:Za) (r:Bool):Y:=(258,[.rp true (Za.enc x0) 0],bl r,un 1)
theorem Z6e {x0 r}:∀{m v0},Zj0 x0 m v0=some r->CS (Zpl x0 r) Tryz.f258 [1,1,1,0,1,0] [(0,.rp true (Za.enc x0) 0),(40,.tr (x0.m.map Zg.enc)),(41,il (x0.m.length:Int)),(42,il v0)] []:=by
 intro m
 induction m with
 | zero=>intro v0 h;cases h
 | succ m ih=>exact st<|it (bb Zg.enc<|br U4<|it (jk 42<|rt)<|jk 8<|it (jk 33<|rt)<|jk 5<|bb Zk.enc<|jk 8<|bb Ze.enc<|jk 2<|br Yby<|jk 2<|it (jk 15<|rt)<|jk 5<|bb Zd<|jk 7<|br Xd<|jk 2<|it rt<|cx [] 16 ih)<|rt
theorem Zjq {x0 r} {v1}:Kh x0 v1=some r->CS (Zpl x0 r) Tryz.f258 [1,1,0,1] [(0,.rp true (Za.enc x0) 0),(36,bl v1)] []:=
 st<|it rt<|js Zg.enc x0.m<|cx [] 6 Z6e
theorem Yd3 {x0 r}  : qO x0=some r->Zq Tryz.prog Mo (Zpl x0 r):=
 fK Tryz.func258<|js Ze.enc x0.Ad.Ab<|js Zg.enc x0.m<|it (jk 15<|cx [] 7 Zjq)<|jk 4<|js Zk.enc x0.buckets<|jk 3<|it (jk 7<|cx [] 7 Zjq)<|jk 4<|js Zd x0.splits<|jk 3<|cx [] 7 Zjq
abbrev Ynh (x0:Zh) (r:Bool):Y:=(304,[.agg (Zh.enc x0)],bl r,un 1)
theorem Z7n {x0 r}  : qP x0=some r->Zq Tryz.prog Mo (Ynh x0 r):=
 fK Tryz.func304<|rt
abbrev Zcb (x0:List Zh) (r:Int):Y:=(307,[.tr (x0.map Zh.enc),.fn 304 []],il r,un 2)
theorem Zhv {x0 r}:∀{m v0},Q1 x0 m v0=some r->CS (Zcb x0 r) Tryz.f307 [1,0,1,0] [(0,.tr (x0.map Zh.enc)),(1,.fn 304 []),(7,il (x0.length:Int)),(8,il v0)] []:=by
 intro m
 induction m with
 | zero=>intro v0 h;cases h
 | succ m ih=>exact st<|it (bb Zh.enc<|br Z7n<|it rt<|cx [] 16 ih)<|rt
theorem Zk1 {x0 r}  : Ku x0=some r->Zq Tryz.prog Mo (Zcb x0 r):=
 fK Tryz.func307<|js Zh.enc x0<|cx [] 6 Zhv
abbrev Zby (x0:List Zh) (r:List Zh):Y:=(303,[.own 47 (x0.map Zh.enc),.fn 304 []],.own 47 (r.map Zh.enc),un 2)
theorem Zhs {x0 r}:∀{m v0 v1 v2},Qz x0 m v0 v1 v2=some r->CS (Zby x0 r) Tryz.f303 [1,1,1,0,1,0] [(0,sq 1 (v0.map Zh.enc).length),(1,.fn 304 []),(5,il v1),(6,il v2)] [rx 1 47 (v0.map Zh.enc)]:=by
 intro m
 induction m with
 | zero=>intro v0 v1 v2 h;cases h
 | succ m ih=>exactλ{v0} {v1} {v2}=>st<|js Zh.enc v0<|it (bd Zh.enc<|br Z7n<|it (bn λCV=>bn λ{y0} K7=>jw (xp Zh.enc CV K7)<|jp (.num (y0.map Zh.enc).length 0 0 [])<|jo (Jx Zh.enc K7)<|cx (Az 1 1) 18 ih)<|jn Zh.enc v0<|cx (Az 1 1) 16 ih)<|jp (.num (v1:Int).toNat ((v0.length:Int):Int).toNat (((v0.length:Int):Int).toNat - (v1:Int).toNat) [])<|jk 1<|bn λBT=>bn λ{y1} Cz=>jp (.app (y1.map Zh.enc) true [] 0)<|jp (.num (0:Int).toNat (v1:Int).toNat ((v1:Int).toNat - (0:Int).toNat) [])<|jk 1<|bn λ{s1} C5=>jp (.mk 0 (s1.map Zh.enc))<|je Zh.enc v0<|jo (Gl BT).1<|jo (JE Zh.enc v0)<|jo (Gm Zh.enc BT)<|jo (D3 8 Zh.AE v0)<|jo (Eq.refl (((v0.length:Int):Int).toNat - (v1:Int).toNat))<|jo (zE Zh.enc Cz)<|jo (zF Zh.enc Cz)<|jo (zG Zh.enc Cz)<|jo (Eq.refl 0)<|jo (Gl C5).2<|jo (Gm Zh.enc C5)<|jo (D3 8 Zh.AE y1)<|jo (Eq.refl ((v1:Int).toNat - (0:Int).toNat))<|jo (kC Zh.enc C5)<|jo (Hv Zh.enc C5)<|rt
theorem Zj2 {x0 r}  : W0 x0=some r->Zq Tryz.prog Mo (Zby x0 r):=
 fK Tryz.func303<|jk 1<|je Zh.enc x0<|br Zk1<|it (jk 1<|je Zh.enc x0<|rt)<|jn Zh.enc x0<|cx (fz 1 0 0) 13 Zhs
abbrev Yvo (x0:Za) (r:List Zh):Y:=(292,[.rp true (Za.enc x0) 0],.own 47 (r.map Zh.enc),un 1)
theorem Yvr {x0 r}  : qQ x0=some r->Zq Tryz.prog Mo (Yvo x0 r):=
 fK Tryz.func292<|jk 1<|jo (show 2=([x0.addr,x0.Aa].map Zh.enc).length from rfl)<|br Zj2 λ{r0}=>jk 1<|je Zh.enc r0<|rt
abbrev Jg (x0:Za) (r:Bool):Y:=(261,[.rp true (Za.enc x0) 0],bl r,un 1)
theorem Zlt {x0 r} {AN:(List Int)->(List Zh)->Int->Int->Option Bool} (B4:∀{v0 v1 v2 v3},AN v0 v1 v2 v3=some r->CS (Jg x0 r) Tryz.f261 [1,1,0,1,0] [(0,.rp true (Za.enc x0) 0),(3,sq 1 (v0.map Zd).length),(18,sq 2 (v1.map Zh.enc).length),(19,il v2),(20,il v3)] [rx 1 3 (v0.map Zd),rx 2 47 (v1.map Zh.enc)]) {Ae v0 v1 v2 v3 v4}:Ji x0 AN Ae v0 v1 v2 v3 v4=some r->CS (Jg x0 r) Tryz.f261 [1,1,0,1,0,0,1,1,0,0,1,0,1] [(0,.rp true (Za.enc x0) 0),(3,sq 2 (v0.map Zd).length),(5,pt 1),(18,sq 3 (v1.map Zh.enc).length),(19,il v2),(20,il v3),(48,bl v4)] [bx 1 (Zh.enc Ae),rx 2 3 (v0.map Zd),rx 3 47 (v1.map Zh.enc)]:=
 st<|it rt<|bn λCc=>jw (xd Zd Cc)<|bn λ{y0} K7=>jw (xp Zd Cc K7)<|jp (.num (y0.map Zd).length 0 0 [])<|jo (Jx Zd K7)<|jn Zh.enc v1<|cx (fz 1 1 2++fz 2 1 3) 5 B4
theorem Zlr {x0 r} {v5}:Q7 x0 v5=some r->CS (Jg x0 r) Tryz.f261 [1,1,1,1,1,1,1,1,0,0,1,1,1,1,1] [(0,.rp true (Za.enc x0) 0),(9,pt 1),(179,bl v5)] [bx 1 (Zh.enc x0.Aa)]:=
 st<|it rt<|it (jk 7<|rt)<|jk 3<|it (jk 5<|it (jk 8<|rt)<|jk 8<|rt)<|jk 14<|rt
theorem Zwc {x0 r} {A1 v6}:cE x0 A1 v6=some r->CS (Jg x0 r) Tryz.f261 [1,1,1,1,1,1,1,1,0,0,1,1,1] [(0,.rp true (Za.enc x0) 0),(9,pt 1),(10,pt 2),(165,bl v6)] [bx 1 (Zh.enc x0.Aa),bx 2 (Zg.enc A1)]:=
 st<|it rt<|it (jk 2<|it (jk 9<|cx (Az 1 1) 3 Zlr)<|jk 9<|cx (Az 1 1) 3 Zlr)<|jk 4<|cx (Az 1 1) 3 Zlr
theorem Zmc {x0 r} {A1 v7}:Un x0 A1 v7=some r->CS (Jg x0 r) Tryz.f261 [1,1,1,1,1,1,1,1,0,0,1] [(0,.rp true (Za.enc x0) 0),(9,pt 1),(10,pt 2),(141,bl v7)] [bx 1 (Zh.enc x0.Aa),bx 2 (Zg.enc A1)]:=
 st<|it rt<|it (jk 8<|cx (Az 1 2) 3 Zwc)<|jk 8<|cx (Az 1 2) 3 Zwc
theorem Q8 {x0 r} {v8}:Xk x0 v8=some r->CS (Jg x0 r) Tryz.f261 [1,1,1,1,0,1,1] [(0,.rp true (Za.enc x0) 0),(122,bl v8)] []:=
 st<|it rt<|it rt<|bb Zg.enc<|it (jk 15<|cx (fz 1 2 4096++fz 2 4 8192) 15 Zmc)<|jk 8<|br Xd<|jk 2<|it (jk 4<|cx (fz 1 2 4096++fz 2 4 8192) 15 Zmc)<|jk 2<|br Xd<|jk 2<|cx (fz 1 2 4096++fz 2 4 8192) 15 Zmc
theorem Z8y {x0 r}:∀{m v0 v9},cF x0 m v0 v9=some r->CS (Jg x0 r) Tryz.f261 [1,1,1,0,1,0] [(0,.rp true (Za.enc x0) 0),(3,sq 1 (v0.map Zd).length),(60,.tr (x0.m.map Zg.enc)),(61,il (x0.m.length:Int)),(62,il v9)] [rx 1 3 (v0.map Zd)]:=by
 intro m
 induction m with
 | zero=>intro v0 v9 h;cases h
 | succ m ih=>exactλ{v0} {v9}=>st<|it (bb Zg.enc<|bd Zd<|it rt<|jn Zd v0<|cx (Az 1 1) 16 ih)<|it (jk 8<|bb Zg.enc<|jk 5<|it (jk 22<|cx [] 14 Q8)<|jk 5<|it (jk 16<|cx [] 14 Q8)<|jk 5<|it (jk 10<|cx [] 14 Q8)<|jk 4<|it (jk 5<|cx [] 14 Q8)<|jk 3<|it (jk 5<|cx [] 14 Q8)<|jk 5<|cx [] 14 Q8)<|jk 23<|it (jk 5<|cx [] 14 Q8)<|jk 5<|cx [] 14 Q8
theorem Z9p {x0 r}:∀{m v0 v1 v2 v3},qR x0 m v0 v1 v2 v3=some r->CS (Jg x0 r) Tryz.f261 [1,1,0,1,0] [(0,.rp true (Za.enc x0) 0),(3,sq 1 (v0.map Zd).length),(18,sq 2 (v1.map Zh.enc).length),(19,il v2),(20,il v3)] [rx 1 3 (v0.map Zd),rx 2 47 (v1.map Zh.enc)]:=by
 intro m
 induction m with
 | zero=>intro v0 v1 v2 v3 h;cases h
 | succ m ih=>exactλ{v0} {v1} {v2} {v3}=>st<|it (bd Zh.enc<|br Sa<|it (jk 14<|jn Zd v0<|jn Zh.enc v1<|cx (fz 1 3 2048++fz 2 1 1++fz 3 1 2) 13 (Zlt ih))<|jk 2<|br Xd<|jk 2<|it (jk 9<|jn Zd v0<|jn Zh.enc v1<|cx (fz 1 3 2048++fz 2 1 1++fz 3 1 2) 13 (Zlt ih))<|jk 6<|bb Zd<|jk 3<|jn Zd v0<|jn Zh.enc v1<|cx (fz 1 3 2048++fz 2 1 1++fz 3 1 2) 13 (Zlt ih))<|js Zg.enc x0.m<|jn Zd v0<|cx (Az 1 1) 13 Z8y
theorem Z2z {x0 r}  : Uo x0=some r->Zq Tryz.prog Mo (Jg x0 r):=
 fK Tryz.func261<|js Zg.enc x0.m<|bn λ{m0} Dn=>jp (.mk ((x0.m.length:Int):Int).toNat (m0.map Zd))<|jo (Lr Dn)<|jo (Lr Dn)<|jo (YV Dn)<|jo (YW Zd Dn)<|br Yvr λ{r4}=>js Zh.enc r4<|jn Zd m0<|jn Zh.enc r4<|cx (fz 1 2 5120++fz 2 3 1024) 8 Z9p
abbrev Z68 (x0:Za) (r:Bool):Y:=(262,[.rp true (Za.enc x0) 0],bl r,un 1)
theorem Ycl {x0 r}:∀{m v0},Zqc x0 m v0=some r->CS (Z68 x0 r) Tryz.f262 [1,0,1,0] [(0,.rp true (Za.enc x0) 0),(8,.tr (x0.m.map Zg.enc)),(9,il (x0.m.length:Int)),(10,il v0)] []:=by
 intro m
 induction m with
 | zero=>intro v0 h;cases h
 | succ m ih=>exact st<|it (bb Zg.enc<|it (jk 1<|br Ybi<|jk 1<|it (jk 6<|it rt<|cx [] 16 ih)<|jk 7<|cx [] 16 ih)<|jk 10<|cx [] 16 ih)<|it rt<|br Sa<|it (jk 8<|bb Zg.enc<|jk 2<|br Ybi<|jk 1<|it (jk 8<|bb Zd<|jk 3<|it (jk 9<|br Xd<|jk 1<|rt)<|jk 10<|rt)<|jk 22<|rt)<|jk 34<|rt
theorem Z6y {x0 r}  : Up x0=some r->Zq Tryz.prog Mo (Z68 x0 r):=
 fK Tryz.func262<|js Zg.enc x0.m<|cx [] 6 Ycl
abbrev Z2i (x0:Za) (r:Bool):Y:=(263,[.rp true (Za.enc x0) 0],bl r,un 1)
theorem Z9z {x0 r}:∀{m v0 v1},qU x0 m v0 v1=some r->CS (Z2i x0 r) Tryz.f263 [1,1,0,1,0] [(0,.rp true (Za.enc x0) 0),(3,il v0),(9,.tr (x0.log.map Zs.enc)),(10,il (x0.log.length:Int)),(11,il v1)] []:=by
 intro m
 induction m with
 | zero=>intro v0 v1 h;cases h
 | succ m ih=>exact st<|it (bb Zs.enc<|it (jk 41<|rt)<|jk 7<|it (jk 33<|rt)<|jk 6<|br Sa<|jk 2<|it (jk 24<|rt)<|jk 4<|br rM<|jk 2<|it (jk 17<|rt)<|jk 3<|it (jk 13<|rt)<|jk 4<|br RZ<|jk 2<|it (jk 6<|rt)<|jk 3<|it (jk 5<|it rt<|cx [] 18 ih)<|jk 6<|cx [] 18 ih)<|rt
theorem Z1v {x0 r}  : Uq x0=some r->Zq Tryz.prog Mo (Z2i x0 r):=
 fK Tryz.func263<|js Zs.enc x0.log<|cx [] 8 Z9z
abbrev Y50 (x0:Za) (r:Bool):Y:=(215,[.agg (Za.enc x0)],bl r,un 1)
theorem Y4t {x0 r}  : Ur x0=some r->Zq Tryz.prog Mo (Y50 x0 r):=
 fK Tryz.func215<|br U0<|it (jk 2<|br Xd<|jk 1<|it (br Yd3<|jk 1<|it (jk 4<|br Ydz<|jk 1<|it (jk 3<|it (jk 10<|br Z6q<|jk 1<|it (jk 4<|br Xd<|jk 1<|it (br Z2z<|jk 1<|it (br Z6y<|jk 1<|it (br Z1v<|jk 1<|rt)<|jk 1<|rt)<|jk 3<|rt)<|jk 5<|rt)<|jk 11<|rt)<|jk 4<|br Sa<|jk 3<|it (jk 2<|br Z6q<|jk 1<|it (jk 4<|br Xd<|jk 1<|it (br Z2z<|jk 1<|it (br Z6y<|jk 1<|it (br Z1v<|jk 1<|rt)<|jk 1<|rt)<|jk 3<|rt)<|jk 5<|rt)<|jk 11<|rt)<|jk 15<|rt)<|jk 21<|rt)<|jk 27<|rt)<|jk 29<|rt)<|jk 33<|rt
abbrev Ybm (x0:Zb) (r:Int):Y:=(216,[.agg (Zb.enc x0)],il r,un 1)
theorem Yij {x0 r}:∀{m v0 v1},qV x0 m v0 v1=some r->CS (Ybm x0 r) Tryz.f216 [1,1,0,1,0] [(3,il v0),(7,.tr (x0.Al.map Zo.enc)),(8,il (x0.Al.length:Int)),(9,il v1)] []:=by
 intro m
 induction m with
 | zero=>intro v0 v1 h;cases h
 | succ m ih=>exact st<|it (bb Zo.enc<|cx [] 13 ih)<|rt
theorem Ysh {x0 r}  : qW x0=some r->Zq Tryz.prog Mo (Ybm x0 r):=
 fK Tryz.func216<|js Zo.enc x0.Al<|cx [] 8 Yij
abbrev Yix (x0:Zg) (r:Bool):Y:=(218,[.agg (Zg.enc x0)],bl r,un 1)
theorem Yiw {x0 r}  : cG x0=some r->Zq Tryz.prog Mo (Yix x0 r):=
 fK Tryz.func218<|js Zj.enc x0.queue<|rt
abbrev Zcd (x0:List Zg) (r:Int):Y:=(264,[.tr (x0.map Zg.enc),.fn 218 []],il r,un 2)
theorem Zhx {x0 r}:∀{m v0},Wm x0 m v0=some r->CS (Zcd x0 r) Tryz.f264 [1,0,1,0] [(0,.tr (x0.map Zg.enc)),(1,.fn 218 []),(7,il (x0.length:Int)),(8,il v0)] []:=by
 intro m
 induction m with
 | zero=>intro v0 h;cases h
 | succ m ih=>exact st<|it (bb Zg.enc<|br Yiw<|it rt<|cx [] 16 ih)<|rt
theorem Zkl {x0 r}  : Kr x0=some r->Zq Tryz.prog Mo (Zcd x0 r):=
 fK Tryz.func264<|js Zg.enc x0<|cx [] 6 Zhx
abbrev Zii (x0:List Zg) (r:Bool):Y:=(217,[.tr (x0.map Zg.enc),.fn 218 []],bl r,un 2)
theorem Zim {x0 r}  : Q9 x0=some r->Zq Tryz.prog Mo (Zii x0 r):=
 fK Tryz.func217<|br Zkl<|rt
abbrev Ynb (x0:Za) (r:Bool):Y:=(163,[.rp true (Za.enc x0) 0],bl r,un 1)
theorem Z7e {x0 r}  : cH x0=some r->Zq Tryz.prog Mo (Ynb x0 r):=
 fK Tryz.func163<|br Zim<|rt
abbrev Yaa (x0:Za) (x1:Zb) (r:Za×Int):Y:=(162,[.agg (Za.enc x0),.agg (Zb.enc x1)],.AZ [.agg (Za.ow r.1),il r.2],un 2)
theorem Z7q {x0 x1 r} {Ae}:cI x0 x1 Ae=some r->CS (Yaa x0 x1 r) Tryz.f162 [1,1,1,1,1] [(2,pt 1),(4,pt 2),(6,pt 11)] ([bx 1 (Za.enc x0)]++Za.bk Za.z0 3++[bx 2 (Za.rl Za.z0 3)]++Za.bk Ae 12++[bx 11 (Za.rl Ae 12)]):=
 st<|jk 8<|jw (Za.so Ae)<|br Yjf λ{r0}=>jk 8<|jw (Za.so r0)<|rt
theorem Ynm {x0 x1 r}:∀{m A1 v0},RU x0 x1 m A1 v0=some r->CS (Yaa x0 x1 r) Tryz.f162 [1,1,1,1,0,0] [(2,pt 1),(3,pt 2),(4,pt 3),(6,pt 12),(7,il v0)] ([bx 1 (Za.enc x0),bx 2 (Zb.enc x1)]++Za.bk Za.z0 4++[bx 3 (Za.rl Za.z0 4)]++Za.bk A1 13++[bx 12 (Za.rl A1 13)]):=by
 intro m
 induction m with
 | zero=>intro A1 v0 h;cases h
 | succ m ih=>exactλ{A1} {v0}=>st<|it (jk 8<|jw (Za.so A1)<|br Z7e<|jk 2<|it (jk 15<|jw (Za.so A1)<|br Z1q λ{r2}=>jw (Za.sc Za.z0)<|jw (Za.sc r2.2)<|cx (Az 1 12++Za.ff 13 3 1536) 9 ih)<|jk 6<|it (jk 8<|jw (Za.so A1)<|br Z1q λ{r2}=>jw (Za.sc Za.z0)<|jw (Za.sc r2.2)<|cx (Az 1 12++Za.ff 13 3 1536) 9 ih)<|jw (Za.sc Za.z0)<|jw (Za.sc A1)<|cx (Az 1 1++fz 2 1 3++fz 3 1 4++fz 4 1 5++fz 5 1 6++fz 6 1 7++fz 7 1 8++fz 8 1 9++fz 9 1 10++fz 10 1 11++fz 11 1 12++fz 12 1 13++fz 13 1 14++fz 14 1 15++fz 15 1 16++fz 16 1 17++fz 17 1 18++fz 18 1 19++fz 19 1 20) 9 Z7q)<|jk 5<|jw (Za.sc Za.z0)<|jw (Za.sc A1)<|cx (Az 1 1++fz 2 1 3++fz 3 1 4++fz 4 1 5++fz 5 1 6++fz 6 1 7++fz 7 1 8++fz 8 1 9++fz 9 1 10++fz 10 1 11++fz 11 1 12++fz 12 1 13++fz 13 1 14++fz 14 1 15++fz 15 1 16++fz 16 1 17++fz 17 1 18++fz 18 1 19++fz 19 1 20) 9 Z7q
theorem Y1q {x0 x1 r}  : qX x0 x1=some r->Zq Tryz.prog Mo (Yaa x0 x1 r):=
 fK Tryz.func162<|br Yjf λ{r3}=>br Y4t<|it (jk 8<|jw (Za.so r3)<|rt)<|br Ysh<|jw (Za.sc r3)<|cx (fz 1 1 0++fz 2 1 1024++fz 3 1 2048++fz 12 2 2048++Za.ff 13 2 1024) 13 Ynm
abbrev Ymh (x0:List Zs) (r:Zf×Int):Y:=(164,[.tr (x0.map Zs.enc)],.AZ [.agg (Zf.ow r.1),il r.2],un 1)
theorem Ym6 {x0 r}:∀{m Ae v0},cK x0 m Ae v0=some r->CS (Ymh x0 r) Tryz.f164 [1,1,0,1,0] [(2,pt 1),(4,pt 5),(11,.tr (x0.map Zs.enc)),(12,il (x0.length:Int)),(13,il v0)] (Zf.bk Zf.z0 2++[bx 1 (Zf.rl Zf.z0 2)]++Zf.bk Ae 6++[bx 5 (Zf.rl Ae 6)]):=by
 intro m
 induction m with
 | zero=>intro Ae v0 h;cases h
 | succ m ih=>exactλ{Ae} {v0}=>st<|it (bb Zs.enc<|it (jw (Zf.sc Zf.z0)<|jw (Zf.sc Ae)<|cx (Az 1 8) 18 ih)<|jk 3<|jw (Zf.so Ae)<|br Yf3 λ{r0}=>it (jk 8<|jw (Zf.so Ae)<|rt)<|jk 4<|it (jk 3<|jw (Zf.so Ae)<|rt)<|jw (Zf.sc Zf.z0)<|jw (Zf.sc r0.1)<|cx (Az 1 5++Zf.ff 6 5 9216) 25 ih)<|jk 3<|jw (Zf.so Ae)<|rt
theorem Y2r {x0 r}  : qY x0=some r->Zq Tryz.prog Mo (Ymh x0 r):=
 fK Tryz.func164<|br Yca λ{r1}=>js Zs.enc x0<|jw (Zf.sc r1)<|cx (fz 1 1 0++fz 5 2 1024++Zf.ff 6 2 0) 8 Ym6
abbrev Ytg (x0:Zs) (r:ByteArray):Y:=(166,[.agg (Zs.enc x0)],ss r,un 1)
theorem Ysw {x0 r}  : qZ x0=some r->Zq Tryz.prog Mo (Ytg x0 r):=
 fK Tryz.func166<|br Hx λ{r0}=>br Hx λ{r1}=>br Yar λ{r2}=>br Hx λ{r3}=>br Hx λ{r4}=>br Yed λ{r5}=>jk 1<|jo (show 6=([r0,r1,r2,r3,r4,r5].map Zv).length from rfl)<|br OD<|rt
abbrev Yq7 (As:Zi) (Aq:Zb) (AF:Za) (x1:ByteArray) (r:ByteArray×Z1):Y:=(105,[.agg [.own 83 (As.Ab.map Ze.enc),il As.Aw,il As.Au,il As.Ao,il As.Ar,il As.Am,.own 60 (Aq.Al.map Zo.enc),.own 3 (Aq.waits.map Zd),.own 3 (Aq.A4.map Zd),.CL (Za.ow AF)],ss x1],ss r.1,[.agg [.own 83 (r.2.Ad.Ab.map Ze.enc),il r.2.Ad.Aw,il r.2.Ad.Au,il r.2.Ad.Ao,il r.2.Ad.Ar,il r.2.Ad.Am,.own 60 (r.2.script.Al.map Zo.enc),.own 3 (r.2.script.waits.map Zd),.own 3 (r.2.script.A4.map Zd),Za.oE r.2.DO],.undef])
theorem Yqt {As Aq AF x1 r}  : q6 As Aq AF x1=some r->Zq Tryz.prog Mo (Yq7 As Aq AF x1 r):=
 fK Tryz.func105<|it (it (jk 12<|je Ze.enc As.Ab<|jw (Zb.so Aq)<|jw (Za.so AF)<|rt)<|jk 11<|jw (Za.so AF)<|jw (Zb.so Aq)<|br Z1q λ{r0}=>br Yu8<|jk 12<|je Ze.enc As.Ab<|jw (Zb.so Aq)<|jw (Za.so r0.2)<|rt)<|it (jk 11<|jw (Za.so AF)<|jw (Zb.so Aq)<|br Y1q λ{r2}=>br Hx<|jk 12<|je Ze.enc As.Ab<|jw (Zb.so Aq)<|jw (Za.so r2.1)<|rt)<|it (jk 8<|jw (Za.so AF)<|br Z7e<|it (jk 12<|je Ze.enc As.Ab<|jw (Zb.so Aq)<|jw (Za.so AF)<|rt)<|jk 12<|je Ze.enc As.Ab<|jw (Zb.so Aq)<|jw (Za.so AF)<|rt)<|it (jk 1<|je Zs.enc AF.log<|br Y2r<|br U6<|jk 12<|je Ze.enc As.Ab<|jw (Zb.so Aq)<|jw (Za.so AF)<|rt)<|js Zs.enc AF.log<|it (jk 12<|je Ze.enc As.Ab<|jw (Zb.so Aq)<|jw (Za.so AF)<|rt)<|bd Zs.enc<|br Ysw<|jl<|bo Xx<|br Hx<|jl<|jk 12<|bo Xx<|je Ze.enc As.Ab<|jw (Zb.so Aq)<|jw (Za.so AF)<|rt
abbrev Z4b (As:Zi) (Aq:Zb) (AF:Za) (x1:ByteArray) (r:ByteArray×Z1):Y:=(52,[.agg [.own 83 (As.Ab.map Ze.enc),il As.Aw,il As.Au,il As.Ao,il As.Ar,il As.Am,.own 60 (Aq.Al.map Zo.enc),.own 3 (Aq.waits.map Zd),.own 3 (Aq.A4.map Zd),.CL (Za.ow AF)],ss x1],ss r.1,[.agg [.own 83 (r.2.Ad.Ab.map Ze.enc),il r.2.Ad.Aw,il r.2.Ad.Au,il r.2.Ad.Ao,il r.2.Ad.Ar,il r.2.Ad.Am,.own 60 (r.2.script.Al.map Zo.enc),.own 3 (r.2.script.waits.map Zd),.own 3 (r.2.script.A4.map Zd),Za.oE r.2.DO],.undef])
theorem dC {As Aq AF x1 r} {v0}:Jy As Aq AF x1 v0=some r->CS (Z4b As Aq AF x1 r) Tryz.f52 [1,0,1,0,1,1,1,1,1] [(0,.ptr (0,63) 0 0),(1,ss x1),(34,bl v0)] ([rx 1 83 (As.Ab.map Ze.enc),rx 2 60 (Aq.Al.map Zo.enc),rx 3 3 (Aq.waits.map Zd),rx 4 3 (Aq.A4.map Zd),((0,63),⟨true,true,true,0,[[sq 1 (As.Ab.map Ze.enc).length,il As.Aw,il As.Au,il As.Ao,il As.Ar,il As.Am,sq 2 (Aq.Al.map Zo.enc).length,sq 3 (Aq.waits.map Zd).length,sq 4 (Aq.A4.map Zd).length,pt 5]]⟩)]++Za.oB 5 (some AF)):=
 st<|it (jk 13<|je Ze.enc As.Ab<|jw (Zb.so Aq)<|jw (Za.so AF)<|bn λ{r0} NS=>jr (Yqt NS)<|match r0,NS with|(z0,⟨z1,z2,none⟩),NS=>jk 4<|je Ze.enc z1.Ab<|jw (Zb.so z2)<|rt|(z0,⟨z1,z2,some z3⟩),NS=>jk 12<|je Ze.enc z1.Ab<|jw (Zb.so z2)<|jw (Za.so z3)<|rt)<|jk 12<|je Ze.enc As.Ab<|jw (Zb.so Aq)<|jw (Za.so AF)<|rt
theorem Ylw {As Aq AF x1 r}  : cL As Aq AF x1=some r->Zq Tryz.prog Mo (Z4b As Aq AF x1 r):=
 fK Tryz.func52<|it (jk 1<|je Ze.enc As.Ab<|br Yjn λ{r1}=>it (jk 12<|je Ze.enc As.Ab<|jw (Zb.so Aq)<|jw (Za.so AF)<|rt)<|jk 12<|je Ze.enc As.Ab<|jw (Zb.so Aq)<|jw (Za.so r1.1)<|rt)<|it (jk 1<|je Ze.enc As.Ab<|br Z22<|it (jk 12<|je Ze.enc As.Ab<|jw (Zb.so Aq)<|jw (Za.so AF)<|rt)<|jk 12<|je Ze.enc As.Ab<|jw (Zb.so Aq)<|jw (Za.so AF)<|rt)<|it (jn Ze.enc As.Ab<|jp (.num (Aq.Al.map Zo.enc).length 0 0 [])<|jp (.num (Aq.waits.map Zd).length 0 0 [])<|jp (.num (Aq.A4.map Zd).length 0 0 [])<|jw (Zb.so Aq)<|jw (Za.sc AF)<|cx (fz 1 0 0++fz 2 0 6++fz 3 0 7++fz 4 0 8++fz 5 0 9++fz 6 0 10++fz 7 0 17++fz 8 0 20++fz 9 0 21++fz 10 0 41++fz 11 0 42++fz 12 0 44++fz 13 0 46) 17 dC)<|it (jn Ze.enc As.Ab<|jp (.num (Aq.Al.map Zo.enc).length 0 0 [])<|jp (.num (Aq.waits.map Zd).length 0 0 [])<|jp (.num (Aq.A4.map Zd).length 0 0 [])<|jw (Zb.so Aq)<|jw (Za.sc AF)<|cx (fz 1 0 0++fz 2 0 6++fz 3 0 7++fz 4 0 8++fz 5 0 9++fz 6 0 10++fz 7 0 17++fz 8 0 20++fz 9 0 21++fz 10 0 41++fz 11 0 42++fz 12 0 44++fz 13 0 46) 20 dC)<|it (jn Ze.enc As.Ab<|jp (.num (Aq.Al.map Zo.enc).length 0 0 [])<|jp (.num (Aq.waits.map Zd).length 0 0 [])<|jp (.num (Aq.A4.map Zd).length 0 0 [])<|jw (Zb.so Aq)<|jw (Za.sc AF)<|cx (fz 1 0 0++fz 2 0 6++fz 3 0 7++fz 4 0 8++fz 5 0 9++fz 6 0 10++fz 7 0 17++fz 8 0 20++fz 9 0 21++fz 10 0 41++fz 11 0 42++fz 12 0 44++fz 13 0 46) 23 dC)<|it (jn Ze.enc As.Ab<|jp (.num (Aq.Al.map Zo.enc).length 0 0 [])<|jp (.num (Aq.waits.map Zd).length 0 0 [])<|jp (.num (Aq.A4.map Zd).length 0 0 [])<|jw (Zb.so Aq)<|jw (Za.sc AF)<|cx (fz 1 0 0++fz 2 0 6++fz 3 0 7++fz 4 0 8++fz 5 0 9++fz 6 0 10++fz 7 0 17++fz 8 0 20++fz 9 0 21++fz 10 0 41++fz 11 0 42++fz 12 0 44++fz 13 0 46) 26 dC)<|jn Ze.enc As.Ab<|jp (.num (Aq.Al.map Zo.enc).length 0 0 [])<|jp (.num (Aq.waits.map Zd).length 0 0 [])<|jp (.num (Aq.A4.map Zd).length 0 0 [])<|jw (Zb.so Aq)<|jw (Za.sc AF)<|cx (fz 1 0 0++fz 2 0 6++fz 3 0 7++fz 4 0 8++fz 5 0 9++fz 6 0 10++fz 7 0 17++fz 8 0 20++fz 9 0 21++fz 10 0 41++fz 11 0 42++fz 12 0 44++fz 13 0 46) 26 dC
abbrev rV (x0:ByteArray) (r:ByteArray):Y:=(19,[ss x0],ss r,un 1)
theorem Yuv {x0 r}:∀{m Ae v0 v1 v2 v3},Jp x0 m Ae v0 v1 v2 v3=some r->CS (rV x0 r) Tryz.f19 [1,1,1,1,1,0,1,0] [(5,pt 1),(6,ss v0),(32,.tr (v1.map Zv)),(33,il v2),(34,il v3)] ([rx 2 83 (Ae.Ad.Ab.map Ze.enc),rx 3 60 (Ae.script.Al.map Zo.enc),rx 4 3 (Ae.script.waits.map Zd),rx 5 3 (Ae.script.A4.map Zd),bx 1 [sq 2 (Ae.Ad.Ab.map Ze.enc).length,il Ae.Ad.Aw,il Ae.Ad.Au,il Ae.Ad.Ao,il Ae.Ad.Ar,il Ae.Ad.Am,sq 3 (Ae.script.Al.map Zo.enc).length,sq 4 (Ae.script.waits.map Zd).length,sq 5 (Ae.script.A4.map Zd).length,Za.oV 6 Ae.DO]]++Za.oB 6 Ae.DO):=by
 intro m
 induction m with
 | zero=>intro Ae v0 v1 v2 v3 h;cases h
 | succ m ih=>exactλ{Ae} {v0} {v1} {v2} {v3}=>st<|match Ae with|⟨z0,z1,none⟩=>it (bb Zv<|it (jn Ze.enc z0.Ab<|jp (.num (z1.Al.map Zo.enc).length 0 0 [])<|jp (.num (z1.waits.map Zd).length 0 0 [])<|jp (.num (z1.A4.map Zd).length 0 0 [])<|jw (Zb.so z1)<|cx (Az 1 5) 18 ih)<|br Zzg<|it (jk 4<|je Ze.enc z0.Ab<|jw (Zb.so z1)<|bn λ{r1} E3=>jr (Yro E3)<|jl<|jl<|match r1,E3 with|(z2,⟨z3,z4,none⟩),E3=>bo Xx<|bo Xx<|jn Ze.enc z3.Ab<|jp (.num (z4.Al.map Zo.enc).length 0 0 [])<|jp (.num (z4.waits.map Zd).length 0 0 [])<|jp (.num (z4.A4.map Zd).length 0 0 [])<|jw (Zb.so z4)<|cx (Az 1 1++fz 2 6 3584++fz 3 6 3590++fz 4 6 3591++fz 5 6 3592) 21 ih|(z2,⟨z3,z4,some z5⟩),E3=>bo Xx<|bo Xx<|jn Ze.enc z3.Ab<|jp (.num (z4.Al.map Zo.enc).length 0 0 [])<|jp (.num (z4.waits.map Zd).length 0 0 [])<|jp (.num (z4.A4.map Zd).length 0 0 [])<|jw (Zb.so z4)<|jw (Za.sc z5)<|cx (Az 1 1++fz 2 6 3584++fz 3 6 3590++fz 4 6 3591++fz 5 6 3592++fz 6 6 3593++fz 7 6 3594++fz 8 6 3601++fz 9 6 3604++fz 10 6 3605++fz 11 6 3625++fz 12 6 3626++fz 13 6 3628++fz 14 6 3630) 21 ih)<|jk 4<|je Ze.enc z0.Ab<|jw (Zb.so z1)<|bn λ{r2} C6=>jr (Yn9 C6)<|jl<|jl<|match r2,C6 with|(z6,⟨z7,z8,none⟩),C6=>bo Xx<|bo Xx<|jn Ze.enc z7.Ab<|jp (.num (z8.Al.map Zo.enc).length 0 0 [])<|jp (.num (z8.waits.map Zd).length 0 0 [])<|jp (.num (z8.A4.map Zd).length 0 0 [])<|jw (Zb.so z8)<|cx (Az 1 1++fz 2 6 3584++fz 3 6 3590++fz 4 6 3591++fz 5 6 3592) 21 ih|(z6,⟨z7,z8,some z9⟩),C6=>bo Xx<|bo Xx<|jn Ze.enc z7.Ab<|jp (.num (z8.Al.map Zo.enc).length 0 0 [])<|jp (.num (z8.waits.map Zd).length 0 0 [])<|jp (.num (z8.A4.map Zd).length 0 0 [])<|jw (Zb.so z8)<|jw (Za.sc z9)<|cx (Az 1 1++fz 2 6 3584++fz 3 6 3590++fz 4 6 3591++fz 5 6 3592++fz 6 6 3593++fz 7 6 3594++fz 8 6 3601++fz 9 6 3604++fz 10 6 3605++fz 11 6 3625++fz 12 6 3626++fz 13 6 3628++fz 14 6 3630) 21 ih)<|rt|⟨z0,z1,some RV⟩=>it (bb Zv<|it (jn Ze.enc z0.Ab<|jp (.num (z1.Al.map Zo.enc).length 0 0 [])<|jp (.num (z1.waits.map Zd).length 0 0 [])<|jp (.num (z1.A4.map Zd).length 0 0 [])<|jw (Zb.so z1)<|jw (Za.sc RV)<|cx (Az 1 14) 18 ih)<|br Zzg<|it (jk 12<|je Ze.enc z0.Ab<|jw (Zb.so z1)<|jw (Za.so RV)<|bn λ{r1} E3=>jr (Ynr E3)<|jl<|jl<|match r1,E3 with|(z2,⟨z3,z4,none⟩),E3=>bo Xx<|bo Xx<|jn Ze.enc z3.Ab<|jp (.num (z4.Al.map Zo.enc).length 0 0 [])<|jp (.num (z4.waits.map Zd).length 0 0 [])<|jp (.num (z4.A4.map Zd).length 0 0 [])<|jw (Zb.so z4)<|cx (Az 1 1++fz 2 6 3584++fz 3 6 3590++fz 4 6 3591++fz 5 6 3592) 21 ih|(z2,⟨z3,z4,some z5⟩),E3=>bo Xx<|bo Xx<|jn Ze.enc z3.Ab<|jp (.num (z4.Al.map Zo.enc).length 0 0 [])<|jp (.num (z4.waits.map Zd).length 0 0 [])<|jp (.num (z4.A4.map Zd).length 0 0 [])<|jw (Zb.so z4)<|jw (Za.sc z5)<|cx (Az 1 1++fz 2 6 3584++fz 3 6 3590++fz 4 6 3591++fz 5 6 3592++fz 6 6 3593++fz 7 6 3594++fz 8 6 3601++fz 9 6 3604++fz 10 6 3605++fz 11 6 3625++fz 12 6 3626++fz 13 6 3628++fz 14 6 3630) 21 ih)<|jk 12<|je Ze.enc z0.Ab<|jw (Zb.so z1)<|jw (Za.so RV)<|bn λ{r2} C6=>jr (Ylw C6)<|jl<|jl<|match r2,C6 with|(z6,⟨z7,z8,none⟩),C6=>bo Xx<|bo Xx<|jn Ze.enc z7.Ab<|jp (.num (z8.Al.map Zo.enc).length 0 0 [])<|jp (.num (z8.waits.map Zd).length 0 0 [])<|jp (.num (z8.A4.map Zd).length 0 0 [])<|jw (Zb.so z8)<|cx (Az 1 1++fz 2 6 3584++fz 3 6 3590++fz 4 6 3591++fz 5 6 3592) 21 ih|(z6,⟨z7,z8,some z9⟩),C6=>bo Xx<|bo Xx<|jn Ze.enc z7.Ab<|jp (.num (z8.Al.map Zo.enc).length 0 0 [])<|jp (.num (z8.waits.map Zd).length 0 0 [])<|jp (.num (z8.A4.map Zd).length 0 0 [])<|jw (Zb.so z8)<|jw (Za.sc z9)<|cx (Az 1 1++fz 2 6 3584++fz 3 6 3590++fz 4 6 3591++fz 5 6 3592++fz 6 6 3593++fz 7 6 3594++fz 8 6 3601++fz 9 6 3604++fz 10 6 3605++fz 11 6 3625++fz 12 6 3626++fz 13 6 3628++fz 14 6 3630) 21 ih)<|rt
theorem Yci {x0 r} {v4 v5}:Z2u x0 v4 v5=some r->CS (rV x0 r) Tryz.f19 [1,1,1,0,1] [(3,.tr (v4.map Zv)),(29,bl v5)] []:=
 st<|it rt<|js Zv v4<|cx (fz 1 2 1024) 8 Yuv
theorem Ydb {x0 r} {v4}:RW x0 v4=some r->CS (rV x0 r) Tryz.f19 [1,1,1] [(0,ss x0),(3,.tr (v4.map Zv))] []:=
 st<|it (jk 3<|cx [] 3 Yci)<|jk 1<|js Zv v4<|jk 2<|cx [] 3 Yci
theorem Y8k {x0 r}  : cM x0=some r->Zq Tryz.prog Mo (rV x0 r):=
 fK Tryz.func19<|br Ut λ{r3}=>js Zv r3<|bb Zv<|it (bn λ{s0} BT=>jp (.num (0:Int).toNat ((Xf (r3.length:Int) 1):Int).toNat 0 (s0.map Zv))<|jo (Eq.refl 0)<|jo (Gl BT).2<|jo (Gm Zv BT)<|jo (D3 1 FN r3)<|jo (Hv Zv BT)<|cx [] 11 Ydb)<|cx [] 11 Ydb
abbrev Xbt (x0:List Int) (r:Bool):Y:=(12,[.tr (x0.map On)],bl r,un 1)
theorem Xb6 {x0 r}  : Ym3 x0=some r->Zq Tryz.prog Mo (Xbt x0 r):=
 fK Tryz.func12<|js On x0<|rt
abbrev Sb (x0:List Int) (x1:Int) (r:Int):Y:=(14,[.tr (x0.map On),il x1],il r,un 2)
theorem rX {x0 x1 r}  : MS x0 x1=some r->Zq Tryz.prog Mo (Sb x0 x1 r):=
 fK Tryz.func14<|js On x0<|it (bb On<|rt)<|js On x0<|jk 1<|rt
abbrev Ya8 (x0:List Zs) (x1:Int) (r:Int):Y:=(18,[.tr (x0.map Zs.enc),il x1],il r,un 2)
theorem Yft {x0 x1 r}:∀{m v0 v1},Zr4 x0 x1 m v0 v1=some r->CS (Ya8 x0 x1 r) Tryz.f18 [1,1,0,1,0] [(0,.tr (x0.map Zs.enc)),(1,il x1),(5,il v0),(6,il v1)] []:=by
 intro m
 induction m with
 | zero=>intro v0 v1 h;cases h
 | succ m ih=>exact st<|js Zs.enc x0<|it (bn λCc=>jb Zs.enc Cc<|it (jb Zs.enc Cc<|cx [] 14 ih)<|cx [] 14 ih)<|rt
theorem Yqr {x0 x1 r}  : cN x0 x1=some r->Zq Tryz.prog Mo (Ya8 x0 x1 r):=
 fK Tryz.func18<|cx [] 8 Yft
abbrev Yk5 (x0:List Int) (r:Bool):Y:=(4,[.tr (x0.map On)],bl r,un 1)
theorem Ymf {x0 r}  : Zwi x0=some r->Zq Tryz.prog Mo (Yk5 x0 r):=
 fK Tryz.func4<|br Xb6<|it rt<|br rX<|br Hw<|br rX<|jk 1<|br Hw<|jl<|jl<|jl<|jl<|jl<|jl<|bo Xx<|bo Xx<|bo Xx<|bo Xx<|bo Xx<|bo Xx<|br Yud λ{r5}=>br rX λ{r6}=>jk 1<|br rX λ{r7}=>jk 1<|je Ze.enc r5.1.Ab<|br Y2d λ{r8}=>jk 12<|jo (show 1=([r7].map Zd).length from rfl)<|jw (Za.so r8.1)<|jo (show 2=([(Zo.mk 0 0 (Zj.mk true (Qo 4 (K0 r6 48)) 2 0 false [r7])),(Zo.mk 0 0 (Zj.mk false (Qo 4 (K0 r6 48)) 2 0 false []))].map Zo.enc).length from rfl)<|jo (show 2=([1,0].map Zd).length from rfl)<|jo (show 3=([2,0,3].map Zd).length from rfl)<|br Y1i λ{r9}=>jk 1<|je Zs.enc r9.1.log<|br Yqr<|br Y8k<|br Hw<|jl<|jl<|bo Xx<|bo Xx<|br Hw<|jl<|jl<|jl<|jl<|jl<|jl<|bo Xx<|bo Xx<|bo Xx<|bo Xx<|bo Xx<|bo Xx<|rt
end Go.Proofs.YthdljdelfgofdaaGreatDoor.Ev
