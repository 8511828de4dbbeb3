/- A part of the proof of FnDeskWorks: see the text YthdljdelfgofdaaGreatDoorLawFnDeskWorks for what is proved and its conditions. Conditions here: those in each line. -/
import Derived.Test.YthdljdelfgofdaaGreatDoorA3
import Derived.Deep.DeepFit
import Derived.KernelRfl
import Derived.Shelf.LaysC
import Derived.Shelf.LaysM
import Derived.Shelf.Strconv.AtoiAll
import Derived.Shelf.Strconv.Itoa3
import Derived.Shelf.Strings.Cut
import Derived.Shelf.Strings.OnBuilder
import Derived.Shelf.Strings.Prefix
import Derived.Shelf.Strings.Search3
import Derived.Shelf.Strings.SplitShaped
import Derived.Test.YthdljdelfgofdaaGreatDoorProg
import Derived.WalkKit
set_option linter.unusedSimpArgs false
set_option linter.unusedVariables false
set_option linter.unusedSectionVars false
namespace Go.Proofs.YthdljdelfgofdaaGreatDoor.Ev
open Go Go.Proofs Go.RowKit
def Ze.enc (x:Ze):List V:=[.lit (.int .i64 x.weight),.lit (.bool x.prio),.lit (.int .i64 x.every),.lit (.int .i64 x.cap)]
theorem Ze.AE (x:Ze):(Ze.enc x).length=4:=rfl
theorem Ze.Ca (x:Ze):(Ze.enc x).all Ma=true:=rfl
def Zi.enc (x:Zi):List V:=[.tr (x.Ab.map Ze.enc),.lit (.int .i64 x.Aw),.lit (.int .i64 x.Au),.lit (.int .i64 x.Ao),.lit (.int .i64 x.Ar),.lit (.int .i64 x.Am)]
def Zj.enc (x:Zj):List V:=[.lit (.bool x.write),.lit (.int .i64 x.addr),.lit (.int .i64 x.size),.lit (.int .i64 x.Ay),.lit (.bool x.lock),.tr (x.Aa.map Zd)]
theorem Zj.AE (x:Zj):(Zj.enc x).length=6:=rfl
def Zo.enc (x:Zo):List V:=[.lit (.int .i64 x.at_),.lit (.int .i64 x.Ah),.lit (.bool x.Bm.write),.lit (.int .i64 x.Bm.addr),.lit (.int .i64 x.Bm.size),.lit (.int .i64 x.Bm.Ay),.lit (.bool x.Bm.lock),.tr (x.Bm.Aa.map Zd)]
theorem Zo.AE (x:Zo):(Zo.enc x).length=8:=rfl
def Zb.enc (x:Zb):List V:=[.tr (x.Al.map Zo.enc),.tr (x.waits.map Zd),.tr (x.A4.map Zd)]
def Ya.enc (x:Ya):List V:=[.lit (.int .i64 x.at_),.lit (.int .i64 x.Be)]
def Zh.enc (x:Zh):List V:=[.lit (.bool x.live),.lit (.int .i64 x.Ah),.lit (.int .i64 x.An),.lit (.bool x.first),.lit (.int .i64 x.B6),.lit (.int .i64 x.left),.lit (.int .i64 x.Ap),.lit (.bool x.second)]
theorem Zh.AE (x:Zh):(Zh.enc x).length=8:=rfl
def Zl.enc (x:Zl):List V:=[.tr (x.AH.map Zd),.lit (.int .i64 x.timer),.tr (x.A2.map Zd)]
def Zf.enc (x:Zf):List V:=[.tr (x.mem.map Zd),.tr (x.dev.AH.map Zd),.lit (.int .i64 x.dev.timer),.tr (x.dev.A2.map Zd)]
def Zg.enc (x:Zg):List V:=[.tr (x.queue.map Zj.enc),.lit (.int .i64 x.An),.lit (.int .i64 x.done),.lit (.int .i64 x.tries),.lit (.bool x.Ax),.lit (.bool x.broken)]
theorem Zg.AE (x:Zg):(Zg.enc x).length=6:=rfl
def Zk.enc (x:Zk):List V:=[.lit (.int .i64 x.tokens),.lit (.int .i64 x.count)]
theorem Zk.AE (x:Zk):(Zk.enc x).length=2:=rfl
theorem Zk.Ca (x:Zk):(Zk.enc x).all Ma=true:=rfl
def Zs.enc (x:Zs):List V:=[.lit (.int .i64 x.A3),.lit (.int .i64 x.Ah),.lit (.bool x.write),.lit (.int .i64 x.addr),.lit (.int .i64 x.size),.lit (.int .i64 x.value),.lit (.int .i64 x.Ap)]
theorem Zs.AE (x:Zs):(Zs.enc x).length=7:=rfl
theorem Zs.Ca (x:Zs):(Zs.enc x).all Ma=true:=rfl
def Za.enc (x:Za):List V:=[.tr (x.Ad.Ab.map Ze.enc),.lit (.int .i64 x.Ad.Aw),.lit (.int .i64 x.Ad.Au),.lit (.int .i64 x.Ad.Ao),.lit (.int .i64 x.Ad.Ar),.lit (.int .i64 x.Ad.Am),.lit (.int .i64 x.now),.tr (x.m.map Zg.enc),.lit (.int .i64 x.Bq.at_),.lit (.int .i64 x.Bq.Be),.tr (x.buckets.map Zk.enc),.tr (x.splits.map Zd),.lit (.int .i64 x.Af),.lit (.int .i64 x.held),.lit (.int .i64 x.last),.lit (.bool x.addr.live),.lit (.int .i64 x.addr.Ah),.lit (.int .i64 x.addr.An),.lit (.bool x.addr.first),.lit (.int .i64 x.addr.B6),.lit (.int .i64 x.addr.left),.lit (.int .i64 x.addr.Ap),.lit (.bool x.addr.second),.lit (.bool x.Aa.live),.lit (.int .i64 x.Aa.Ah),.lit (.int .i64 x.Aa.An),.lit (.bool x.Aa.first),.lit (.int .i64 x.Aa.B6),.lit (.int .i64 x.Aa.left),.lit (.int .i64 x.Aa.Ap),.lit (.bool x.Aa.second),.tr (x.model.mem.map Zd),.tr (x.model.dev.AH.map Zd),.lit (.int .i64 x.model.dev.timer),.tr (x.model.dev.A2.map Zd),.lit (.int .i64 x.At),.tr (x.log.map Zs.enc)]
def Zp.enc (x:Zp):List V:=[.lit (.int .i64 x.A3),.lit (.int .i64 x.addr),.lit (.int .i64 x.kind),.lit (.int .i64 x.Ah),.lit (.int .i64 x.Aa),.lit (.int .i64 x.from_),.lit (.bool x.ready),.lit (.int .i64 x.Ap),.lit (.int .i64 x.C0)]
def Za.ow (x:Za):List V:=[.own 83 (x.Ad.Ab.map Ze.enc),il x.Ad.Aw,il x.Ad.Au,il x.Ad.Ao,il x.Ad.Ar,il x.Ad.Am,il x.now,.own 90 (x.m.map Zg.enc),il x.Bq.at_,il x.Bq.Be,.own 92 (x.buckets.map Zk.enc),.own 3 (x.splits.map Zd),il x.Af,il x.held,il x.last,bl x.addr.live,il x.addr.Ah,il x.addr.An,bl x.addr.first,il x.addr.B6,il x.addr.left,il x.addr.Ap,bl x.addr.second,bl x.Aa.live,il x.Aa.Ah,il x.Aa.An,bl x.Aa.first,il x.Aa.B6,il x.Aa.left,il x.Aa.Ap,bl x.Aa.second,.own 3 (x.model.mem.map Zd),.own 3 (x.model.dev.AH.map Zd),il x.model.dev.timer,.own 3 (x.model.dev.A2.map Zd),il x.At,.own 102 (x.log.map Zs.enc)]
def Za.rl (x:Za) (n:Nat):List V:=[.sl (1,n) 0 (x.Ad.Ab.map Ze.enc).length,il x.Ad.Aw,il x.Ad.Au,il x.Ad.Ao,il x.Ad.Ar,il x.Ad.Am,il x.now,.sl (1,n+1) 0 (x.m.map Zg.enc).length,il x.Bq.at_,il x.Bq.Be,.sl (1,n+2) 0 (x.buckets.map Zk.enc).length,.sl (1,n+3) 0 (x.splits.map Zd).length,il x.Af,il x.held,il x.last,bl x.addr.live,il x.addr.Ah,il x.addr.An,bl x.addr.first,il x.addr.B6,il x.addr.left,il x.addr.Ap,bl x.addr.second,bl x.Aa.live,il x.Aa.Ah,il x.Aa.An,bl x.Aa.first,il x.Aa.B6,il x.Aa.left,il x.Aa.Ap,bl x.Aa.second,.sl (1,n+4) 0 (x.model.mem.map Zd).length,.sl (1,n+5) 0 (x.model.dev.AH.map Zd).length,il x.model.dev.timer,.sl (1,n+6) 0 (x.model.dev.A2.map Zd).length,il x.At,.sl (1,n+7) 0 (x.log.map Zs.enc).length]
def Za.bk (x:Za) (n:Nat):List (Id×Bc):=[((1,n),⟨false,true,true,83,(x.Ad.Ab.map Ze.enc)⟩),((1,n+1),⟨false,true,true,90,(x.m.map Zg.enc)⟩),((1,n+2),⟨false,true,true,92,(x.buckets.map Zk.enc)⟩),((1,n+3),⟨false,true,true,3,(x.splits.map Zd)⟩),((1,n+4),⟨false,true,true,3,(x.model.mem.map Zd)⟩),((1,n+5),⟨false,true,true,3,(x.model.dev.AH.map Zd)⟩),((1,n+6),⟨false,true,true,3,(x.model.dev.A2.map Zd)⟩),((1,n+7),⟨false,true,true,102,(x.log.map Zs.enc)⟩)]
def Za.ff (n e b:Nat):List (Id×Id):=[((1,n),(e,b)),((1,n+1),(e,b+7)),((1,n+2),(e,b+10)),((1,n+3),(e,b+11)),((1,n+4),(e,b+31)),((1,n+5),(e,b+32)),((1,n+6),(e,b+34)),((1,n+7),(e,b+36))]
def Za.nm (x:Za):List O:=[.num (x.Ad.Ab.map Ze.enc).length 0 0 [],.num (x.m.map Zg.enc).length 0 0 [],.num (x.buckets.map Zk.enc).length 0 0 [],.num (x.splits.map Zd).length 0 0 [],.num (x.model.mem.map Zd).length 0 0 [],.num (x.model.dev.AH.map Zd).length 0 0 [],.num (x.model.dev.A2.map Zd).length 0 0 [],.num (x.log.map Zs.enc).length 0 0 []]
theorem Za.so (x:Za) {q:List O} {p:Prop} (h:BH q p):BH q ((x.Ad.Ab.map Ze.enc).length=(x.Ad.Ab.map Ze.enc).length/\(x.m.map Zg.enc).length=(x.m.map Zg.enc).length/\(x.buckets.map Zk.enc).length=(x.buckets.map Zk.enc).length/\(x.splits.map Zd).length=(x.splits.map Zd).length/\(x.model.mem.map Zd).length=(x.model.mem.map Zd).length/\(x.model.dev.AH.map Zd).length=(x.model.dev.AH.map Zd).length/\(x.model.dev.A2.map Zd).length=(x.model.dev.A2.map Zd).length/\(x.log.map Zs.enc).length=(x.log.map Zs.enc).length/\p):=⟨rfl,rfl,rfl,rfl,rfl,rfl,rfl,rfl,h⟩
theorem Za.sc (x:Za) {q:List O} {p:Prop} (h:BH q p):BH (Za.nm x++q) ((x.Ad.Ab.map Ze.enc).length=(x.Ad.Ab.map Ze.enc).length/\(x.m.map Zg.enc).length=(x.m.map Zg.enc).length/\(x.buckets.map Zk.enc).length=(x.buckets.map Zk.enc).length/\(x.splits.map Zd).length=(x.splits.map Zd).length/\(x.model.mem.map Zd).length=(x.model.mem.map Zd).length/\(x.model.dev.AH.map Zd).length=(x.model.dev.AH.map Zd).length/\(x.model.dev.A2.map Zd).length=(x.model.dev.A2.map Zd).length/\(x.log.map Zs.enc).length=(x.log.map Zs.enc).length/\p):=⟨rfl,rfl,rfl,rfl,rfl,rfl,rfl,rfl,h⟩
def Zl.ow (x:Zl):List V:=[.own 3 (x.AH.map Zd),il x.timer,.own 3 (x.A2.map Zd)]
def Zl.rl (x:Zl) (n:Nat):List V:=[.sl (1,n) 0 (x.AH.map Zd).length,il x.timer,.sl (1,n+1) 0 (x.A2.map Zd).length]
def Zl.bk (x:Zl) (n:Nat):List (Id×Bc):=[((1,n),⟨false,true,true,3,(x.AH.map Zd)⟩),((1,n+1),⟨false,true,true,3,(x.A2.map Zd)⟩)]
def Zl.ff (n e b:Nat):List (Id×Id):=[((1,n),(e,b)),((1,n+1),(e,b+2))]
def Zl.nm (x:Zl):List O:=[.num (x.AH.map Zd).length 0 0 [],.num (x.A2.map Zd).length 0 0 []]
theorem Zl.so (x:Zl) {q:List O} {p:Prop} (h:BH q p):BH q ((x.AH.map Zd).length=(x.AH.map Zd).length/\(x.A2.map Zd).length=(x.A2.map Zd).length/\p):=⟨rfl,rfl,h⟩
theorem Zl.sc (x:Zl) {q:List O} {p:Prop} (h:BH q p):BH (Zl.nm x++q) ((x.AH.map Zd).length=(x.AH.map Zd).length/\(x.A2.map Zd).length=(x.A2.map Zd).length/\p):=⟨rfl,rfl,h⟩
def Zf.ow (x:Zf):List V:=[.own 3 (x.mem.map Zd),.own 3 (x.dev.AH.map Zd),il x.dev.timer,.own 3 (x.dev.A2.map Zd)]
def Zf.rl (x:Zf) (n:Nat):List V:=[.sl (1,n) 0 (x.mem.map Zd).length,.sl (1,n+1) 0 (x.dev.AH.map Zd).length,il x.dev.timer,.sl (1,n+2) 0 (x.dev.A2.map Zd).length]
def Zf.bk (x:Zf) (n:Nat):List (Id×Bc):=[((1,n),⟨false,true,true,3,(x.mem.map Zd)⟩),((1,n+1),⟨false,true,true,3,(x.dev.AH.map Zd)⟩),((1,n+2),⟨false,true,true,3,(x.dev.A2.map Zd)⟩)]
def Zf.ff (n e b:Nat):List (Id×Id):=[((1,n),(e,b)),((1,n+1),(e,b+1)),((1,n+2),(e,b+3))]
def Zf.nm (x:Zf):List O:=[.num (x.mem.map Zd).length 0 0 [],.num (x.dev.AH.map Zd).length 0 0 [],.num (x.dev.A2.map Zd).length 0 0 []]
theorem Zf.so (x:Zf) {q:List O} {p:Prop} (h:BH q p):BH q ((x.mem.map Zd).length=(x.mem.map Zd).length/\(x.dev.AH.map Zd).length=(x.dev.AH.map Zd).length/\(x.dev.A2.map Zd).length=(x.dev.A2.map Zd).length/\p):=⟨rfl,rfl,rfl,h⟩
theorem Zf.sc (x:Zf) {q:List O} {p:Prop} (h:BH q p):BH (Zf.nm x++q) ((x.mem.map Zd).length=(x.mem.map Zd).length/\(x.dev.AH.map Zd).length=(x.dev.AH.map Zd).length/\(x.dev.A2.map Zd).length=(x.dev.A2.map Zd).length/\p):=⟨rfl,rfl,rfl,h⟩
def Zb.ow (x:Zb):List V:=[.own 60 (x.Al.map Zo.enc),.own 3 (x.waits.map Zd),.own 3 (x.A4.map Zd)]
def Zb.rl (x:Zb) (n:Nat):List V:=[.sl (1,n) 0 (x.Al.map Zo.enc).length,.sl (1,n+1) 0 (x.waits.map Zd).length,.sl (1,n+2) 0 (x.A4.map Zd).length]
def Zb.bk (x:Zb) (n:Nat):List (Id×Bc):=[((1,n),⟨false,true,true,60,(x.Al.map Zo.enc)⟩),((1,n+1),⟨false,true,true,3,(x.waits.map Zd)⟩),((1,n+2),⟨false,true,true,3,(x.A4.map Zd)⟩)]
def Zb.nm (x:Zb):List O:=[.num (x.Al.map Zo.enc).length 0 0 [],.num (x.waits.map Zd).length 0 0 [],.num (x.A4.map Zd).length 0 0 []]
theorem Zb.so (x:Zb) {q:List O} {p:Prop} (h:BH q p):BH q ((x.Al.map Zo.enc).length=(x.Al.map Zo.enc).length/\(x.waits.map Zd).length=(x.waits.map Zd).length/\(x.A4.map Zd).length=(x.A4.map Zd).length/\p):=⟨rfl,rfl,rfl,h⟩
theorem Zb.sc (x:Zb) {q:List O} {p:Prop} (h:BH q p):BH (Zb.nm x++q) ((x.Al.map Zo.enc).length=(x.Al.map Zo.enc).length/\(x.waits.map Zd).length=(x.waits.map Zd).length/\(x.A4.map Zd).length=(x.A4.map Zd).length/\p):=⟨rfl,rfl,rfl,h⟩
def Az (n:Nat):Nat->List (Id×Id)
 | 0=>[]
 | m+1=>((1,n),(1,n))::Az (n+1) m
abbrev bx (n:Nat) (r:List V):Id×Bc:=((1,n),⟨true,true,true,0,[r]⟩)
abbrev pt (n:Nat):V:=.ptr (1,n) 0 0
abbrev sq (n l:Nat):V:=.sl (1,n) 0 l
abbrev un (n:Nat):List V:=List.replicate n .undef
def fz (a b c:Nat):List (Id×Id):=[((1,a),(b,c))]
abbrev rx (n t:Nat) (R:List (List V)):Id×Bc:=((1,n),⟨false,true,true,t,R⟩)
def Za.oE:Option Za->V
 | none=>.lit (.pointer none)
 | some b=>.CL (Za.ow b)
def Za.oV (k:Nat):Option Za->V
 | none=>.lit (.pointer none)
 | some _=>.ptr (1,k) 0 0
def Za.oB (k:Nat):Option Za->List (Id×Bc)
 | none=>[]
 | some b=>Za.bk b (k+1)++[bx k (Za.rl b (k+1))]
end Go.Proofs.YthdljdelfgofdaaGreatDoor.Ev
namespace Go.Proofs
open Go.Shelf Go.RowKit Go.Sort Go.Lib
def Tryz.Dm:Go.Shelf.Ren:=⟨λ|156=>31|165=>72|166=>73|169=>74|240=>126|241=>127|276=>184|277=>185|n=>n,λ|31=>65|9=>9|3=>3|4=>4|0=>0|20=>20|72=>128|76=>132|70=>126|37=>31|75=>131|127=>168|164=>201|5=>5|80=>134|n=>n,λ|n=>n⟩
theorem Tryz.GL:Go.Proofs.Lays.n156 Tryz.prog Tryz.Dm:={
 mixed:=by kernel_rfl
 f156:=Tryz.func31.trans (congrArg some (by kernel_rfl))
 f165:=Tryz.func72.trans (congrArg some (by kernel_rfl))
 f166:=Tryz.func73.trans (congrArg some (by kernel_rfl))
 f169:=Tryz.func74.trans (congrArg some (by kernel_rfl))
 f240:=Tryz.func126.trans (congrArg some (by kernel_rfl))
 f241:=Tryz.func127.trans (congrArg some (by kernel_rfl))
 f276:=Tryz.func184.trans (congrArg some (by kernel_rfl))
 f277:=Tryz.func185.trans (congrArg some (by kernel_rfl))
 t0:=Tryz.underlying0
 a0:=Tryz.isAgg0
 z0:=Tryz.sizeOf0
 v0:=Tryz.zeroValue0
 t3:=Tryz.underlying3
 a3:=Tryz.isAgg3
 z3:=Tryz.sizeOf3
 v3:=Tryz.zeroValue3
 t4:=Tryz.underlying4
 a4:=Tryz.isAgg4
 z4:=Tryz.sizeOf4
 v4:=Tryz.zeroValue4
 t9:=Tryz.underlying9
 a9:=Tryz.isAgg9
 z9:=Tryz.sizeOf9
 v9:=Tryz.zeroValue9
 t20:=Tryz.underlying20
 a20:=Tryz.isAgg20
 z20:=Tryz.sizeOf20
 v20:=Tryz.zeroValue20
 t31:=Tryz.underlying65
 a31:=Tryz.isAgg65
 z31:=Tryz.sizeOf65
 v31:=Tryz.zeroValue65
 t37:=Tryz.underlying31
 a37:=Tryz.isAgg31
 z37:=Tryz.sizeOf31
 v37:=Tryz.zeroValue31
 t70:=Tryz.underlying126
 a70:=Tryz.isAgg126
 z70:=Tryz.sizeOf126
 v70:=Tryz.zeroValue126
 t72:=Tryz.underlying128
 a72:=Tryz.isAgg128
 z72:=Tryz.sizeOf128
 v72:=Tryz.zeroValue128
 t75:=Tryz.underlying131
 a75:=Tryz.isAgg131
 z75:=Tryz.sizeOf131
 v75:=Tryz.zeroValue131
 t76:=Tryz.underlying132
 a76:=Tryz.isAgg132
 z76:=Tryz.sizeOf132
 v76:=Tryz.zeroValue132
 t127:=Tryz.underlying168
 a127:=Tryz.isAgg168
 z127:=Tryz.sizeOf168
 v127:=Tryz.zeroValue168
 t164:=Tryz.underlying201
 a164:=Tryz.isAgg201
 z164:=Tryz.sizeOf201
 v164:=Tryz.zeroValue201}
theorem Tryz.Cb:Builder.Extra Tryz.prog Tryz.Dm:={
 sizeBuilder:=by kernel_rfl
 liesBuilder:=by kernel_rfl
 t5:=Tryz.underlying5
 a5:=Tryz.isAgg5
 z5:=Tryz.sizeOf5
 v5:=Tryz.zeroValue5
 infoByte:=by kernel_rfl
 cellsByte:=by kernel_rfl
 sizeByte:=by kernel_rfl
 neB5:=by decide}
theorem Tryz.strings_Join_none (a:Option Addr) (c:Nat) (sep:ByteArray) (w:World):
  Calls Tryz.prog 31 #[.slice a 0 c,.string sep] w λe w'=>e=.returned (.string ⟨#[]⟩)/\w'=w:=Any.strings_Join_none Tryz.GL Tryz.Cb a c sep w
theorem Tryz.strings_Join (bk o c:Nat) (xs:List ByteArray) (sep:ByteArray) (w:World) (Fj:∀(j:Nat) x,xs[j]?=some x->w.cell? ⟨bk,o+j,none⟩=some (.string x)) (DN:bk < w.heap.size) (hN:xs.length<=140737488355328) (Fm:xs.length<=c) (Yo:(Lib.join (xs.map (·.data.toList)) sep.data.toList).length<=140737488355328):
  Calls Tryz.prog 31 #[.slice (some ⟨bk,o,none⟩) xs.length c,.string sep] w λe w'=>e=.returned (.string ⟨(Lib.join (xs.map (·.data.toList)) sep.data.toList).toArray⟩)/\Below w.heap.size w w':=Any.strings_Join Tryz.GL Tryz.Cb bk o c xs sep w Fj DN hN Fm Yo
def Tryz.E8:Go.Shelf.Ren:=⟨λ|171=>128|243=>186|246=>231|283=>272|284=>273|285=>274|286=>275|129=>296|317=>295|318=>297|319=>298|320=>299|337=>305|338=>306|n=>n,λ|3=>3|9=>9|2=>2|4=>4|171=>250|0=>0|53=>244|37=>31|5=>5|173=>253|212=>264|51=>228|20=>20|213=>265|46=>194|232=>272|233=>273|n=>n,λ|17=>5|18=>6|19=>7|n=>n⟩
theorem Tryz.JI:Go.Proofs.LaysM.n171 Tryz.prog Tryz.E8:={
 mixed:=by kernel_rfl
 f129:=Tryz.func296.trans (congrArg some (by kernel_rfl))
 f171:=Tryz.func128.trans (congrArg some (by kernel_rfl))
 f243:=Tryz.func186.trans (congrArg some (by kernel_rfl))
 f246:=Tryz.func231.trans (congrArg some (by kernel_rfl))
 f283:=Tryz.func272.trans (congrArg some (by kernel_rfl))
 f284:=Tryz.func273.trans (congrArg some (by kernel_rfl))
 f285:=Tryz.func274.trans (congrArg some (by kernel_rfl))
 f286:=Tryz.func275.trans (congrArg some (by kernel_rfl))
 f317:=Tryz.func295.trans (congrArg some (by kernel_rfl))
 f318:=Tryz.func297.trans (congrArg some (by kernel_rfl))
 f319:=Tryz.func298.trans (congrArg some (by kernel_rfl))
 f320:=Tryz.func299.trans (congrArg some (by kernel_rfl))
 f337:=Tryz.func305.trans (congrArg some (by kernel_rfl))
 f338:=Tryz.func306.trans (congrArg some (by kernel_rfl))
 t0:=Tryz.underlying0
 a0:=Tryz.isAgg0
 z0:=Tryz.sizeOf0
 v0:=Tryz.zeroValue0
 t2:=Tryz.underlying2
 a2:=Tryz.isAgg2
 z2:=Tryz.sizeOf2
 v2:=Tryz.zeroValue2
 t3:=Tryz.underlying3
 a3:=Tryz.isAgg3
 z3:=Tryz.sizeOf3
 v3:=Tryz.zeroValue3
 t4:=Tryz.underlying4
 a4:=Tryz.isAgg4
 z4:=Tryz.sizeOf4
 v4:=Tryz.zeroValue4
 t5:=Tryz.underlying5
 a5:=Tryz.isAgg5
 z5:=Tryz.sizeOf5
 v5:=Tryz.zeroValue5
 t9:=Tryz.underlying9
 a9:=Tryz.isAgg9
 z9:=Tryz.sizeOf9
 v9:=Tryz.zeroValue9
 t20:=Tryz.underlying20
 a20:=Tryz.isAgg20
 z20:=Tryz.sizeOf20
 v20:=Tryz.zeroValue20
 t37:=Tryz.underlying31
 a37:=Tryz.isAgg31
 z37:=Tryz.sizeOf31
 v37:=Tryz.zeroValue31
 t46:=Tryz.underlying194
 a46:=Tryz.isAgg194
 z46:=Tryz.sizeOf194
 v46:=Tryz.zeroValue194
 t51:=Tryz.underlying228
 a51:=Tryz.isAgg228
 z51:=Tryz.sizeOf228
 v51:=Tryz.zeroValue228
 t53:=Tryz.underlying244
 a53:=Tryz.isAgg244
 z53:=Tryz.sizeOf244
 v53:=Tryz.zeroValue244
 t171:=Tryz.underlying250
 a171:=Tryz.isAgg250
 z171:=Tryz.sizeOf250
 v171:=Tryz.zeroValue250
 t173:=Tryz.underlying253
 a173:=Tryz.isAgg253
 z173:=Tryz.sizeOf253
 v173:=Tryz.zeroValue253
 t212:=Tryz.underlying264
 a212:=Tryz.isAgg264
 z212:=Tryz.sizeOf264
 v212:=Tryz.zeroValue264
 t213:=Tryz.underlying265
 a213:=Tryz.isAgg265
 z213:=Tryz.sizeOf265
 t232:=Tryz.underlying272
 a232:=Tryz.isAgg272
 z232:=Tryz.sizeOf272
 v232:=Tryz.zeroValue272
 t233:=Tryz.underlying273
 a233:=Tryz.isAgg273
 z233:=Tryz.sizeOf273
 v233:=Tryz.zeroValue273
 g17:=by kernel_rfl
 g18:=by kernel_rfl
 g19:=by kernel_rfl
 i0:=by kernel_rfl
 i2:=by kernel_rfl
 i3:=by kernel_rfl
 i4:=by kernel_rfl
 i5:=by kernel_rfl
 i9:=by kernel_rfl
 i20:=by kernel_rfl
 i37:=by kernel_rfl
 i46:=by kernel_rfl
 i51:=by kernel_rfl
 i53:=by kernel_rfl
 i171:=by kernel_rfl
 i173:=by kernel_rfl
 i212:=by kernel_rfl
 i232:=by kernel_rfl
 i233:=by kernel_rfl
 m17:=by kernel_rfl
 m18:=by kernel_rfl
 m19:=by kernel_rfl}
theorem Tryz.strconv_Itoa (n:Int) (h0:-9223372036854775808<=n) (h1:n<=9223372036854775807) (w:World) (cO:Lib.TabIs Tryz.prog w "internal/strconv.uint64pow10" .u64 Lib.pow10Tab):
  Calls Tryz.prog 128 #[.int .i64 n] w λe w'=>e=.returned (.string ⟨(Lib.itoa n).toArray⟩)/\∃k os,w'=grow (w.drewN k) os:=Any.strconv_Itoa Tryz.JI n h0 h1 w cO
def Tryz.E9:Go.Shelf.Ren:=⟨λ|172=>117|244=>177|245=>178|247=>223|279=>224|280=>225|281=>226|282=>227|287=>269|316=>270|171=>128|205=>271|321=>293|322=>294|243=>186|246=>231|283=>272|284=>273|285=>274|286=>275|129=>296|317=>295|318=>297|319=>298|320=>299|337=>305|338=>306|n=>n,λ|9=>9|3=>3|75=>131|76=>132|4=>4|5=>5|167=>220|37=>31|0=>0|85=>221|2=>2|168=>223|53=>244|175=>245|46=>194|210=>248|127=>168|145=>262|143=>260|21=>21|171=>250|173=>253|212=>264|51=>228|20=>20|213=>265|232=>272|233=>273|80=>134|n=>n,λ|15=>3|16=>4|17=>5|18=>6|19=>7|n=>n⟩
theorem Tryz.DG:Go.Proofs.LaysC.n172 Tryz.prog Tryz.E9:={
 mixed:=by kernel_rfl
 f129:=Tryz.func296.trans (congrArg some (by kernel_rfl))
 f171:=Tryz.func128.trans (congrArg some (by kernel_rfl))
 f172:=Tryz.func117.trans (congrArg some (by kernel_rfl))
 f205:=Tryz.func271.trans (congrArg some (by kernel_rfl))
 f243:=Tryz.func186.trans (congrArg some (by kernel_rfl))
 f244:=Tryz.func177.trans (congrArg some (by kernel_rfl))
 f245:=Tryz.func178.trans (congrArg some (by kernel_rfl))
 f246:=Tryz.func231.trans (congrArg some (by kernel_rfl))
 f247:=Tryz.func223.trans (congrArg some (by kernel_rfl))
 f279:=Tryz.func224.trans (congrArg some (by kernel_rfl))
 f280:=Tryz.func225.trans (congrArg some (by kernel_rfl))
 f281:=Tryz.func226.trans (congrArg some (by kernel_rfl))
 f282:=Tryz.func227.trans (congrArg some (by kernel_rfl))
 f283:=Tryz.func272.trans (congrArg some (by kernel_rfl))
 f284:=Tryz.func273.trans (congrArg some (by kernel_rfl))
 f285:=Tryz.func274.trans (congrArg some (by kernel_rfl))
 f286:=Tryz.func275.trans (congrArg some (by kernel_rfl))
 f287:=Tryz.func269.trans (congrArg some (by kernel_rfl))
 f316:=Tryz.func270.trans (congrArg some (by kernel_rfl))
 f317:=Tryz.func295.trans (congrArg some (by kernel_rfl))
 f318:=Tryz.func297.trans (congrArg some (by kernel_rfl))
 f319:=Tryz.func298.trans (congrArg some (by kernel_rfl))
 f320:=Tryz.func299.trans (congrArg some (by kernel_rfl))
 f321:=Tryz.func293.trans (congrArg some (by kernel_rfl))
 f322:=Tryz.func294.trans (congrArg some (by kernel_rfl))
 f337:=Tryz.func305.trans (congrArg some (by kernel_rfl))
 f338:=Tryz.func306.trans (congrArg some (by kernel_rfl))
 t0:=Tryz.underlying0
 a0:=Tryz.isAgg0
 z0:=Tryz.sizeOf0
 v0:=Tryz.zeroValue0
 t2:=Tryz.underlying2
 a2:=Tryz.isAgg2
 z2:=Tryz.sizeOf2
 v2:=Tryz.zeroValue2
 t3:=Tryz.underlying3
 a3:=Tryz.isAgg3
 z3:=Tryz.sizeOf3
 v3:=Tryz.zeroValue3
 t4:=Tryz.underlying4
 a4:=Tryz.isAgg4
 z4:=Tryz.sizeOf4
 v4:=Tryz.zeroValue4
 t5:=Tryz.underlying5
 a5:=Tryz.isAgg5
 z5:=Tryz.sizeOf5
 v5:=Tryz.zeroValue5
 t9:=Tryz.underlying9
 a9:=Tryz.isAgg9
 z9:=Tryz.sizeOf9
 v9:=Tryz.zeroValue9
 t20:=Tryz.underlying20
 a20:=Tryz.isAgg20
 z20:=Tryz.sizeOf20
 v20:=Tryz.zeroValue20
 t21:=Tryz.underlying21
 a21:=Tryz.isAgg21
 z21:=Tryz.sizeOf21
 v21:=Tryz.zeroValue21
 t37:=Tryz.underlying31
 a37:=Tryz.isAgg31
 z37:=Tryz.sizeOf31
 v37:=Tryz.zeroValue31
 t46:=Tryz.underlying194
 a46:=Tryz.isAgg194
 z46:=Tryz.sizeOf194
 v46:=Tryz.zeroValue194
 t51:=Tryz.underlying228
 a51:=Tryz.isAgg228
 z51:=Tryz.sizeOf228
 v51:=Tryz.zeroValue228
 t53:=Tryz.underlying244
 a53:=Tryz.isAgg244
 z53:=Tryz.sizeOf244
 v53:=Tryz.zeroValue244
 t75:=Tryz.underlying131
 a75:=Tryz.isAgg131
 z75:=Tryz.sizeOf131
 v75:=Tryz.zeroValue131
 t76:=Tryz.underlying132
 a76:=Tryz.isAgg132
 z76:=Tryz.sizeOf132
 v76:=Tryz.zeroValue132
 t85:=Tryz.underlying221
 a85:=Tryz.isAgg221
 z85:=Tryz.sizeOf221
 v85:=Tryz.zeroValue221
 t127:=Tryz.underlying168
 a127:=Tryz.isAgg168
 z127:=Tryz.sizeOf168
 v127:=Tryz.zeroValue168
 t143:=Tryz.underlying260
 a143:=Tryz.isAgg260
 z143:=Tryz.sizeOf260
 v143:=Tryz.zeroValue260
 t145:=Tryz.underlying262
 a145:=Tryz.isAgg262
 z145:=Tryz.sizeOf262
 v145:=Tryz.zeroValue262
 t167:=Tryz.underlying220
 a167:=Tryz.isAgg220
 z167:=Tryz.sizeOf220
 v167:=Tryz.zeroValue220
 t168:=Tryz.underlying223
 a168:=Tryz.isAgg223
 z168:=Tryz.sizeOf223
 v168:=Tryz.zeroValue223
 t171:=Tryz.underlying250
 a171:=Tryz.isAgg250
 z171:=Tryz.sizeOf250
 v171:=Tryz.zeroValue250
 t173:=Tryz.underlying253
 a173:=Tryz.isAgg253
 z173:=Tryz.sizeOf253
 v173:=Tryz.zeroValue253
 t175:=Tryz.underlying245
 a175:=Tryz.isAgg245
 z175:=Tryz.sizeOf245
 v175:=Tryz.zeroValue245
 t210:=Tryz.underlying248
 a210:=Tryz.isAgg248
 z210:=Tryz.sizeOf248
 v210:=Tryz.zeroValue248
 t212:=Tryz.underlying264
 a212:=Tryz.isAgg264
 z212:=Tryz.sizeOf264
 v212:=Tryz.zeroValue264
 t213:=Tryz.underlying265
 a213:=Tryz.isAgg265
 z213:=Tryz.sizeOf265
 t232:=Tryz.underlying272
 a232:=Tryz.isAgg272
 z232:=Tryz.sizeOf272
 v232:=Tryz.zeroValue272
 t233:=Tryz.underlying273
 a233:=Tryz.isAgg273
 z233:=Tryz.sizeOf273
 v233:=Tryz.zeroValue273
 g15:=by kernel_rfl
 g16:=by kernel_rfl
 g17:=by kernel_rfl
 g18:=by kernel_rfl
 g19:=by kernel_rfl
 t80:=Tryz.underlying134
 a80:=Tryz.isAgg134
 z80:=Tryz.sizeOf134
 v80:=Tryz.zeroValue134
 i0:=by kernel_rfl
 i2:=by kernel_rfl
 i3:=by kernel_rfl
 i4:=by kernel_rfl
 i5:=by kernel_rfl
 i9:=by kernel_rfl
 i20:=by kernel_rfl
 i21:=by kernel_rfl
 i37:=by kernel_rfl
 i46:=by kernel_rfl
 i51:=by kernel_rfl
 i53:=by kernel_rfl
 i75:=by kernel_rfl
 i76:=by kernel_rfl
 i80:=by kernel_rfl
 i85:=by kernel_rfl
 i127:=by kernel_rfl
 i143:=by kernel_rfl
 i145:=by kernel_rfl
 i167:=by kernel_rfl
 i168:=by kernel_rfl
 i171:=by kernel_rfl
 i173:=by kernel_rfl
 i175:=by kernel_rfl
 i210:=by kernel_rfl
 i212:=by kernel_rfl
 i232:=by kernel_rfl
 i233:=by kernel_rfl
 m15:=by kernel_rfl
 m16:=by kernel_rfl
 m17:=by kernel_rfl
 m18:=by kernel_rfl
 m19:=by kernel_rfl
 c0:=by kernel_rfl
 c2:=by kernel_rfl
 c3:=by kernel_rfl
 c4:=by kernel_rfl
 c5:=by kernel_rfl
 c9:=by kernel_rfl
 c20:=by kernel_rfl
 c21:=by kernel_rfl
 c37:=by kernel_rfl
 c46:=by kernel_rfl
 c51:=by kernel_rfl
 c53:=by kernel_rfl
 c75:=by kernel_rfl
 c76:=by kernel_rfl
 c80:=by kernel_rfl
 c85:=by kernel_rfl
 c127:=by kernel_rfl
 c143:=by kernel_rfl
 c145:=by kernel_rfl
 c167:=by kernel_rfl
 c168:=by kernel_rfl
 c171:=by kernel_rfl
 c173:=by kernel_rfl
 c175:=by kernel_rfl
 c210:=by kernel_rfl
 c212:=by kernel_rfl
 c213:=by kernel_rfl
 c232:=by kernel_rfl
 c233:=by kernel_rfl}
theorem Tryz.strconv_Atoi_ok (s:ByteArray) (cP:s.size<=9223372036854775806) (v:Int) (h:Lib.atoiAll s.data.toList=.ok v) (w:World):
  Calls Tryz.prog 117 #[.string s] w λe w'=>e=.returned (.tuple #[.int .i64 v,.nilIface])/\(w'=w\/∃t,w'=Lib.bytesWorld w 5 t):=Any.strconv_Atoi_ok Tryz.DG s cP v h w
theorem Tryz.strconv_Atoi_syntax (s:ByteArray) (G8:s.size<=281474976710656) (h:Lib.atoiAll s.data.toList=Go.Lib.NumEnd.syntax) (ev:Value) (w:World) (hv:w.cell? ⟨3,0,none⟩=some ev) (Hj:ev=.nilIface\/∃te pe,ev=.iface te pe):
  Calls Tryz.prog 117 #[.string s] w λe w'=>∃N,e=.returned (.tuple #[.int .i64 (0),.iface 223 (.pointer (some ⟨N,0,none⟩))])/\w.heap.size<=N/\w'.heap[N]?=some (.cells #[.string ⟨#[65,116,111,105]⟩,.string s,ev] 248 (0,0))/\Below w.heap.size w w':=Any.strconv_Atoi_syntax Tryz.DG s G8 h ev w hv Hj
theorem Tryz.strconv_Atoi_range (s:ByteArray) (G8:s.size<=281474976710656) (h:Lib.atoiAll s.data.toList=.range) (ev:Value) (w:World) (hv:w.cell? ⟨4,0,none⟩=some ev) (Hj:ev=.nilIface\/∃te pe,ev=.iface te pe):
  Calls Tryz.prog 117 #[.string s] w λe w'=>∃N,e=.returned (.tuple #[.int .i64 (Lib.atoiSat s.data.toList),.iface 223 (.pointer (some ⟨N,0,none⟩))])/\w.heap.size<=N/\w'.heap[N]?=some (.cells #[.string ⟨#[65,116,111,105]⟩,.string s,ev] 248 (0,0))/\Below w.heap.size w w':=Any.strconv_Atoi_range Tryz.DG s G8 h ev w hv Hj
def Tryz.Fx:Go.Shelf.Ren:=⟨λ|144=>50|143=>100|219=>154|217=>193|225=>194|224=>195|267=>196|266=>233|314=>234|n=>n,λ|9=>9|4=>4|3=>3|5=>5|46=>194|146=>229|51=>228|n=>n,λ|1=>0|n=>n⟩
theorem Tryz.MT:Go.Proofs.Lays.n144 Tryz.prog Tryz.Fx:={
 mixed:=by kernel_rfl
 f143:=Tryz.func100.trans (congrArg some (by kernel_rfl))
 f144:=Tryz.func50.trans (congrArg some (by kernel_rfl))
 f217:=Tryz.func193.trans (congrArg some (by kernel_rfl))
 f219:=Tryz.func154.trans (congrArg some (by kernel_rfl))
 f224:=Tryz.func195.trans (congrArg some (by kernel_rfl))
 f225:=Tryz.func194.trans (congrArg some (by kernel_rfl))
 f266:=Tryz.func233.trans (congrArg some (by kernel_rfl))
 f267:=Tryz.func196.trans (congrArg some (by kernel_rfl))
 f314:=Tryz.func234.trans (congrArg some (by kernel_rfl))
 t3:=Tryz.underlying3
 a3:=Tryz.isAgg3
 z3:=Tryz.sizeOf3
 v3:=Tryz.zeroValue3
 t4:=Tryz.underlying4
 a4:=Tryz.isAgg4
 z4:=Tryz.sizeOf4
 v4:=Tryz.zeroValue4
 t5:=Tryz.underlying5
 a5:=Tryz.isAgg5
 z5:=Tryz.sizeOf5
 v5:=Tryz.zeroValue5
 t9:=Tryz.underlying9
 a9:=Tryz.isAgg9
 z9:=Tryz.sizeOf9
 v9:=Tryz.zeroValue9
 t46:=Tryz.underlying194
 a46:=Tryz.isAgg194
 z46:=Tryz.sizeOf194
 v46:=Tryz.zeroValue194
 t51:=Tryz.underlying228
 a51:=Tryz.isAgg228
 z51:=Tryz.sizeOf228
 v51:=Tryz.zeroValue228
 t146:=Tryz.underlying229
 a146:=Tryz.isAgg229
 z146:=Tryz.sizeOf229
 v146:=Tryz.zeroValue229
 g1:=by kernel_rfl}
theorem Tryz.strings_Contains (s sub:ByteArray) (m:Int) (w:World) (hs:s.size < 4294967281) (hm:w.cell? ⟨0,0,none⟩=some (.int .i64 m)):
  Calls Tryz.prog 50 #[.string s,.string sub] w λe w'=>e=.returned (.bool (Lib.contains s.data.toList sub.data.toList))/\w'=w:=Any.strings_Contains Tryz.MT s sub m w hs hm
def Tryz.Fy:Go.Shelf.Ren:=⟨λ|145=>101|220=>155|219=>154|217=>193|225=>194|224=>195|267=>196|266=>233|314=>234|n=>n,λ|9=>9|4=>4|59=>155|3=>3|5=>5|46=>194|146=>229|51=>228|n=>n,λ|1=>0|n=>n⟩
theorem Tryz.MU:Go.Proofs.Lays.n145 Tryz.prog Tryz.Fy:={
 mixed:=by kernel_rfl
 f145:=Tryz.func101.trans (congrArg some (by kernel_rfl))
 f217:=Tryz.func193.trans (congrArg some (by kernel_rfl))
 f219:=Tryz.func154.trans (congrArg some (by kernel_rfl))
 f220:=Tryz.func155.trans (congrArg some (by kernel_rfl))
 f224:=Tryz.func195.trans (congrArg some (by kernel_rfl))
 f225:=Tryz.func194.trans (congrArg some (by kernel_rfl))
 f266:=Tryz.func233.trans (congrArg some (by kernel_rfl))
 f267:=Tryz.func196.trans (congrArg some (by kernel_rfl))
 f314:=Tryz.func234.trans (congrArg some (by kernel_rfl))
 t3:=Tryz.underlying3
 a3:=Tryz.isAgg3
 z3:=Tryz.sizeOf3
 v3:=Tryz.zeroValue3
 t4:=Tryz.underlying4
 a4:=Tryz.isAgg4
 z4:=Tryz.sizeOf4
 v4:=Tryz.zeroValue4
 t5:=Tryz.underlying5
 a5:=Tryz.isAgg5
 z5:=Tryz.sizeOf5
 v5:=Tryz.zeroValue5
 t9:=Tryz.underlying9
 a9:=Tryz.isAgg9
 z9:=Tryz.sizeOf9
 v9:=Tryz.zeroValue9
 t46:=Tryz.underlying194
 a46:=Tryz.isAgg194
 z46:=Tryz.sizeOf194
 v46:=Tryz.zeroValue194
 t51:=Tryz.underlying228
 a51:=Tryz.isAgg228
 z51:=Tryz.sizeOf228
 v51:=Tryz.zeroValue228
 t59:=Tryz.underlying155
 a59:=Tryz.isAgg155
 z59:=Tryz.sizeOf155
 v59:=Tryz.zeroValue155
 t146:=Tryz.underlying229
 a146:=Tryz.isAgg229
 z146:=Tryz.sizeOf229
 v146:=Tryz.zeroValue229
 g1:=by kernel_rfl}
theorem Tryz.strings_Cut (s sep:ByteArray) (m:Int) (w:World) (hs:s.size < 4294967281) (hm:w.cell? ⟨0,0,none⟩=some (.int .i64 m)):
  Calls Tryz.prog 101 #[.string s,.string sep] w λe w'=>e=.returned (.tuple #[.string ⟨(Lib.cut s.data.toList sep.data.toList).1.toArray⟩,.string ⟨(Lib.cut s.data.toList sep.data.toList).2.1.toArray⟩,.bool (Lib.cut s.data.toList sep.data.toList).2.2])/\∃n,w'=w.drewN n:=Any.strings_Cut Tryz.MU s sep m w hs hm
def Tryz.Fz:Go.Shelf.Ren:=⟨λ|101=>118|208=>179|206=>228|n=>n,λ|9=>9|4=>4|3=>3|n=>n,λ|n=>n⟩
theorem Tryz.MV:Go.Proofs.Lays.n101 Tryz.prog Tryz.Fz:={
 mixed:=by kernel_rfl
 f101:=Tryz.func118.trans (congrArg some (by kernel_rfl))
 f206:=Tryz.func228.trans (congrArg some (by kernel_rfl))
 f208:=Tryz.func179.trans (congrArg some (by kernel_rfl))
 t3:=Tryz.underlying3
 a3:=Tryz.isAgg3
 z3:=Tryz.sizeOf3
 v3:=Tryz.zeroValue3
 t4:=Tryz.underlying4
 a4:=Tryz.isAgg4
 z4:=Tryz.sizeOf4
 v4:=Tryz.zeroValue4
 t9:=Tryz.underlying9
 a9:=Tryz.isAgg9
 z9:=Tryz.sizeOf9
 v9:=Tryz.zeroValue9}
theorem Tryz.strings_TrimPrefix (s p:ByteArray) (w:World):
  Calls Tryz.prog 118 #[.string s,.string p] w λe w'=>e=.returned (.string ⟨(Lib.trimPrefix s.data.toList p.data.toList).toArray⟩)/\w'=w:=Any.strings_TrimPrefix Tryz.MV s p w
def Tryz.F0:Go.Shelf.Ren:=⟨λ|102=>28|209=>65|207=>116|n=>n,λ|9=>9|4=>4|3=>3|n=>n,λ|n=>n⟩
theorem Tryz.MW:Go.Proofs.Lays.n102 Tryz.prog Tryz.F0:={
 mixed:=by kernel_rfl
 f102:=Tryz.func28.trans (congrArg some (by kernel_rfl))
 f207:=Tryz.func116.trans (congrArg some (by kernel_rfl))
 f209:=Tryz.func65.trans (congrArg some (by kernel_rfl))
 t3:=Tryz.underlying3
 a3:=Tryz.isAgg3
 z3:=Tryz.sizeOf3
 v3:=Tryz.zeroValue3
 t4:=Tryz.underlying4
 a4:=Tryz.isAgg4
 z4:=Tryz.sizeOf4
 v4:=Tryz.zeroValue4
 t9:=Tryz.underlying9
 a9:=Tryz.isAgg9
 z9:=Tryz.sizeOf9
 v9:=Tryz.zeroValue9}
theorem Tryz.strings_TrimSuffix (s p:ByteArray) (w:World) (hs:s.size<=9223372036854775807):
  Calls Tryz.prog 28 #[.string s,.string p] w λe w'=>e=.returned (.string ⟨(Lib.trimSuffix s.data.toList p.data.toList).toArray⟩)/\w'=w:=Any.strings_TrimSuffix Tryz.MW s p w hs
def Tryz.EA:Go.Shelf.Ren:=⟨λ|146=>27|221=>64|268=>114|138=>115|143=>100|195=>174|197=>175|218=>176|219=>154|260=>222|217=>193|225=>194|224=>195|267=>196|266=>233|314=>234|n=>n,λ|9=>9|31=>65|3=>3|4=>4|0=>0|105=>196|21=>21|5=>5|46=>194|119=>240|139=>243|138=>242|146=>229|51=>228|n=>n,λ|1=>0|3=>1|4=>2|n=>n⟩
theorem Tryz.DH:Go.Proofs.LaysM.n146 Tryz.prog Tryz.EA:={
 mixed:=by kernel_rfl
 f138:=Tryz.func115.trans (congrArg some (by kernel_rfl))
 f143:=Tryz.func100.trans (congrArg some (by kernel_rfl))
 f146:=Tryz.func27.trans (congrArg some (by kernel_rfl))
 f195:=Tryz.func174.trans (congrArg some (by kernel_rfl))
 f197:=Tryz.func175.trans (congrArg some (by kernel_rfl))
 f217:=Tryz.func193.trans (congrArg some (by kernel_rfl))
 f218:=Tryz.func176.trans (congrArg some (by kernel_rfl))
 f219:=Tryz.func154.trans (congrArg some (by kernel_rfl))
 f221:=Tryz.func64.trans (congrArg some (by kernel_rfl))
 f224:=Tryz.func195.trans (congrArg some (by kernel_rfl))
 f225:=Tryz.func194.trans (congrArg some (by kernel_rfl))
 f260:=Tryz.func222.trans (congrArg some (by kernel_rfl))
 f266:=Tryz.func233.trans (congrArg some (by kernel_rfl))
 f267:=Tryz.func196.trans (congrArg some (by kernel_rfl))
 f268:=Tryz.func114.trans (congrArg some (by kernel_rfl))
 f314:=Tryz.func234.trans (congrArg some (by kernel_rfl))
 t0:=Tryz.underlying0
 a0:=Tryz.isAgg0
 z0:=Tryz.sizeOf0
 v0:=Tryz.zeroValue0
 t3:=Tryz.underlying3
 a3:=Tryz.isAgg3
 z3:=Tryz.sizeOf3
 v3:=Tryz.zeroValue3
 t4:=Tryz.underlying4
 a4:=Tryz.isAgg4
 z4:=Tryz.sizeOf4
 v4:=Tryz.zeroValue4
 t5:=Tryz.underlying5
 a5:=Tryz.isAgg5
 z5:=Tryz.sizeOf5
 v5:=Tryz.zeroValue5
 t9:=Tryz.underlying9
 a9:=Tryz.isAgg9
 z9:=Tryz.sizeOf9
 v9:=Tryz.zeroValue9
 t21:=Tryz.underlying21
 a21:=Tryz.isAgg21
 z21:=Tryz.sizeOf21
 v21:=Tryz.zeroValue21
 t31:=Tryz.underlying65
 a31:=Tryz.isAgg65
 z31:=Tryz.sizeOf65
 v31:=Tryz.zeroValue65
 t46:=Tryz.underlying194
 a46:=Tryz.isAgg194
 z46:=Tryz.sizeOf194
 v46:=Tryz.zeroValue194
 t51:=Tryz.underlying228
 a51:=Tryz.isAgg228
 z51:=Tryz.sizeOf228
 v51:=Tryz.zeroValue228
 t105:=Tryz.underlying196
 a105:=Tryz.isAgg196
 z105:=Tryz.sizeOf196
 v105:=Tryz.zeroValue196
 t119:=Tryz.underlying240
 a119:=Tryz.isAgg240
 z119:=Tryz.sizeOf240
 t138:=Tryz.underlying242
 a138:=Tryz.isAgg242
 z138:=Tryz.sizeOf242
 v138:=Tryz.zeroValue242
 t139:=Tryz.underlying243
 a139:=Tryz.isAgg243
 z139:=Tryz.sizeOf243
 v139:=Tryz.zeroValue243
 t146:=Tryz.underlying229
 a146:=Tryz.isAgg229
 z146:=Tryz.sizeOf229
 v146:=Tryz.zeroValue229
 g1:=by kernel_rfl
 g3:=by kernel_rfl
 g4:=by kernel_rfl
 i0:=by kernel_rfl
 i3:=by kernel_rfl
 i4:=by kernel_rfl
 i5:=by kernel_rfl
 i9:=by kernel_rfl
 i21:=by kernel_rfl
 i31:=by kernel_rfl
 i46:=by kernel_rfl
 i51:=by kernel_rfl
 i105:=by kernel_rfl
 i138:=by kernel_rfl
 i139:=by kernel_rfl
 i146:=by kernel_rfl
 m1:=by kernel_rfl
 s1_3:=λw h=>Go.Proofs.cell_of_shapedOpen_int (zero:=#[.int .i64 0]) (t:=3) h (of_decide_eq_true (by kernel_rfl)) (by kernel_rfl) rfl (by kernel_rfl) (by kernel_rfl) Tryz.underlying3
 m3:=by kernel_rfl
 m4:=by kernel_rfl}
end Go.Proofs
namespace Go.Proofs.YthdljdelfgofdaaGreatDoor.Ev
open Go Go.Proofs
def Mo:X6:=⟨λf=>(List.lookup f [(10,[.Ey,.rd]),(35,[.Ey,.rd]),(36,[.Ey,.rd]),(107,[.io]),(57,[.io]),(56,[.io]),(60,[.io,.mv]),(109,[.io,.mv]),(59,[.io]),(55,[.io]),(211,[.io]),(244,[.io]),(246,[.io]),(251,[.io]),(213,[.io]),(161,[.io]),(210,[.io,.rd,.io]),(52,[.io,.rd]),(105,[.io,.rd]),(51,[.io,.rd]),(106,[.mv,.rd]),(53,[.mv,.rd]),(96,[.mv]),(97,[.mv]),(99,[.mv]),(98,[.mv]),(303,[.mv,.rd])]).getD [],λp=>p == "l23_desk.go:92" || p == "l23_desk.go:86"⟩
variable [Anchor]
abbrev Y:=FuncId×List V×V×List V
abbrev RF (fn:Func) (y:Y):Ex->St->Prop:=QT Tryz.prog Mo y.1 fn y.2.1 y.2.2
theorem Y2j {P:Program} (hm:P.follows .mixedOrders=true) (h:P.funcs.toList.all (λfn=>(match fn.body with|some c=>EJ fn.ntmps c|none=>true)&&!(fn.name == "runtime.NumGoroutine"))=true):Wb P:=by
 rw[Cd] at h;refine⟨hm,λf fn c hf hc=>?_,λf fn hf=>?_⟩
 .have:=h fn (Array.mem_toList_iff.2 (Veh hf))
  rw[hc] at this;simp only[Bg] at this;exact this.1
 .have:=h fn (Array.mem_toList_iff.2 (Veh hf))
  simp only[Bg,N6] at this;exact this.2
theorem L5:Wb Tryz.prog:=Y2j (by kernel_rfl) (by kernel_rfl)
theorem HW {α:Type} {F:α->Y} {fn:Func} {a r:α} {p:Prop} {BK:List It} {s:St} (h:some a=some r) (q:List O) (hp:p) (e:Ol (runK Tryz.prog Mo (F a).1 fn (F a).2.1 100000 BK s q)=some (p,(F a).2.2):=by kernel_rfl):SX Tryz.prog (RF fn (F r)) BK .normal s:=by
 cases h;exact Y0s L5 100000 q hp e
theorem MX {y:Y} {fn:Func} {BK k2:List It} {s:St} {p:Prop} {l:List (Nat×V)} {h:List (Id×Bc)} {ep:Nat} (f:List (Id×Id)) (n:Nat) (q:List O) (hp:p) (hn:SX Tryz.prog (RF fn y) k2 .normal (Oe l h ep))
  (e:Ol (ME Tryz.prog Mo f l h n BK s q)=some (p,(k2,Rg f l h)):=by kernel_rfl) (hb:(y9 k2&&JB f l h ep)=true:=by kernel_rfl):SX Tryz.prog (RF fn y) BK .normal s:=Y0l (M:=Mo) L5 f n q hp hn e hb
theorem q8 {α:Type} {F:α->Y} {fn:Func} {r:α} (CK:Tryz.prog.funcs[(F r).1]?=some fn) (h:SX Tryz.prog (RF fn (F r)) [.c (MH fn)] .normal (JD Mo (F r).1 (F r).2.1)) (hc:fn.body=some (MH fn):=by kernel_rfl) (hs:(St.enters ⟨λ_=>.undef,λ_=>none,0⟩ 0 (Mo.AV (F r).1) (F r).2.1).isSome=true:=by kernel_rfl):
  Zq Tryz.prog Mo (F r):=Yut L5 CK hc hs h
abbrev CS (y:Y) (fn:Func) (p:List Nat) (l:List (Nat×V)) (h:List (Id×Bc)):Prop:=SX Tryz.prog (RF fn y) (at_ p (MH fn) []) .normal (Oe l h 1)
structure Ac (A:List O->List O) (B:Prop->Prop):Prop where
 f:∀{q p},BH q p->BH (A q) (B p)
def Gw {β:Type} (A:List O->List O) (B:Prop->Prop) (x:Option β) (b:β) (G:Prop):Prop:=Ac A B->x=some b->G
section
variable {α β:Type} {A:List O->List O} {B:Prop->Prop} {x y:Option β} {z:Option α} {f:α->Option β} {b:β} {G:Prop} {t:Bool} {e:α->List V} {xs:List α} {i:Int}
theorem st (T:Gw (λq=>q) (λp=>p) x b G):x=some b->G:=T ⟨λh=>h⟩
theorem bn (k:∀{a},z=some a->Gw A B (f a) b G):Gw A B (z.bind f) b G:=λw h=>by
 obtain⟨a,h1,h2⟩:=Y8h h;exact k h1 w h2
theorem jw {C:List O->List O} {D:Prop->Prop} (w:∀{q p},BH q p->BH (C q) (D p)) (k:Gw (λq=>A (C q)) (λp=>B (D p)) x b G):Gw A B x b G:=λa h=>k ⟨λs=>a.f (w s)⟩ h
theorem jk (n:Nat) (k:Gw (λq=>A (ks n q)) B x b G):Gw A B x b G:=jw (D:=λp=>p) (kk n) k
theorem jl (k:Gw (λq=>A (.B8::q)) B x b G):Gw A B x b G:=jw (D:=λp=>p) (tp .B8) k
theorem jp (o:O) (k:Gw (λq=>A (o::q)) B x b G):Gw A B x b G:=jw (D:=λp=>p) (tp o) k
theorem jg {c d:Bool} (h:c=d) (k:Gw (λq=>A (.t d::q)) (λp=>B (c=d/\p)) x b G):Gw A B x b G:=jw (gg h) k
theorem jo {a:Prop} (h:a) (k:Gw A (λp=>B (a/\p)) x b G):Gw A B x b G:=jw (C:=λq=>q) (ob h) k
theorem je (e:α->List V) (xs:List α) (k:Gw A (λp=>B ((xs.map e).length=(xs.map e).length/\p)) x b G):Gw A B x b G:=jw (C:=λq=>q) (oe e xs) k
theorem jn (e:α->List V) (xs:List α) (k:Gw (λq=>A (.num (xs.map e).length 0 0 []::q)) (λp=>B ((xs.map e).length=(xs.map e).length/\p)) x b G):Gw A B x b G:=jw (ln e xs) k
theorem js (e:α->List V) (xs:List α) (k:Gw (λq=>A (.num xs.length 0 0 []::q)) (λp=>B ((xs.map e).length=xs.length/\p)) x b G):Gw A B x b G:=jw (lr e xs) k
theorem jt (e:α->List V) (ys zs:List α) (k:Gw (λq=>A (.app (ys.map e) true (zs.map e) (zs.map e).length::q)) B x b G):Gw A B x b G:=jw (D:=λp=>p) (ta e ys zs) k
theorem ja (n:Nat) {e:α->List V} (he:∀a,(e a).length=n) (a:α) (k:Gw A (λp=>B (1=([a].map e).length/\[a].map e=[a].map e/\Hh n ([a].map e)=true/\p)) x b G):Gw A B x b G:=jw (C:=λq=>q) (oa n he a) k
theorem jx (e:α->List V) {sz:Nat} {ys zs:List α} (h:Yz sz xs ys=some zs) (k:Gw A (λp=>B ((xs.map e).length=(xs.map e).length/\(((xs.map e).length+(ys.map e).length)*sz<=140737488355328/\(xs.map e).length+(ys.map e).length<=9223372036854775807)/\xs.map e++ys.map e=zs.map e/\p)) x b G):Gw A B x b G:=jw (C:=λq=>q) (ox e h) k
theorem jr {P:Program} {M:X6} {y:Y} (h:Zq P M y) (k:Gw (λq=>A (.res y.2.2.1 y.2.2.2::q)) (λp=>B (Zq P M y/\p)) x b G):Gw A B x b G:=jw (rr h) k
theorem jb (e:α->List V) {a:α} (h:idx xs i=some a) (k:Gw (λq=>A (.row i.toNat (e a)::q)) (λp=>B (Wz (il i)=some i.toNat/\(xs.map e)[i.toNat]?=some (e a)/\p)) x b G):Gw A B x b G:=jw (xb e h) k
theorem br {P:Program} {M:X6} {F:α->Y} (c:∀{r},z=some r->Zq P M (F r)) (k:∀{r},Gw (λq=>A (.res (F r).2.2.1 (F r).2.2.2::q)) (λp=>B (Zq P M (F r)/\p)) (f r) b G):Gw A B (z.bind f) b G:=bn λh=>jr (c h) k
theorem bo {C:α->Prop} (c:∀{r},z=some r->C r) (k:∀{r},Gw A (λp=>B (C r/\p)) (f r) b G):Gw A B (z.bind f) b G:=bn λh=>jo (c h) k
theorem bb (e:α->List V) (k:∀{a},Gw (λq=>A (.row i.toNat (e a)::q)) (λp=>B (Wz (il i)=some i.toNat/\(xs.map e)[i.toNat]?=some (e a)/\p)) (f a) b G):Gw A B ((idx xs i).bind f) b G:=bn λh=>jb e h k
theorem bd (e:α->List V) (k:∀{a},Gw (λq=>A (.row i.toNat (e a)::.cell (e a)::q)) (λp=>B (Wz (il i)=some i.toNat/\i.toNat < (xs.map e).length/\(xs.map e)[i.toNat]?=some (e a)/\(xs.map e)[i.toNat]?=some (e a)/\p)) (f a) b G):Gw A B ((idx xs i).bind f) b G:=bn λh=>jw (xd e h) k
theorem ig (k1:t=true->Gw A B x b G) (k2:t=false->Gw A B y b G):Gw A B (if t=true then x else y) b G:=λw h=>by
 rcases Y8q h with⟨h1,h2⟩|⟨h1,h2⟩
 .exact k1 h1 w h2
 .exact k2 h1 w h2
theorem ivv (k1:t=true->Gw (λq=>A (.t true::q)) (λp=>B (t=true/\p)) x b G) (k2:t=false->Gw (λq=>A (.t false::q)) (λp=>B (t=false/\p)) y b G):Gw A B (if t=true then x else y) b G:=ig (λg=>jg g (k1 g)) λg=>jg g (k2 g)
theorem it (k1:Gw (λq=>A (.t true::q)) (λp=>B (t=true/\p)) x b G) (k2:Gw (λq=>A (.t false::q)) (λp=>B (t=false/\p)) y b G):Gw A B (if t=true then x else y) b G:=ivv (λ_=>k1) λ_=>k2
theorem rt {F:α->Y} {fn:Func} {a r:α} {BK:List It} {s:St} (e:Ol (runK Tryz.prog Mo (F a).1 fn (F a).2.1 100000 BK s (A []))=some (B True,(F a).2.2):=by kernel_rfl):Gw A B (some a) r (SX Tryz.prog (RF fn (F r)) BK .normal s):=λw h=>by
 cases h;exact Y0s L5 100000 (A []) (w.f ee) e
theorem cx {y:Y} {fn:Func} {BK k2:List It} {s:St} {l:List (Nat×V)} {h:List (Id×Bc)} {ep:Nat} (f:List (Id×Id)) (n:Nat) (hn:x=some b->SX Tryz.prog (RF fn y) k2 .normal (Oe l h ep))
  (e:Ol (ME Tryz.prog Mo f l h n BK s (A []))=some (B True,(k2,Rg f l h)):=by kernel_rfl) (hb:(y9 k2&&JB f l h ep)=true:=by kernel_rfl):Gw A B x b (SX Tryz.prog (RF fn y) BK .normal s):=λw hx=>Y0l (M:=Mo) L5 f n (A []) (w.f ee) (hn hx) e hb
theorem fK {F:α->Y} {fn:Func} {r:α} (CK:Tryz.prog.funcs[(F r).1]?=some fn) (h:Gw (λq=>q) (λp=>p) z r (SX Tryz.prog (RF fn (F r)) [.c (MH fn)] .normal (JD Mo (F r).1 (F r).2.1))) (hc:fn.body=some (MH fn):=by kernel_rfl) (hs:(St.enters ⟨λ_=>.undef,λ_=>none,0⟩ 0 (Mo.AV (F r).1) (F r).2.1).isSome=true:=by kernel_rfl):
  z=some r->Zq Tryz.prog Mo (F r):=λhz=>Yut L5 CK hc hs (st h hz)
end
end Go.Proofs.YthdljdelfgofdaaGreatDoor.Ev
namespace Go.Proofs.YthdljdelfgofdaaGreatDoor.Ev
open Go Go.Proofs Go.RowKit Go.Sort
class BF [A:Anchor]:Prop where
 maxLen:∃m,A.w.cell? ⟨0,0,none⟩=some (.int .i64 m)
 MY:∃ev,A.w.cell? ⟨3,0,none⟩=some ev/\(ev=.nilIface\/∃te pe,ev=.iface te pe)
 MZ:∃ev,A.w.cell? ⟨4,0,none⟩=some ev/\(ev=.nilIface\/∃te pe,ev=.iface te pe)
 tab:Lib.TabIs Tryz.prog A.w "internal/strconv.uint64pow10" .u64 Lib.pow10Tab
theorem Ys1 {P:Program} [A:Anchor] {w:World} {T:Nat->Prop} (hA:Md w T) {name:String} {cs:Array Value} (h:A.w.var? P name=some cs):w.var? P name=some cs:=by
 unfold World.var? at h ⊢;obtain⟨g,hg,h⟩:=A8.1 h;rw[hg,Ag];have Z7:g < A.w.heap.size:=by
  rcases KN g A.w.heap.size with h'|h'
  .exact h'
  .rw[uA h'] at h;cases h
 rw[hA.2.1 g Z7];exact h
theorem cQ [A:Anchor] {w:World} {T:Nat->Prop} (hA:Md w T) {g o:Nat} {v:Value} (h:A.w.cell? ⟨g,o,none⟩=some v):w.cell? ⟨g,o,none⟩=some v:=by
 rw[uT (hA.2.1 g (gX h))];exact h
theorem us1 {us:List Value} (h:us.length=1):∃u,us=[u]:=by
 match us,h with
 | [u],_=>exact⟨u,rfl⟩
theorem Us {us:List Value} (h:us.length=2):∃u v,us=[u,v]:=by
 match us,h with
 | [u,v],_=>exact⟨u,v,rfl⟩
abbrev Ykp (x0 x1:ByteArray) (r:List ByteArray):Y:=(27,[.lit (.string x0),.lit (.string x1)],.tr (r.map Zv),[.undef,.undef])
theorem Ut [Anchor] [BF] {x0 x1:ByteArray} {r:List ByteArray} (h:Ky x0 x1=some r):Zq Tryz.prog Mo (Ykp x0 x1 r):=by
 unfold Ky at h;split at h
 case isFalse=>cases h
 rename_i h0;injection h with h;subst h;obtain⟨m,hm⟩:=BF.maxLen;have Yo:(Lib.splitB x1 0 (Lib.countB x0 x1) x0).length=Lib.countB x0 x1+1:=Lib.splitB_all x1 h0.2 0 _ x0 rfl;refine Y85 (e:=9) (xs:=[.lit (.string x0),.lit (.string x1)]) ⟨_,Tryz.func27,by kernel_rfl⟩ (by kernel_rfl) (by have:=Lib.countB_le x1 h0.2 x0.size x0 (B2 _);rw[Yo];unfold maxLen;omega) λw us ok hA Yf hl he=>?_;obtain⟨u,v,rfl⟩:=Us hl;obtain rfl:=HU (he 0 u _ rfl rfl (λ_=>none));obtain rfl:=HU (he 1 v _ rfl rfl (λ_=>none));rw[Yo];exact Any.strings_Split {Tryz.DH with} Tryz.DH.i9 x0 x1 m w h0.1 (cQ hA hm) h0.2
abbrev Ydj (x0 x1:ByteArray) (r:Bool):Y:=(50,[.lit (.string x0),.lit (.string x1)],.lit (.bool r),[.undef,.undef])
theorem Zzg [Anchor] [BF] {x0 x1:ByteArray} {r:Bool} (h:R9 x0 x1=some r):Zq Tryz.prog Mo (Ydj x0 x1 r):=by
 unfold R9 at h;split at h
 case isFalse=>cases h
 rename_i h0;injection h with h;subst h;obtain⟨m,hm⟩:=BF.maxLen;refine T6 (xs:=[.lit (.string x0),.lit (.string x1)]) ⟨_,Tryz.func50,by kernel_rfl⟩ (by kernel_rfl) (kF rfl) λw us ok hA Yf hl he=>?_;obtain⟨u,v,rfl⟩:=Us hl;obtain rfl:=HU (he 0 u _ rfl rfl (λ_=>none));obtain rfl:=HU (he 1 v _ rfl rfl (λ_=>none));refine (Tryz.strings_Contains x0 x1 m w h0 (cQ hA hm)).mono λe w' ⟨he,hw⟩=>⟨he,?_⟩;subst hw;exact RowKit.Below.refl _ _
abbrev Yrp (x0 x1:ByteArray) (r:ByteArray×ByteArray×Bool):Y:=(101,[.lit (.string x0),.lit (.string x1)],.AZ [.lit (.string r.1),.lit (.string r.2.1),.lit (.bool r.2.2)],[.undef,.undef])
theorem Y57 {P:Program} {u v x:Value} (hu:D9 u=true) (hv:D9 v=true) (hx:D9 x=true) (w':World) (ok top:Nat->Prop):Fu P w' ok top (.tuple #[u,v,x]) (.AZ [.lit u,.lit v,.lit x]) []:=
 ⟨#[u,v,x],rfl,.cons (f1:=[]) (f2:=[]) (show Da P w' ok top u (.lit u) [] from .lit hu) (.cons (f1:=[]) (f2:=[]) (show Da P w' ok top v (.lit v) [] from .lit hv) (.cons (f1:=[]) (f2:=[]) (show Da P w' ok top x (.lit x) [] from .lit hx) .nil))⟩
theorem Yav [Anchor] [BF] {x0 x1:ByteArray} {r:ByteArray×ByteArray×Bool} (h:MP x0 x1=some r):Zq Tryz.prog Mo (Yrp x0 x1 r):=by
 unfold MP at h;split at h
 case isFalse=>cases h
 rename_i h0;injection h with h;subst h;obtain⟨m,hm⟩:=BF.maxLen;refine T6 (xs:=[.lit (.string x0),.lit (.string x1)]) ⟨_,Tryz.func101,by kernel_rfl⟩ (by kernel_rfl) (Y57 rfl rfl rfl) λw us ok hA Yf hl he=>?_;obtain⟨u,v,rfl⟩:=Us hl;obtain rfl:=HU (he 0 u _ rfl rfl (λ_=>none));obtain rfl:=HU (he 1 v _ rfl rfl (λ_=>none));refine (Tryz.strings_Cut x0 x1 m w h0 (cQ hA hm)).mono λe w' ⟨he,n,hw⟩=>⟨he,?_⟩;subst hw;exact⟨rfl,rfl,rfl,B2 _,λj hj=>rfl⟩
theorem Y8r (n:Int) (h0:-9223372036854775808<=n) (h1:n<=9223372036854775807) (w:World) (cO:Lib.TabIs Tryz.prog w "internal/strconv.uint64pow10" .u64 Lib.pow10Tab):
  Calls Tryz.prog 76 #[.int .i64 n] w λe w'=>e=.returned (.string ⟨(Lib.itoa n).toArray⟩)/\∃k os,w'=grow (w.drewN k) os:=by
 have c:=Tryz.strconv_Itoa n h0 h1 w cO
 go_enter Tryz.func76,Tryz.ntmps76
 go_wp2_with (go_at_call 128;go_fit c;rintro e w' ⟨rfl,k,os,rfl⟩)
 go_ret
 exact⟨rfl,_,_,rfl⟩
def L6 (s:ByteArray) (d v:Int):Int×Bool:=if Lib.itoa v=s.data.toList/\((Lib.trimPrefix s.data.toList [45]).length:Int)<=d then (v,true) else (0,false)
theorem Y3x (s:ByteArray) (d:Int) (w:World) (G8:s.size<=281474976710656) (h:Lib.atoiAll s.data.toList=Lib.NumEnd.syntax) (ev:Value) (hv:w.cell? ⟨3,0,none⟩=some ev) (Hj:ev=.nilIface\/∃te pe,ev=.iface te pe):
  Calls Tryz.prog 66 #[.string s,.int .i64 d] w λe w'=>e=.returned (.tuple #[.int .i64 0,.bool false])/\Below w.heap.size w w':=by
 have c:=Tryz.strconv_Atoi_syntax s G8 h ev w hv Hj
 go_enter Tryz.func66,Tryz.ntmps66
 go_wp2_with (go_at_call 117;go_fit c;rintro e w1 ⟨N,rfl,hN,hc,hb⟩)
 go_ret2
 exact⟨rfl,hb⟩
theorem Ys8 (s:ByteArray) (d:Int) (w:World) (G8:s.size<=281474976710656) (h:Lib.atoiAll s.data.toList=.range) (ev:Value) (hv:w.cell? ⟨4,0,none⟩=some ev) (Hj:ev=.nilIface\/∃te pe,ev=.iface te pe):
  Calls Tryz.prog 66 #[.string s,.int .i64 d] w λe w'=>e=.returned (.tuple #[.int .i64 0,.bool false])/\Below w.heap.size w w':=by
 have c:=Tryz.strconv_Atoi_range s G8 h ev w hv Hj
 go_enter Tryz.func66,Tryz.ntmps66
 go_wp2_with (go_at_call 117;go_fit c;rintro e w1 ⟨N,rfl,hN,hc,hb⟩)
 go_ret2
 exact⟨rfl,hb⟩
theorem Y6q (s:ByteArray) (d:Int) (w:World) (v:Int) (cP:s.size<=281474976710656) (h:Lib.atoiAll s.data.toList=.ok v) (h0:-9223372036854775808<=v) (h1:v<=9223372036854775807) (cO:∀w',Below w.heap.size w w'->Lib.TabIs Tryz.prog w' "internal/strconv.uint64pow10" .u64 Lib.pow10Tab):
  Calls Tryz.prog 66 #[.string s,.int .i64 d] w λe w'=>e=.returned (.tuple #[.int .i64 (L6 s d v).1,.bool (L6 s d v).2])/\Below w.heap.size w w':=by
 have c:=Tryz.strconv_Atoi_ok s (by omega) v h w
 go_enter Tryz.func66,Tryz.ntmps66
 go_wp2_with (go_at_call 117;go_fit c;rintro e w1 ⟨rfl,hw⟩)
 have CA:RowKit.Below w.heap.size w w1:=by
  rcases hw with rfl|⟨t,rfl⟩
  .exact Below.refl _ _
  .exact Lib.bytesWorld_below _ _ _
 have cD:=Y8r v h0 h1 w1 (cO w1 CA);clear hw
 go_wp2_with (first|(go_at_call 76;go_fit cD;rintro e w2 ⟨rfl,k,os,rfl⟩)|(go_at_call 118;refine (Tryz.strings_TrimPrefix s ⟨#[45]⟩ _).mono ?_;rintro e w3 ⟨rfl,rfl⟩))
 all_goals go_ret2
 all_goals (
  have hg:RowKit.Below w.heap.size w (grow (w1.drewN k) os):=by
   refine⟨CA.os,CA.tape,CA.output,?_,λj hj=>?_⟩
   .show w.heap.size<=(w1.heap++os).size
    have:=CA.size;rw[uK];omega
   .show (w1.heap++os)[j]?=w.heap[j]?
    have:=CA.size;rw[gD (by omega)];exact CA.block j hj
  refine⟨?_,hg⟩)
 .rename_i e1 e2
  have:L6 s d v=(0,false):=by unfold L6;rw[Ak (by omega)]
  rw[this];rfl
 .rename_i e1 e2
  have:L6 s d v=(v,true):=by unfold L6;rw[Aj ⟨by rw[e1,Lib.toList_data],e2⟩]
  rw[this];rfl
 .rename_i e1
  have:L6 s d v=(0,false):=by unfold L6;rw[Ak (λh=>e1 (by rw[Lib.toList_data];exact h.1))]
  rw[this];rfl
abbrev Yje (x0:ByteArray) (x1:Int) (r:Int×Bool):Y:=(66,[.lit (.string x0),.lit (.int .i64 x1)],.AZ [.lit (.int .i64 r.1),.lit (.bool r.2)],[.undef,.undef])
theorem Xbf {P:Program} {u v:Value} (hu:D9 u=true) (hv:D9 v=true) (w':World) (ok top:Nat->Prop):Fu P w' ok top (.tuple #[u,v]) (.AZ [.lit u,.lit v]) []:=
 ⟨#[u,v],rfl,.cons (f1:=[]) (f2:=[]) (show Da P w' ok top u (.lit u) [] from .lit hu) (.cons (f1:=[]) (f2:=[]) (show Da P w' ok top v (.lit v) [] from .lit hv) .nil)⟩
theorem Ykv {l:List UInt8} {v:Int} (h:Lib.atoiAll l=.ok v):-9223372036854775808<=v/\v<=9223372036854775807:=by
 unfold Lib.atoiAll at h;split at h
 .cases h
 .simp only at h
  split at h
  .cases h
  .cases h
  .rename_i u hu
   split at h
   .cases h
   .rename_i h1
    split at h
    .cases h
    .rename_i h2
     injection h with h;split at h
     .rename_i h3
      have:u<=9223372036854775808:=gM λhh=>h2 ⟨h3,hh⟩;omega
     .rename_i h3
      have:u < 9223372036854775808:=uL λhh=>h1 ⟨h3,hh⟩;omega
theorem Yj7 [Anchor] [BF] {x0:ByteArray} {x1:Int} {r:Int×Bool} (h:Lz x0 x1=some r):Zq Tryz.prog Mo (Yje x0 x1 r):=by
 have key:∀(q:Int×Bool),(∀(w:World),Md w (λ_=>False)->Calls Tryz.prog 66 #[.string x0,.int .i64 x1] w λe w'=>e=.returned (.tuple #[.int .i64 q.1,.bool q.2])/\RowKit.Below w.heap.size w w')->Zq Tryz.prog Mo (Yje x0 x1 q):=λq hq=>by
  refine T6 (xs:=[.lit (.string x0),.lit (.int .i64 x1)]) (v:=.tuple #[.int .i64 q.1,.bool q.2]) ⟨_,Tryz.func66,by kernel_rfl⟩ (by kernel_rfl) (Xbf rfl rfl) λw us ok hA Yf hl he=>?_;obtain⟨u,v,rfl⟩:=Us hl;obtain rfl:=HU (he 0 u _ rfl rfl (λ_=>none));obtain rfl:=HU (he 1 v _ rfl rfl (λ_=>none));exact hq w hA
 unfold Lz at h;split at h
 case isFalse=>cases h
 rename_i h0
 match hq:Lib.atoiAll x0.data.toList with
 | .ok v=>
  rw[hq] at h;have hr:r=L6 x0 x1 v:=by
   unfold L6;simp only at h;split at h<;>rename_i hc<;>injection h with h
   .rw[Aj hc,<-h]
   .rw[Ak hc,<-h]
  rw[hr];refine key _ λw hA=>Y6q x0 x1 w v h0 hq (Ykv hq).1 (Ykv hq).2 λw' hb=>Ys1 (T:=λ_=>False) ⟨LX hA.1 hb.size,λk hk=>by rw[hb.block k (Hc hk hA.1)];exact hA.2.1 k hk,λg hg=>hg.elim⟩ BF.tab
 | Lib.NumEnd.syntax=>
  rw[hq] at h;injection h with h;obtain⟨ev,he,Hj⟩:=BF.MY;rw[<-h];exact key _ λw hA=>Y3x x0 x1 w h0 hq ev (cQ hA he) Hj
 | .range=>
  rw[hq] at h;injection h with h;obtain⟨ev,he,Hj⟩:=BF.MZ;rw[<-h];exact key _ λw hA=>Ys8 x0 x1 w h0 hq ev (cQ hA he) Hj
abbrev Yn7 (x0:Int) (r:ByteArray):Y:=(128,[.lit (.int .i64 x0)],.lit (.string r),[.undef])
theorem Yn8 [Anchor] [BF] {x0:Int} {r:ByteArray} (h:nT x0=some r):Zq Tryz.prog Mo (Yn7 x0 r):=by
 unfold nT at h;split at h
 case isFalse=>cases h
 rename_i h0;injection h with h;subst h;refine T6 (xs:=[.lit (.int .i64 x0)]) ⟨_,Tryz.func128,by kernel_rfl⟩ (by kernel_rfl) (kF rfl) λw us ok hA Yf hl he=>?_;obtain⟨u,rfl⟩:=us1 hl;obtain rfl:=HU (he 0 u _ rfl rfl (λ_=>none));refine (Tryz.strconv_Itoa x0 h0.1 h0.2 w (Ys1 hA BF.tab)).mono λe w' ⟨he,k,os,hw⟩=>⟨he,?_⟩;subst hw;refine⟨rfl,rfl,rfl,?_,λj hj=>?_⟩
 .show w.heap.size<=(w.heap++os).size
  rw[uK];omega
 .show (w.heap++os)[j]?=w.heap[j]?
  rw[gD hj]
abbrev Yn3 (x0:List ByteArray) (x1:ByteArray) (r:ByteArray):Y:=(31,[.tr (x0.map Zv),.lit (.string x1)],.lit (.string r),[.undef,.undef])
theorem OD [Anchor] [BF] {x0:List ByteArray} {x1:ByteArray} {r:ByteArray} (h:Qn x0 x1=some r):Zq Tryz.prog Mo (Yn3 x0 x1 r):=by
 unfold Qn at h;split at h
 case isFalse=>cases h
 rename_i h0;injection h with h;subst h;refine T6 (xs:=[.tr (x0.map Zv),.lit (.string x1)]) ⟨_,Tryz.func31,by kernel_rfl⟩ (by kernel_rfl) (kF rfl) λw us ok hA Yf hl he=>?_;obtain⟨u,v,rfl⟩:=Us hl;obtain rfl:=HU (he 1 v _ rfl rfl (λ_=>none));rcases Xa2 (he 0 u _ rfl rfl (λ_=>none)) with⟨A,c,rfl,rfl⟩|⟨g,o,c,rfl,hg,hc,Fj⟩
 .refine (Tryz.strings_Join_none A c x1 w).mono λe w' ⟨he,hw⟩=>⟨he,?_⟩
  subst hw;exact RowKit.Below.refl _ _
 .exact Tryz.strings_Join g o c x0 x1 w Fj (Yf g hg) h0.1 hc h0.2
abbrev Z9w (x0 x1:ByteArray) (r:ByteArray):Y:=(28,[.lit (.string x0),.lit (.string x1)],.lit (.string r),[.undef,.undef])
theorem Z98 [Anchor] [BF] {x0 x1:ByteArray} {r:ByteArray} (h:K9 x0 x1=some r):Zq Tryz.prog Mo (Z9w x0 x1 r):=by
 unfold K9 at h;split at h
 case isFalse=>cases h
 rename_i h0;injection h with h;subst h;refine T6 (xs:=[.lit (.string x0),.lit (.string x1)]) ⟨_,Tryz.func28,by kernel_rfl⟩ (by kernel_rfl) (kF rfl) λw us ok hA Yf hl he=>?_;obtain⟨u,v,rfl⟩:=Us hl;obtain rfl:=HU (he 0 u _ rfl rfl (λ_=>none));obtain rfl:=HU (he 1 v _ rfl rfl (λ_=>none));refine (Tryz.strings_TrimSuffix x0 x1 w h0).mono λe w' ⟨he,hw⟩=>⟨he,?_⟩;subst hw;exact RowKit.Below.refl _ _
end Go.Proofs.YthdljdelfgofdaaGreatDoor.Ev
