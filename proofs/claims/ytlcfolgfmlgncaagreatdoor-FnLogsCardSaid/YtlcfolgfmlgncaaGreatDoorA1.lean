/- A part of the proof of FnLogs: see the text YtlcfolgfmlgncaaGreatDoorLawFnLogs for what is proved and its conditions. Conditions here: those in each line. -/
import Derived.Below
import Derived.Calls
import Derived.Great.BuildSlice
import Derived.Laws.Append
import Derived.Laws.AppendOwn
import Derived.Laws.BytesString
import Derived.Laws.Cells
import Derived.Laws.CopyRow
import Derived.Laws.Entries
import Derived.Laws.MakeOwn
import Derived.Laws.NewBlocks
import Derived.Laws.Rows
import Derived.Laws.Sem
import Derived.Laws.Slices
import Derived.Laws.Tables
import Derived.Orders
import Derived.Test.YtlcfolgfmlgncaaGreatDoorProg
namespace Go.Proofs.YtlcfolgfmlgncaaGreatDoor.Ev
open Go
set_option linter.unusedVariables false
set_option linter.unusedSimpArgs false
abbrev Id:=Nat×Nat
inductive V where
 | undef
 | lit (v:Value)
 | agg (cs:List V)
 | tup (vs:List V)
 | ptr (id:Id) (i off:Nat)
 | rp (sh:Bool) (row:List V) (off:Nat)
 | sl (id:Id) (off len:Nat)
 | tr (rows:List (List V))
 | vw (rows:List (List V))
 | own (e:TypeId) (rows:List (List V))
 | obx (cs:List V)
 | fn (f:FuncId) (caps:List V)
 deriving Inhabited
structure Blk where
 box:Bool
 own:Bool
 cl:Bool
 el:TypeId
 rows:List (List V)
structure St where
 env:Nat→V
 heap:Id→Option Blk
 ep:Nat
def upd {α β:Type} [DecidableEq α] (f:α→β) (a:α) (b:β):α→β:=fun x=>if x=a then b else f x
def St.put (s:St) (dst:Option Tmp) (v:V):St:=match dst with|some d=>{s with env:=upd s.env d v}|none=>s
def St.setB (s:St) (id:Id) (b:Blk):St:={s with heap:=upd s.heap id (some b)}
def St.kill (s:St) (id:Id):St:={s with heap:=upd s.heap id none}
def eval? {α:Type} (P:Program):Sem α→Option α
 | .pure a=>some a
 | .program k=>eval? P (k P)
 | _=>none
def Wx:Value→Bool
 | .bool _|.int _ _|.string _|.float _ _|.pointer none|.slice none 0 0|.nilFunc|.nilIface=>true
 | _=>false
def W2:List V→Option (List Value)
 | []=>some []
 | .lit v::r=>(W2 r).map (v::·)
 | _=>none
def Yg:V→Option Value
 | .lit v=>some v
 | .agg cs=>(W2 cs).map fun l=>.agg l.toArray
 | _=>none
def Zb7:Value→Option V
 | .agg cs=>if cs.toList.all Wx then some (.agg (cs.toList.map .lit)) else none
 | v=>if Wx v then some (.lit v) else none
def St.opV (s:St):Operand→V
 | .tmp t=>s.env t
 | .const v=>(Zb7 v).getD .undef
 | .func f=>.fn f []
 | .global _=>.undef
def Zj9 {α:Type}:List (Option α)→Option (List α)
 | []=>some []
 | some a::r=>(Zj9 r).map (a::·)
 | none::_=>none
def Zfk:Op→Bool
 | .binOp ..|.unOp ..|.convert ..|.index ..|.slice ..|.field ..=>true
 | .call {callee:=.builtin .len,..}|.call {callee:=.builtin .min,..}|.call {callee:=.builtin .max,..}=>true
 | _=>false
def Ye (P:Program) (v:Operand→V) (o:Oper):Option V:=
 if Zfk o.op&&o.op.operands.toList.all (fun x=>(Yg (v x)).isSome) then
  match eval? P (execOp (fun x=>(Yg (v x)).getD undef) o) with
  | some (.value v)=>Zb7 v
  | _=>none
 else none
def aggT (P:Program) (t:TypeId):Bool:=match P.underlying t with|some (.struct _)|some (.array _ _)=>true|_=>false
def Zf (P:Program) (t:TypeId):Nat:=P.cellsOf t
def K8 (P:Program) (t:TypeId):Option (List V):=((P.info? t).bind (·.zero)).bind fun z=>if z.cells.toList.all Wx then some (z.cells.toList.map .lit) else none
def Yk (P:Program) (t:TypeId):Option TypeId:=match P.underlying t with|some (.slice e)=>some e|_=>none
def Zyt (P:Program) (t:TypeId) (k:Nat):Option Nat:=match P.underlying t with|some (.struct fs)=>(fs[k]?).bind fun f=>if P.cellsOf f.type=0 then none else some f.offset|_=>none
def W0:V→V
 | .lit (.slice none 0 0)=>.tr []
 | x=>x
def Zgw:V→Option (List V)
 | .agg cs=>some cs
 | .tup _|.undef|.own _ _|.obx _=>none
 | x=>some [x]
def cellish:V→Bool
 | .lit _|.tr _|.vw _|.rp ..|.ptr ..|.sl ..|.fn ..=>true
 | _=>false
def St.rowsOf (s:St):V→Option (List (List V))
 | .sl id off len=>(s.heap id).bind fun b=>if b.box=false∧off+len≤b.rows.length then some ((b.rows.drop off).take len) else none
 | .tr rows|.vw rows=>some rows
 | .lit (.slice none 0 0)=>some []
 | _=>none
def St.whole (s:St) (id:Id) (off len:Nat):Option (TypeId×List (List V)):=
 (s.heap id).bind fun b=>if b.box=false∧b.own=true∧b.cl=true∧off+len≤b.rows.length then some (b.el,(b.rows.drop off).take len) else none
def St.sink (s:St):List V→Option (List V×Bool×St)
 | []=>some ([],true,s)
 | x::r=>
  match x with
  | .lit (.slice none 0 0)=>(s.sink r).map fun y=>(.tr []::y.1,y.2)
  | .lit v=>(s.sink r).map fun y=>(.lit v::y.1,y.2)
  | .tr rows|.vw rows=>(s.sink r).map fun y=>(.tr rows::y.1,false,y.2.2)
  | .sl id off len=>match s.whole id off len with
   | some er=>((s.kill id).sink r).map fun y=>(.tr er.2::y.1,y.2)
   | none=>match s.heap id with
    | some b=>if b.own=false then (s.rowsOf (.sl id off len)).bind fun rows=>(s.sink r).map fun y=>(.tr rows::y.1,false,y.2.2) else none
    | none=>none
  | _=>none
def St.sinkRows (s:St):List (List V)→Option (List (List V)×Bool×St)
 | []=>some ([],true,s)
 | row::r=>(s.sink row).bind fun y=>(y.2.2.sinkRows r).map fun z=>(y.1::z.1,y.2.1&&z.2.1,z.2.2)
def Xx (l:List V) (off:Nat) (vs:List V):List V:=l.take off++vs++l.drop (off+vs.length)
def Zbk (P:Program) (t:TypeId) (cs:List V):Option V:=
 if (P.underlying t).isSome then if aggT P t then some (.agg cs) else match cs with|[x]=>some x|_=>none else none
def Zq9 (P:Program):Nat→TypeId→List (Option TypeId)
 | 0,_=>[]
 | n+1,t=>match P.underlying t with
  | some (.struct fs)=>fs.toList.flatMap fun f=>Zq9 P n f.type
  | some (.array k e)=>(List.replicate k (Zq9 P n e)).flatten
  | some (.slice e)=>[some e]
  | _=>[none]
def Znl (P:Program) (t:TypeId):List (Option TypeId):=match P.underlying t with|some (.pointer e)=>Zq9 P 9 e|_=>Zq9 P 9 t
inductive Mode where
 | rd|io|mv|iov
 deriving DecidableEq
def St.rdCell (s:St):V→Option V
 | .lit (.slice none 0 0)=>some (.tr [])
 | .lit v=>some (.lit v)
 | .tr rows|.vw rows=>some (.tr rows)
 | .sl id off len=>(s.rowsOf (.sl id off len)).map .tr
 | .rp _ row off=>some (.rp true row off)
 | _=>none
def St.rdCells (s:St):List V→Option (List V)
 | []=>some []
 | x::r=>(s.rdCell x).bind fun y=>(s.rdCells r).map (y::·)
def St.rdPlace (s:St):V→Option V
 | .ptr id i off=>(s.heap id).bind fun b=>if b.own=true then (b.rows[i]?).bind fun row=>(s.rdCells row).map fun cs=>.rp true cs off else none
 | x=>s.rdCell x
def St.rdPlaces (s:St):List V→Option (List V)
 | []=>some []
 | x::r=>(s.rdPlace x).bind fun y=>(s.rdPlaces r).map (y::·)
def St.rdArg (s:St):V→Option V
 | .agg cs=>(s.rdCells cs).map .agg
 | .fn f caps=>(s.rdPlaces caps).map (.fn f)
 | x=>s.rdPlace x
def St.rdArgM (s:St) (m:Mode) (x:V):Option V:=match m with|.rd=>s.rdArg x|_=>some x
def St.rdAll (s:St):List Mode→List V→Option (List V)
 | _,[]=>some []
 | ms,x::r=>(s.rdArgM (ms.headD .rd) x).bind fun y=>(s.rdAll ms.tail r).map (y::·)
def St.giveCell (s:St) (t:Option TypeId):V→Option (V×St)
 | .lit (.slice none 0 0)=>t.map fun e=>(.own e [],s)
 | .lit v=>some (.lit v,s)
 | .tr rows|.vw rows=>some (.tr rows,s)
 | .sl id off len=>(s.whole id off len).map fun er=>(.own er.1 er.2,s.kill id)
 | _=>none
def St.giveCells (s:St):List (Option TypeId)→List V→Option (List V×St)
 | _,[]=>some ([],s)
 | ts,x::r=>(s.giveCell (ts.headD none) x).bind fun y=>(y.2.giveCells ts.tail r).map fun z=>(y.1::z.1,z.2)
def St.giveArg (s:St) (ts:List (Option TypeId)):V→Option (V×St)
 | .agg cs=>(s.giveCells ts cs).map fun y=>(.agg y.1,y.2)
 | x=>s.giveCell (ts.headD none) x
def thin1:V→V
 | .sl _ _ 0=>.tr []
 | x=>x
def thin:V→V
 | .agg cs=>.agg (cs.map thin1)
 | x=>thin1 x
def St.giveBox (s:St) (ts:List (Option TypeId)) (id:Id):Option (List V×St):=
 (s.heap id).bind fun b=>if b.box=true∧b.own=true then match b.rows with
  | [row]=>(s.kill id).giveCells ts row
  | _=>none else none
def St.give (s:St) (ts:List (Option TypeId)) (m:Mode) (x:V):Option (V×St):=
 match m with
 | .rd=>some (x,s)
 | .io=>match x with
  | .ptr id 0 0=>(s.giveBox ts id).map fun y=>(.agg y.1,y.2)
  | _=>none
 | .mv=>s.giveArg ts x
 | .iov=>s.giveArg ts (thin x)
def St.gives (P:Program) (s:St):List TypeId→List Mode→List V→Option (List V×St)
 | _,_,[]=>some ([],s)
 | ts,ms,x::r=>(s.give (Znl P (ts.headD 0)) (ms.headD .rd) x).bind fun y=>(y.2.gives P ts.tail ms.tail r).map fun z=>(y.1::z.1,z.2)
def St.takeCell (s:St) (id:Id):V→Option (V×St)
 | .own e rows=>some (.sl id 0 rows.length,s.setB id ⟨false,true,true,e,rows⟩)
 | .lit v=>some (.lit v,s)
 | .tr rows=>some (.tr rows,s)
 | _=>none
def St.takeCells (s:St) (e:Nat):(k:Nat)→List V→Option (List V×St)
 | _,[]=>some ([],s)
 | k,x::r=>(s.takeCell (e,k) x).bind fun y=>(y.2.takeCells e (k+1) r).map fun z=>(y.1::z.1,z.2)
def St.takeOne (s:St) (e k:Nat):V→Option (V×St)
 | .agg cs=>if cs.length≤62 then (s.takeCells e k cs).map fun y=>(.agg y.1,y.2) else none
 | .obx cs=>if cs.length≤62 then (s.takeCells e k cs).map fun y=>(.ptr (e,k+63) 0 0,y.2.setB (e,k+63) ⟨true,true,true,0,[y.1]⟩) else none
 | x=>s.takeCell (e,k) x
def St.takeAll (s:St) (e:Nat):(k:Nat)→List V→Option (List V×St)
 | _,[]=>some ([],s)
 | k,x::r=>(s.takeOne e (64*k) x).bind fun y=>(y.2.takeAll e (k+1) r).map fun z=>(y.1::z.1,z.2)
def St.takeRes (s:St) (e k:Nat):V→Option (V×St)
 | .tup vs=>if vs.length≤8 then (s.takeAll e k vs).map fun y=>(.tup y.1,y.2) else none
 | x=>s.takeOne e (64*k) x
def St.backCells (s:St):List V→List V→Option St
 | [],_=>some s
 | .sl id 0 _::os,.own e rows::ns=>(s.setB id ⟨false,true,true,e,rows⟩).backCells os ns
 | _::os,_::ns=>s.backCells os ns
 | _::_,[]=>none
def St.back (s:St) (m:Mode) (e k:Nat) (x o:V):Option St:=
 match m with
 | .rd|.mv=>some s
 | .io=>match x,o with
  | .ptr id 0 0,.agg cs=>if cs.length≤62 then (s.takeCells e (64*k) cs).map fun y=>y.2.setB id ⟨true,true,true,0,[y.1]⟩ else none
  | _,_=>none
 | .iov=>match thin x,o with
  | .agg cs,.agg ns=>s.backCells cs ns
  | x,o=>s.backCells [x] [o]
def St.backs (s:St) (e:Nat):List Mode→(k:Nat)→List V→List V→Option St
 | _,_,[],_=>some s
 | ms,k,x::xs,o::os=>(s.back (ms.headD .rd) e k x o).bind fun s=>s.backs e ms.tail (k+1) xs os
 | _,_,_::_,[]=>none
abbrev Yw:=FuncId→List V→Option (V×List V)
def Za5 (n:Nat) (rows:List (List V)):Bool:=rows.all fun r=>r.length == n
def Zjs:V→Bool|.lit _=>true|_=>false
def We (rows:List (List V)):Bool:=rows.all fun r=>r.all Zjs
def St.moved (s:St) (all:Bool):V→Option (List (List V)×Bool×St)
 | .sl id off len=>match (if id.1=s.ep∨all=true then s.whole id off len else none) with
  | some er=>some (er.2,true,s.kill id)
  | none=>(s.rowsOf (.sl id off len)).map fun rows=>(rows,We rows,s)
 | x=>(s.rowsOf x).map fun rows=>(rows,We rows,s)
def Zfz (P:Program) (e:TypeId):Bool:=match (P.info? e).bind (·.zero) with|some z=>z.cells.size == P.cellsOf e|none=>false
def Zcn (P:Program) (all:Bool) (s:St) (id:Id) (t:TypeId) (b x:V):Option (V×St):=
 (Yk P t).bind fun e=>
 (s.moved all x).bind fun m=>
 if Za5 (Zf P e) m.1=true∧Zf P e≠0∧Zfz P e=true then
  match b with
  | .lit (.slice none 0 0)=>if m.1.length*P.bytesOf e≤140737488355328∧m.1.length≤9223372036854775807 then some (.sl id 0 m.1.length,m.2.2.setB id ⟨false,true,m.2.1,e,m.1⟩) else none
  | .sl i off len=>(m.2.2.heap i).bind fun k=>
   if k.box=false∧k.own=true∧off+len=k.rows.length∧k.el=e∧(len+m.1.length)*P.bytesOf e≤140737488355328∧len+m.1.length≤9223372036854775807 then
    some (.sl id 0 (len+m.1.length),(m.2.2.kill i).setB id ⟨false,true,k.cl&&m.2.1,e,k.rows.drop off++m.1⟩)
   else none
  | _=>none
 else none
def Yf:V→Option Nat
 | .lit (.int _ n)=>if 0≤n then some n.toNat else none
 | _=>none
def Zfj (P:Program) (s:St) (t:TypeId) (x:V) (lo hi:Option V):Option V:=
 (Yk P t).bind fun e=>(s.rowsOf x).bind fun rows=>
 let l:=match lo with|some v=>Yf v|none=>some 0
 let h:=match hi with|some v=>Yf v|none=>some rows.length
 l.bind fun l=>h.bind fun h=>if l≤h∧h≤rows.length∧Za5 (Zf P e) rows=true∧Zf P e≠0 then
  match x with
  | .sl id off _=>some (.sl id (off+l) (h - l))
  | .tr rows=>some (.tr ((rows.drop l).take (h - l)))
  | .vw rows=>some (.vw ((rows.drop l).take (h - l)))
  | _=>none
 else none
def Zfr (P:Program) (place:Nat→Option (Nat×Nat)) (cells:List V):List (Nat×V)→Option (List V)
 | []=>some cells
 | (i,v)::rest=>(place i).bind fun p=>(Zgw v).bind fun cs=>
  if cs.length=p.2∧p.1+p.2≤cells.length then Zfr P place (Xx cells p.1 cs) rest else none
def Zf1 (sz:Nat):Nat→List V→List (List V)
 | 0,_=>[]
 | n+1,l=>l.take sz::Zf1 sz n (l.drop sz)
def Zh5 (rows:List (List V)):Option (List UInt8):=Zj9 (rows.map fun r=>match r with|[.lit (.int .u8 n)]=>some (UInt8.ofNat n.toNat)|_=>none)
def isIntT (P:Program) (t:TypeId):Bool:=match P.underlying t with|some (.int _)=>true|_=>false
structure Hints where
 modes:FuncId→List Mode
 mv:String→Bool
def isTr:V→Bool|.tr _=>true|_=>false
def Za6:V→Bool|.agg cs|.obx cs=>cs.any isTr|x=>isTr x
def Zn9:V→Bool|.tup vs=>vs.any Za6|x=>Za6 x
def Zii:V→Bool
 | .lit _|.tr _|.vw _|.rp ..=>true
 | _=>false
def plain:V→Bool
 | .agg cs|.fn _ cs=>cs.all Zii
 | x=>Zii x
def Zyk (m:Mode) (x:V):Bool:=match m with|.rd=>plain x|_=>true
def Zcv:List Mode→List V→Bool
 | _,[]=>true
 | ms,x::r=>Zyk (ms.headD .rd) x&&Zcv ms.tail r
def Zeq (P:Program) (M:Hints) (C:Yw) (s:St) (k:Nat) (g:FuncId) (args:List V):Option (V×St):=
 if args.length≤8 then
  (s.gives P (((P.funcs[g]?).map (·.params.toList)).getD []) (M.modes g) args).bind fun y=>(y.2.rdAll (M.modes g) y.1).bind fun xs=>(C g xs).bind fun r=>
   if (Zn9 r.1||r.2.any Za6)&&!Zcv (M.modes g) args then none else
   (y.2.backs s.ep (M.modes g) (16*k+8) args r.2).bind fun s'=>s'.takeRes s.ep (16*k) r.1
 else none
def Zq (P:Program) (M:Hints) (C:Yw) (v:Operand→V) (s:St) (k:Nat) (o:Oper):Option (V×St):=
 let pure1 (x:Option V):Option (V×St):=x.map fun y=>(y,s)
 let id:Id:=(s.ep,1024*k)
 match o.op with
 | .move x|.assign x=>match v x with|.undef=>none|y=>some (y,s)
 | .pick c a b=>match v c with|.lit (.bool c)=>some (if c then v a else v b,s)|_=>none
 | .extract t i=>match v t with|.tup vs=>pure1 vs[i]?|_=>none
 | .nilCheck x=>match v x with|.ptr i j n=>some (.ptr i j n,s)|.rp b r n=>some (.rp b r n,s)|.fn f cs=>some (.fn f cs,s)|_=>none
 | .alloc t=>(K8 P t).map fun z=>(.ptr id 0 0,s.setB id ⟨true,true,true,t,[z]⟩)
 | .box t x=>(Zgw (v x)).bind fun cs=>if cs.length=Zf P t then some (.ptr id 0 0,s.setB id ⟨true,true,true,t,[cs]⟩) else none
 | .build t parts=>(K8 P t).bind fun z=>match P.underlying t with
  | some (.struct fs)=>if fs.toList.all (fun f=>(P.info? f.type).isSome)=false then none else (Zfr P (fun i=>(fs[i]?).map fun f=>(f.offset,P.cellsOf f.type)) z (parts.toList.map fun p=>(p.1,v p.2))).map fun cs=>(.agg cs,s)
  | _=>none
 | .buildSlice t n parts=>(Yk P t).bind fun e=>
  let sz:=Zf P e
  (if n*sz=0 then some [] else K8 P e).bind fun z=>
  if sz=0∨n*sz > 1048576∨Zfz P e=false then none else
  (Zfr P (fun i=>some (i*sz,sz)) (List.replicate n z).flatten (parts.toList.map fun p=>(p.1,v p.2))).bind fun cs=>
   (s.sinkRows (Zf1 sz n cs)).map fun y=>(.sl id 0 n,y.2.2.setB id ⟨false,true,y.2.1,e,y.1⟩)
 | .load t a=>match v a with
  | .ptr i j n=>(s.heap i).bind fun b=>(b.rows[j]?).bind fun row=>if n+Zf P t≤row.length then pure1 (Zbk P t ((row.drop n).take (Zf P t))) else none
  | .rp sh row n=>if n+Zf P t≤row.length then pure1 (Zbk P t ((row.drop n).take (Zf P t))) else none
  | _=>none
 | .store t a x=>match v a with
  | .ptr i j n=>(s.heap i).bind fun b=>(b.rows[j]?).bind fun row=>(Zgw (v x)).bind fun cs=>
   if b.own=true∧cs.length=Zf P t∧n+Zf P t≤row.length∧Zf P t≠0 then
    if b.box then some (.undef,s.setB i {b with rows:=b.rows.set j (Xx row n cs)})
    else (s.sink cs).bind fun y=>match y.2.2.heap i with
     | some b=>some (.undef,y.2.2.setB i {b with cl:=b.cl&&y.2.1,rows:=b.rows.set j (Xx row n y.1)})
     | none=>none
   else none
  | _=>none
 | .fieldAddr t x f=>(Zyt P t f).bind fun off=>match v x with
  | .ptr i j n=>some (.ptr i j (n+off),s)
  | .rp b row n=>some (.rp b row (n+off),s)
  | _=>none
 | .indexAddr t x ix=>(Yk P t).bind fun e=>if Zf P e=0 then none else (Yf (v ix)).bind fun n=>match v x with
  | .sl i off len=>if n < len then (s.heap i).bind fun b=>(b.rows[off+n]?).bind fun row=>if row.length=Zf P e then some (.ptr i (off+n) 0,s) else none else none
  | .tr rows=>(rows[n]?).bind fun row=>if row.length=Zf P e then some (.rp true row 0,s) else none
  | .vw rows=>(rows[n]?).bind fun row=>if row.length=Zf P e then some (.rp false row 0,s) else none
  | _=>none
 | .slice t x lo hi none=>match v x with
  | .sl ..|.tr _|.vw _=>pure1 (Zfj P s t (v x) (lo.map v) (hi.map v))
  | _=>pure1 (Ye P v o)
 | .makeSlice t l c=>(Yk P t).bind fun e=>(K8 P e).bind fun z=>(Yf (v l)).bind fun n=>(Yf (v c)).bind fun m=>
  if n=m∧n*P.bytesOf e≤70368744177664∧n≤9223372036854775807∧z.length=Zf P e∧Zf P e≠0 then some (.sl id 0 n,s.setB id ⟨false,true,true,e,List.replicate n (z.map W0)⟩) else none
 | .makeFunc (.func f) first caps=>if first.size=0 then some (.fn f (caps.toList.map v),s) else none
 | .convert src dst x=>match v x with
  | .lit _=>pure1 (Ye P v o)
  | y=>match P.underlying src,P.underlying dst with
   | some (.slice e),some .string=>match P.underlying e with
    | some (.int .u8)=>(s.rowsOf y).bind fun rows=>(Zh5 rows).map fun bs=>(.lit (.string ⟨bs.toArray⟩),s)
    | _=>none
   | some (.slice _),some (.slice _)=>none
   | _,_=>none
 | .call c=>match c.callee with
  | .builtin .append=>match c.args.toList,c.argTypes.toList with
   | [b,x],[t,t']=>if t=t' then Zcn P (M.mv o.pos) s id t (v b) (v x) else none
   | _,_=>none
  | .builtin .len=>match c.args.toList,c.argTypes.toList with
   | [x],[t]=>match v x with
    | .sl _ _ n=>if (Yk P t).isSome then some (.lit (.int .i64 n),s) else none
    | .tr rows|.vw rows=>if (Yk P t).isSome then some (.lit (.int .i64 rows.length),s) else none
    | _=>pure1 (Ye P v o)
   | _,_=>none
  | .builtin .clear=>match c.args.toList,c.argTypes.toList with
   | [x],[t]=>(Yk P t).bind fun e=>(K8 P e).bind fun z=>match v x with
    | .sl i off n=>(s.heap i).bind fun b=>if b.own=true∧b.box=false∧off+n≤b.rows.length∧b.el=e∧z.length=Zf P e∧Zf P e≠0 then
      some (.tup [],s.setB i {b with rows:=b.rows.take off++List.replicate n (z.map W0)++b.rows.drop (off+n)}) else none
    | _=>none
   | _,_=>none
  | .builtin _=>pure1 (Ye P v o)
  | .value f=>match v f with
   | .fn g caps=>Zeq P M C s k g (c.args.toList.map v++caps)
   | _=>none
  | _=>none
 | .binOp op t x y _=>match v x,v y with
  | .lit _,.lit _|.agg _,_|_,.agg _=>pure1 (Ye P v o)
  | a,.lit (.slice none 0 0)|.lit (.slice none 0 0),a=>if (Yk P t).isSome=false then none else match op,s.rowsOf a with
   | .eql,some (_::_)=>some (.lit (.bool false),s)
   | .neq,some (_::_)=>some (.lit (.bool true),s)
   | _,_=>none
  | _,_=>none
 | _=>pure1 (Ye P v o)
def evOp (P:Program) (M:Hints) (C:Yw) (s:St) (k:Nat) (o:Oper):Option (V×St):=Zq P M C s.opV s k o
def wanted (s:St) (ops:Array Oper) (o:Oper):Option Bool:=
 match o.guard with
 | none=>some true
 | some (j,b)=>match ((ops[j]?).bind (·.dst)).map s.env with
  | some (.lit (.bool c))=>some (c == b)
  | some (.tup [])=>some false
  | _=>none
def Ju (P:Program) (M:Hints) (C:Nat→Yw) (ops:Array Oper) (s:St):(k:Nat)→List Oper→Option St
 | _,[]=>some s
 | k,o::rest=>
  (wanted s ops o).bind fun g=>
  if g then (evOp P M (C k) s k o).bind fun y=>Ju P M C ops (y.2.put o.dst y.1) (k+1) rest
  else Ju P M C ops (s.put o.dst (.tup [])) (k+1) rest
def ids1:V→List Id
 | .sl id _ _|.ptr id _ _=>[id]
 | _=>[]
def ids:V→List Id
 | .agg cs|.fn _ cs=>cs.flatMap ids1
 | x=>ids1 x
def St.deep (s:St) (id:Id):List Id:=match s.heap id with|some b=>if b.box then b.rows.flatMap (fun r=>r.flatMap ids) else []|none=>[]
def St.storeT (s:St) (d:List Id):V→List Id
 | .ptr i _ _=>match s.heap i with
  | some b=>match b.box,b.rows with
   | true,[_]=>[i]
   | _,_=>d
  | none=>d
 | _=>d
def touch (s:St) (o:Oper):List Id:=
 let d:=o.op.operands.toList.flatMap fun x=>ids (s.opV x)
 match o.op with
 | .store _ a _=>s.storeT d (s.opV a)
 | .load ..|.indexAddr ..|.slice ..|.convert ..|.buildSlice ..|.binOp ..=>d
 | .call {callee:=.value _,..}=>let e:=d.flatMap s.deep;d++e++e.flatMap s.deep
 | .call _=>d
 | _=>[]
def Zc4 (M:Hints) (f:Operand→V) (o:Oper):Bool:=
 match o.op with
 | .store ..|.buildSlice ..=>true
 | .call c=>match c.callee with
  | .builtin .append|.builtin .clear=>true
  | .value x=>match f x with|.fn g _=>(M.modes g).any fun m=>m != .rd|_=>true
  | _=>false
 | _=>false
structure Rec where
 pre:List Nat
 T:List Id
 w:Bool
def St.only (s:St) (T:List Id):St:={s with heap:=fun id=>if T.contains id then s.heap id else none}
def Ya (e k:Nat) (id:Id):Bool:=id.1 == e&&id.2 / 1024 == k
def St.merge (s:St) (k:Nat) (T:List Id) (w:Bool) (y:St):St:={s with heap:=fun id=>if Ya s.ep k id||(w&&T.contains id) then y.heap id else s.heap id}
def Zhd (recs:List Rec) (o:Oper):List Nat:=((o.after.toList.filter (Region.binds .any ·)).flatMap fun e=>e.on::((recs[e.on]?).map (·.pre)).getD []).eraseDups
def Zd6 (ops:Array Oper) (e:Nat) (recs:List Rec) (pr:List Nat) (k:Nat) (o:Oper) (T:List Id) (w:Bool):Bool:=
 (o.after.toList.all fun a=>!Region.binds .any a||decide (a.on < k))&&T.all (fun id=>!(id.1 == e&&decide (k≤id.2 / 1024)))&&
 recs.zipIdx.all fun p=>pr.contains p.2||
  (match ops[p.2]? with|some q=>q.apart ops o|none=>false)&&T.all (fun id=>!Ya e p.2 id)&&p.1.T.all (fun id=>!Ya e k id)&&(!(p.1.w||w)||T.all (fun id=>!p.1.T.contains id))
def Qo (P:Program) (M:Hints) (C:Nat→Yw) (ops:Array Oper) (s:St) (recs:List Rec):(k:Nat)→List Oper→Option St
 | _,[]=>some s
 | k,o::rest=>
  let pr:=Zhd recs o
  (wanted s ops o).bind fun g=>
  if g then
   let T:=touch s o
   let w:=Zc4 M s.opV o
   if Zd6 ops s.ep recs pr k o T w then (Zq P M (C k) s.opV (s.only T) k o).bind fun y=>Qo P M C ops ((s.merge k T w y.2).put o.dst y.1) (recs++[⟨pr,T,w⟩]) (k+1) rest else none
  else if Zd6 ops s.ep recs pr k o [] false then Qo P M C ops (s.put o.dst (.tup [])) (recs++[⟨pr,[],false⟩]) (k+1) rest else none
inductive Ex where
 | normal|ret|exit (n:Nat)
 deriving DecidableEq
def resV (P:Program) (s:St):List ResultVar→Option (List V)
 | []=>some []
 | .tmp t::r=>match s.env t with|.undef=>none|x=>(resV P s r).map (x::·)
 | .cell a t::r=>match s.env a with
  | .ptr i j n=>(s.heap i).bind fun b=>(b.rows[j]?).bind fun row=>if n+Zf P t≤row.length then (Zbk P t ((row.drop n).take (Zf P t))).bind fun x=>(resV P s r).map (x::·) else none
  | _=>none
def St.liftOne (s:St) (ts:List (Option TypeId)):V→Option (V×St)
 | .agg cs=>(s.giveCells ts cs).map fun y=>(.agg y.1,y.2)
 | .ptr id 0 0=>(s.giveBox ts id).map fun y=>(.obx y.1,y.2)
 | x=>s.giveCell (ts.headD none) x
def St.liftAll (P:Program) (s:St):List TypeId→List V→Option (List V×St)
 | _,[]=>some ([],s)
 | ts,x::r=>(s.liftOne (Znl P (ts.headD 0)) x).bind fun y=>(y.2.liftAll P ts.tail r).map fun z=>(y.1::z.1,z.2)
def St.enter (s:St) (p:Nat) (m:Mode) (x:V):Option St:=
 if p < 1000 then match m with
 | .rd=>some (s.put (some p) x)
 | .io=>match x with
  | .agg cs=>(s.takeOne 0 (64*p) (.obx cs)).map fun y=>y.2.put (some p) y.1
  | _=>none
 | .mv|.iov=>match x with
  | .obx _=>none
  | x=>(s.takeOne 0 (64*p) x).map fun y=>y.2.put (some p) y.1
 else none
def St.enters (s:St):(p:Nat)→List Mode→List V→Option St
 | _,_,[]=>some s
 | p,ms,x::r=>(s.enter p (ms.headD .rd) x).bind fun s=>s.enters (p+1) ms.tail r
def St.outCells (s:St) (p:Nat):(k:Nat)→List V→Option (List V×St)
 | _,[]=>some ([],s)
 | k,.own e rows::r=>(s.whole (0,64*p+k) 0 rows.length).bind fun er=>if er.1=e then ((s.kill (0,64*p+k)).outCells p (k+1) r).map fun z=>(.own er.1 er.2::z.1,z.2) else none
 | k,_::r=>(s.outCells p (k+1) r).map fun z=>(.undef::z.1,z.2)
def St.out (s:St) (p:Nat) (ts:List (Option TypeId)) (m:Mode) (x:V):Option (V×St):=
 match m with
 | .rd|.mv=>some (.undef,s)
 | .io=>match x with
  | .agg cs=>(s.giveBox ts (0,64*p+63)).bind fun y=>if y.1.length=cs.length then some (.agg y.1,y.2) else none
  | _=>none
 | .iov=>match x with
  | .agg cs=>(s.outCells p 0 cs).map fun y=>(.agg y.1,y.2)
  | x=>(s.outCells p 0 [x]).bind fun y=>(y.1.head?).map fun v=>(v,y.2)
def St.outs (P:Program) (s:St):(p:Nat)→List TypeId→List Mode→List V→Option (List V)
 | _,_,_,[]=>some []
 | p,ts,ms,x::r=>(s.out p (Znl P (ts.headD 0)) (ms.headD .rd) x).bind fun y=>(y.2.outs P (p+1) ts.tail ms.tail r).map (y.1::·)
def Zpq:List V→V
 | [x]=>x
 | l=>.tup l
end Go.Proofs.YtlcfolgfmlgncaaGreatDoor.Ev
namespace Go.Proofs.YtlcfolgfmlgncaaGreatDoor.Ev
open Go Go.RowKit
set_option linter.unusedVariables false
set_option linter.unusedSimpArgs false
inductive Rd (w:World) (ok:Nat→Prop):Value→V→Prop
 | lit {v:Value} (h:Wx v=true):Rd w ok v (.lit v)
 | emp {A:Option Addr} {c:Nat}:Rd w ok (.slice A 0 c) (.tr [])
 | tr {g o n c sz:Nat} {rows:List (List V)} {u:Nat→Value} (hn:rows.length=n) (hc:n≤c) (hm:c≤maxLen) (hs:∀r∈rows,r.length=sz) (hg:ok g)
   (hu:∀(k:Nat) (x:V),rows.flatten[k]?=some x→w.cell? ⟨g,o+k,none⟩=some (u k)) (hr:∀(k:Nat) (x:V),rows.flatten[k]?=some x→Rd w ok (u k) x):
   Rd w ok (.slice (some ⟨g,o,none⟩) n c) (.tr rows)
 | rp {g o off:Nat} {sh:Bool} {row:List V} {u:Nat→Value} (hg:ok g)
   (hu:∀(k:Nat) (x:V),row[k]?=some x→w.cell? ⟨g,o+k,none⟩=some (u k)) (hr:∀(k:Nat) (x:V),row[k]?=some x→Rd w ok (u k) x):
   Rd w ok (.pointer (some ⟨g,o+off,none⟩)) (.rp sh row off)
 | fn {f:FuncId} {vs:Array Value} {caps:List V} (hl:vs.size=caps.length) (hr:∀(k:Nat) (v:Value) (x:V),vs[k]?=some v→caps[k]?=some x→Rd w ok v x):
   Rd w ok (.func (.func f) #[] vs) (.fn f caps)
theorem Zvr {w:World} {g o:Nat} {v:Value} (h:w.cell? ⟨g,o,none⟩=some v):g < w.heap.size:=by
 unfold World.cell? at h
 split at h
 ·rename_i c e f hc
  exact (Array.getElem?_eq_some_iff.1 hc).1
 ·cases h
theorem Z35 {w w':World} {g o:Nat} (h:w'.heap[g]?=w.heap[g]?):w'.cell? ⟨g,o,none⟩=w.cell? ⟨g,o,none⟩:=by
 unfold World.cell?
 rw[h]
theorem Rd.frame {w w':World} {ok ok':Nat→Prop} {v:Value} {x:V} (h:Rd w ok v x) (hw:∀g,ok g→g < w.heap.size→w'.heap[g]?=w.heap[g]?) (hok:∀g,ok g→g < w.heap.size→ok' g) (hne:∀g,ok g→g < w.heap.size∨ok' g):Rd w' ok' v x:=by
 induction h with
 | lit h=>exact .lit h
 | emp=>exact .emp
 | @tr g o n c sz rows u hn hc hm hs hg hu hr ih=>
  refine .tr hn hc hm hs ?_ (fun k x hk=>?_) ih
  ·rcases hne g hg with h1|h1
   ·exact hok g hg h1
   ·exact h1
  ·have:=hu k x hk
   rw[Z35 (hw g hg (Zvr this))];exact this
 | @rp g o off sh row u hg hu hr ih=>
  refine .rp ?_ (fun k x hk=>?_) ih
  ·rcases hne g hg with h1|h1
   ·exact hok g hg h1
   ·exact h1
  ·have:=hu k x hk
   rw[Z35 (hw g hg (Zvr this))];exact this
 | fn hl hr ih=>exact .fn hl ih
theorem Rd.mono {w w':World} {ok ok':Nat→Prop} {v:Value} {x:V} (h:Rd w ok v x) (hw:∀g,ok g→g < w.heap.size→w'.heap[g]?=w.heap[g]?) (hok:∀g,ok g→ok' g):Rd w' ok' v x:=
 h.frame hw (fun g h _=>hok g h) (fun g h=>.inr (hok g h))
mutual
inductive Ow (w:World):Value→V→List Nat→Prop
 | lit {v:Value} (h:Wx v=true):Ow w v (.lit v) []
 | emp {A:Option Addr}:Ow w (.slice A 0 0) (.tr []) []
 | tr {g o n c sz:Nat} {cur:Array Value} {e:TypeId} {rows:List (List V)} {fp:List Nat} (hb:w.heap[g]?=some (.cells cur e (0,0))) (hn:rows.length=n) (hc:n≤c) (hm:c≤maxLen) (hs:∀r∈rows,r.length=sz)
   (hz:o+c*sz=cur.size) (hl:OwL w ((cur.toList.drop o).take (n*sz)) rows.flatten fp):Ow w (.slice (some ⟨g,o,none⟩) n c) (.tr rows) (g::fp)
inductive OwL (w:World):List Value→List V→List Nat→Prop
 | nil:OwL w [] [] []
 | cons {v:Value} {x:V} {vs:List Value} {xs:List V} {f1 f2:List Nat} (h:Ow w v x f1) (hs:OwL w vs xs f2):OwL w (v::vs) (x::xs) (f1++f2)
end
theorem Ow.frame {w w':World} {v:Value} {x:V} {fp:List Nat} (h:Ow w v x fp):(∀g∈fp,w'.heap[g]?=w.heap[g]?)→Ow w' v x fp:=by
 apply Ow.rec (motive_1:=fun v x fp _=>(∀g∈fp,w'.heap[g]?=w.heap[g]?)→Ow w' v x fp) (motive_2:=fun vs xs fp _=>(∀g∈fp,w'.heap[g]?=w.heap[g]?)→OwL w' vs xs fp) ?_ ?_ ?_ ?_ ?_ h
 ·intro v h _;exact .lit h
 ·intro A _;exact .emp
 ·intro g o n c sz cur e rows fp hb hn hc hm hs hz hl ih hw
  exact .tr (by rw[hw g List.mem_cons_self];exact hb) hn hc hm hs hz (ih fun k hk=>hw k (List.mem_cons_of_mem _ hk))
 ·intro _;exact .nil
 ·intro v x vs xs f1 f2 h hs ih1 ih2 hw
  exact .cons (ih1 fun k hk=>hw k (List.mem_append_left _ hk)) (ih2 fun k hk=>hw k (List.mem_append_right _ hk))
theorem OwL.frame {w w':World} {vs:List Value} {xs:List V} {fp:List Nat} (h:OwL w vs xs fp):(∀g∈fp,w'.heap[g]?=w.heap[g]?)→OwL w' vs xs fp:=by
 induction xs generalizing vs fp with
 | nil=>intro _;cases h;exact .nil
 | cons x xs ih=>
  intro hw
  cases h with
  | cons h hs=>exact .cons (h.frame fun g hg=>hw g (List.mem_append_left _ hg)) (ih hs fun g hg=>hw g (List.mem_append_right _ hg))
theorem OwL.get {w:World} {vs:List Value} {xs:List V} {fp:List Nat} (h:OwL w vs xs fp):∀(k:Nat) (x:V),xs[k]?=some x→∃v f,vs[k]?=some v∧Ow w v x f∧∀g∈f,g∈fp:=by
 induction xs generalizing vs fp with
 | nil=>intro k x hk;simp at hk
 | cons y ys ih=>
  intro k x hk
  cases h with
  | @cons v _ vs _ f1 f2 h hs=>
   cases k with
   | zero=>
    have hxy:y=x:=by simpa using hk
    subst hxy
    exact⟨v,f1,rfl,h,fun g hg=>List.mem_append_left _ hg⟩
   | succ k=>
    obtain⟨v',f,h1,h2,h3⟩:=ih hs k x (by simpa using hk)
    exact⟨v',f,by simpa using h1,h2,fun g hg=>List.mem_append_right _ (h3 g hg)⟩
theorem OwL.length {w:World} {vs:List Value} {xs:List V} {fp:List Nat} (h:OwL w vs xs fp):vs.length=xs.length:=by
 induction xs generalizing vs fp with
 | nil=>cases h;rfl
 | cons y ys ih=>cases h with|cons h hs=>simp[ih hs]
theorem Ow.rd {w:World} {ok:Nat→Prop} {v:Value} {x:V} {fp:List Nat} (h:Ow w v x fp):(∀g∈fp,ok g)→Rd w ok v x:=by
 apply Ow.rec (motive_1:=fun v x fp _=>(∀g∈fp,ok g)→Rd w ok v x) (motive_2:=fun vs xs fp _=>(∀g∈fp,ok g)→∀(k:Nat) (x:V),xs[k]?=some x→∃v,vs[k]?=some v∧Rd w ok v x) ?_ ?_ ?_ ?_ ?_ h
 ·intro v h _;exact .lit h
 ·intro A _;exact .emp
 ·intro g o n c sz cur e rows fp hb hn hc hm hs hz hl ih hw
  have ih':=ih fun k hk=>hw k (List.mem_cons_of_mem _ hk)
  refine .tr (u:=fun k=>((cur.toList.drop o).take (n*sz)).getD k undef) hn hc hm hs (hw g List.mem_cons_self) (fun k x hk=>?_) (fun k x hk=>?_)
  ·obtain⟨v,hv,_⟩:=ih' k x hk
   rw[cell_of_row w g _ cur e (0,0) hb,List.getD_eq_getElem?_getD,hv]
   rw[List.getElem?_take] at hv
   split at hv
   ·simpa using hv
   ·cases hv
  ·obtain⟨v,hv,hr⟩:=ih' k x hk
   rw[List.getD_eq_getElem?_getD,hv];exact hr
 ·intro _ k x hk;simp at hk
 ·intro v x vs xs f1 f2 h hs ih1 ih2 hw k y hk
  cases k with
  | zero=>
   have:x=y:=by simpa using hk
   subst this
   exact⟨v,rfl,ih1 fun g hg=>hw g (List.mem_append_left _ hg)⟩
  | succ k=>
   obtain⟨v',h1,h2⟩:=ih2 (fun g hg=>hw g (List.mem_append_right _ hg)) k y (by simpa using hk)
   exact⟨v',by simpa using h1,h2⟩
theorem OwL.rd {w:World} {ok:Nat→Prop} {vs:List Value} {xs:List V} {fp:List Nat} (h:OwL w vs xs fp) (hg:∀g∈fp,ok g) {k:Nat} {x:V} (hk:xs[k]?=some x):∃v,vs[k]?=some v∧Rd w ok v x:=by
 obtain⟨v,f,h1,h2,h3⟩:=h.get k x hk
 exact⟨v,h1,h2.rd fun g h=>hg g (h3 g h)⟩
theorem Ow.lt {w:World} {v:Value} {x:V} {fp:List Nat} (h:Ow w v x fp):∀g∈fp,g < w.heap.size:=by
 apply Ow.rec (motive_1:=fun v x fp _=>∀g∈fp,g < w.heap.size) (motive_2:=fun vs xs fp _=>∀g∈fp,g < w.heap.size) ?_ ?_ ?_ ?_ ?_ h
 ·intro v h g hg;simp at hg
 ·intro A g hg;simp at hg
 ·intro g o n c sz cur e rows fp hb hn hc hm hs hz hl ih k hk
  rcases List.mem_cons.1 hk with rfl|hk
  ·exact (Array.getElem?_eq_some_iff.1 hb).1
  ·exact ih k hk
 ·intro g hg;simp at hg
 ·intro v x vs xs f1 f2 h hs ih1 ih2 g hg
  rcases List.mem_append.1 hg with hg|hg
  ·exact ih1 g hg
  ·exact ih2 g hg
theorem OwL.lt {w:World} {vs:List Value} {xs:List V} {fp:List Nat} (h:OwL w vs xs fp):∀g∈fp,g < w.heap.size:=by
 induction xs generalizing vs fp with
 | nil=>cases h;intro g hg;simp at hg
 | cons x xs ih=>
  cases h with
  | cons h hs=>
   intro g hg
   rcases List.mem_append.1 hg with hg|hg
   ·exact h.lt g hg
   ·exact ih hs g hg
theorem OwL.append {w:World} {vs us:List Value} {xs ys:List V} {f1 f2:List Nat} (h1:OwL w vs xs f1) (h2:OwL w us ys f2):OwL w (vs++us) (xs++ys) (f1++f2):=by
 induction xs generalizing vs f1 with
 | nil=>cases h1;exact h2
 | cons x xs ih=>
  cases h1 with
  | cons h hs=>rw[List.append_assoc];exact .cons h (ih hs)
theorem Ow.one {w:World} {v:Value} {x:V} {fp:List Nat} (h:Ow w v x fp):v.oneCell'=true:=by
 cases h with
 | lit h=>cases v<;>simp_all [Wx,Value.oneCell']
 | emp=>rfl
 | tr=>rfl
theorem OwL.one {w:World} {vs:List Value} {xs:List V} {fp:List Nat} (h:OwL w vs xs fp):∀u∈vs,u.oneCell'=true:=by
 induction xs generalizing vs fp with
 | nil=>cases h;intro u hu;simp at hu
 | cons x xs ih=>
  cases h with
  | cons h hs=>
   intro u hu
   rcases List.mem_cons.1 hu with rfl|hu
   ·exact h.one
   ·exact ih hs u hu
theorem Rd.one {w:World} {ok:Nat→Prop} {v:Value} {x:V} (h:Rd w ok v x):v.oneCell'=true:=by
 cases h with
 | lit h=>cases v<;>simp_all [Wx,Value.oneCell']
 | emp=>rfl
 | tr=>rfl
 | rp=>rfl
 | fn=>rfl
inductive Info where
 | emp
 | blk (g o c sz:Nat)
abbrev Rho:=Id→Option Info
inductive En (w:World) (ok:Nat→Prop) (ρ:Rho):Value→V→Prop
 | undef {v:Value}:En w ok ρ v .undef
 | lit {v:Value} (h:Wx v=true):En w ok ρ v (.lit v)
 | tr {v:Value} {rows:List (List V)} (h:Rd w ok v (.tr rows)):En w ok ρ v (.tr rows)
 | vw {v:Value} {rows:List (List V)} (h:Rd w ok v (.tr rows)):En w ok ρ v (.vw rows)
 | rp {v:Value} {sh:Bool} {row:List V} {off:Nat} (h:Rd w ok v (.rp sh row off)):En w ok ρ v (.rp sh row off)
 | ptr {id:Id} {g o c sz i off:Nat} (h:ρ id=some (.blk g o c sz)):En w ok ρ (.pointer (some ⟨g,o+i*sz+off,none⟩)) (.ptr id i off)
 | sl {id:Id} {g o c sz off len:Nat} (h:ρ id=some (.blk g o c sz)) (hc:off+len≤c):En w ok ρ (.slice (some ⟨g,o+off*sz,none⟩) len (c - off)) (.sl id off len)
 | sle {id:Id} {A:Option Addr} {off:Nat} (h:(ρ id).isSome=true):En w ok ρ (.slice A 0 0) (.sl id off 0)
 | fn {f:FuncId} {vs:Array Value} {caps:List V} (hl:vs.size=caps.length) (hr:∀(k:Nat) (v:Value) (x:V),vs[k]?=some v→caps[k]?=some x→En w ok ρ v x):En w ok ρ (.func (.func f) #[] vs) (.fn f caps)
 | agg {vs:Array Value} {cs:List V} (hl:vs.size=cs.length) (hc:∀x∈cs,cellish x=true) (hr:∀(k:Nat) (v:Value) (x:V),vs[k]?=some v→cs[k]?=some x→En w ok ρ v x):En w ok ρ (.agg vs) (.agg cs)
 | tup {vs:Array Value} {cs:List V} (hl:vs.size=cs.length) (hr:∀(k:Nat) (v:Value) (x:V),vs[k]?=some v→cs[k]?=some x→En w ok ρ v x):En w ok ρ (.tuple vs) (.tup cs)
structure Keeps (w w':World) (ok ok':Nat→Prop):Prop where
 heap:∀g,ok g→g < w.heap.size→w'.heap[g]?=w.heap[g]?
 ok_lt:∀g,ok g→g < w.heap.size→ok' g
 size:w.heap.size≤w'.heap.size
theorem Rd.keep {w w':World} {ok ok':Nat→Prop} (hk:Keeps w w' ok ok') {v:Value} {x:V} (h:Rd w (fun g=>ok g∧g < w.heap.size) v x):Rd w' (fun g=>ok' g∧g < w'.heap.size) v x:=
 h.mono (fun g hg _=>hk.heap g hg.1 hg.2) (fun g hg=>⟨hk.ok_lt g hg.1 hg.2,Nat.lt_of_lt_of_le hg.2 hk.size⟩)
theorem En.keep {w w':World} {ok ok':Nat→Prop} {ρ ρ':Rho} (hk:Keeps w w' ok ok') (hρ:∀id i,ρ id=some i→ρ' id=some i) {v:Value} {x:V} (h:En w (fun g=>ok g∧g < w.heap.size) ρ v x):
  En w' (fun g=>ok' g∧g < w'.heap.size) ρ' v x:=by
 induction h with
 | undef=>exact .undef
 | lit h=>exact .lit h
 | tr h=>exact .tr (h.keep hk)
 | vw h=>exact .vw (h.keep hk)
 | rp h=>exact .rp (h.keep hk)
 | ptr h=>exact .ptr (hρ _ _ h)
 | sl h hc=>exact .sl (hρ _ _ h) hc
 | sle h=>
  refine .sle ?_
  obtain⟨i,hi⟩:=Option.isSome_iff_exists.1 h
  rw[hρ _ _ hi];rfl
 | fn hl hr ih=>exact .fn hl ih
 | agg hl hc hr ih=>exact .agg hl hc ih
 | tup hl hr ih=>exact .tup hl ih
def tops (s:St) (ρ:Rho) (g:Nat):Prop:=∃id b o c sz,s.heap id=some b∧b.own=true∧ρ id=some (.blk g o c sz)
def okS (s:St) (ρ:Rho) (w:World) (g:Nat):Prop:=¬tops s ρ g∧g < w.heap.size
def BlkR (P:Program) (w:World) (ok:Nat→Prop) (ρ:Rho) (i:Option Info) (F:List Nat) (b:Blk):Prop:=
 match b.box,b.own with
 | true,_=>b.own=true∧∃g cur e row,i=some (.blk g 0 1 row.length)∧w.heap[g]?=some (.cells cur e (0,0))∧b.rows=[row]∧cur.size=row.length∧
   (∀(k:Nat) (v:Value) (x:V),cur[k]?=some v→row[k]?=some x→En w ok ρ v x)∧(∀x∈row,cellish x=true)∧F=[g]
 | false,true=>(i=some .emp∧b.rows=[]∧F=[])∨
   ∃g o c cur,i=some (.blk g o c (P.cellsOf b.el))∧w.heap[g]?=some (.cells cur b.el (0,0))∧b.rows.length≤c∧c≤maxLen∧(∀r∈b.rows,r.length=P.cellsOf b.el)∧o+c*P.cellsOf b.el=cur.size∧
    ∃fp,F=g::fp∧(b.cl=true→OwL w ((cur.toList.drop o).take (b.rows.length*P.cellsOf b.el)) b.rows.flatten fp)∧
     (b.cl=false→fp=[]∧∀(k:Nat) (x:V),b.rows.flatten[k]?=some x→∃v,cur[o+k]?=some v∧Rd w ok v x)
 | false,false=>F=[]∧((i=some .emp∧b.rows=[])∨∃g o c sz,i=some (.blk g o c sz)∧(∀r∈b.rows,r.length=sz)∧Rd w ok (.slice (some ⟨g,o,none⟩) b.rows.length c) (.tr b.rows))
theorem BlkR.mkBox {P:Program} {w:World} {ok:Nat→Prop} {ρ:Rho} {i:Option Info} {F:List Nat} {b:Blk} (hbox:b.box=true) (hown:b.own=true) {g:Nat} {cur:Array Value} {e:TypeId} {row:List V} (hi:i=some (.blk g 0 1 row.length)) (hg:w.heap[g]?=some (.cells cur e (0,0))) (hr:b.rows=[row]) (hs:cur.size=row.length)
  (he:∀(k:Nat) (v:Value) (x:V),cur[k]?=some v→row[k]?=some x→En w ok ρ v x) (hc:∀x∈row,cellish x=true) (hF:F=[g]):BlkR P w ok ρ i F b:=by
 unfold BlkR;rw[hbox];exact⟨hown,g,cur,e,row,hi,hg,hr,hs,he,hc,hF⟩
theorem BlkR.mkRow {P:Program} {w:World} {ok:Nat→Prop} {ρ:Rho} {i:Option Info} {F:List Nat} {b:Blk} (hbox:b.box=false) (hown:b.own=true) {g o c:Nat} {cur:Array Value} {fp:List Nat} (hi:i=some (.blk g o c (P.cellsOf b.el))) (hg:w.heap[g]?=some (.cells cur b.el (0,0))) (hl:b.rows.length≤c) (hm:c≤maxLen)
  (hu:∀r∈b.rows,r.length=P.cellsOf b.el) (hz:o+c*P.cellsOf b.el=cur.size) (hF:F=g::fp) (h1:b.cl=true→OwL w ((cur.toList.drop o).take (b.rows.length*P.cellsOf b.el)) b.rows.flatten fp)
  (h2:b.cl=false→fp=[]∧∀(k:Nat) (x:V),b.rows.flatten[k]?=some x→∃v,cur[o+k]?=some v∧Rd w ok v x):BlkR P w ok ρ i F b:=by
 unfold BlkR;rw[hbox,hown];exact .inr ⟨g,o,c,cur,hi,hg,hl,hm,hu,hz,fp,hF,h1,h2⟩
theorem BlkR.mkEmp {P:Program} {w:World} {ok:Nat→Prop} {ρ:Rho} {i:Option Info} {F:List Nat} {b:Blk} (hbox:b.box=false) (hown:b.own=true) (hi:i=some .emp) (hr:b.rows=[]) (hF:F=[]):BlkR P w ok ρ i F b:=by
 unfold BlkR;rw[hbox,hown];exact .inl ⟨hi,hr,hF⟩
def Zkg (i:Option Info):Prop:=∃g o c sz,i=some (.blk g o c sz)∧0 < c
class Anchor where
 w:World
def Anch [A:Anchor] (w:World) (T:Nat→Prop):Prop:=A.w.heap.size≤w.heap.size∧(∀k,k < A.w.heap.size→w.heap[k]?=A.w.heap[k]?)∧∀g,T g→A.w.heap.size≤g
structure BaseR [Anchor] (B:Nat) (io:Nat→Prop) (w:World):Prop where
 base:B≤w.heap.size
 anch:Anch w (fun g=>io g∨B≤g)
set_option linter.unusedSectionVars false
variable [Anchor]
structure Rel (P:Program) (B:Nat) (io:Nat→Prop) (w:World) (tmps:Array Value) (s:St) (ρ:Rho) (F:Id→List Nat) (fl:List Nat):Prop where
 env:∀(t:Nat) (v:Value),tmps[t]?=some v→En w (okS s ρ w) ρ v (s.env t)
 out:∀t,tmps.size≤t→s.env t=.undef
 heap:∀id b,s.heap id=some b→BlkR P w (okS s ρ w) ρ (ρ id) (F id) b
 mine:∀id b,s.heap id=some b→b.own=true→∀g∈F id,g < w.heap.size
 top:∀id b,s.heap id=some b→b.own=true→Zkg (ρ id)→∀g,(F id).head?=some g→io g∨B≤g
 apart:∀id id' b b',s.heap id=some b→b.own=true→s.heap id'=some b'→b'.own=true→id≠id'→∀g∈F id,g ∉ F id'
 once:∀id b,s.heap id=some b→b.own=true→(F id).Nodup
 dom:∀id,(ρ id).isSome=true→id.1≤s.ep
 base0:BaseR B io w
 flMine:∀g∈fl,g < w.heap.size
 flApart:∀id b,s.heap id=some b→b.own=true→∀g∈F id,g ∉ fl
 flOnce:fl.Nodup
structure Left (B:Nat) (io:Nat→Prop) (w w':World):Prop where
 os:w'.os=w.os
 tape:w'.tape=w.tape
 output:w'.output=w.output
 size:w.heap.size≤w'.heap.size
 block:∀k,k < B→¬io k→w'.heap[k]?=w.heap[k]?
theorem BaseR.step {B:Nat} {io:Nat→Prop} {w w':World} (h:BaseR B io w) (hs:w.heap.size≤w'.heap.size) (hA:∀k,k < B→¬io k→w'.heap[k]?=w.heap[k]?):BaseR B io w':=
 ⟨Nat.le_trans h.base hs,Nat.le_trans h.anch.1 hs,fun k hk=>by
  rw[hA k (by
   refine Nat.lt_of_not_le (fun hle=>?_)
   have:=h.anch.2.2 k (.inr hle)
   omega) (fun hio=>by have:=h.anch.2.2 k (.inl hio);omega)]
  exact h.anch.2.1 k hk,h.anch.2.2⟩
theorem Rel.base {P:Program} {B:Nat} {io:Nat→Prop} {w:World} {tmps:Array Value} {s:St} {ρ:Rho} {F:Id→List Nat} {fl:List Nat} (h:Rel P B io w tmps s ρ F fl):B≤w.heap.size:=h.base0.base
theorem Left.refl (B:Nat) (io:Nat→Prop) (w:World):Left B io w w:=⟨rfl,rfl,rfl,Nat.le_refl _,fun _ _ _=>rfl⟩
theorem Left.trans {B:Nat} {io:Nat→Prop} {a b c:World} (h:Left B io a b) (k:Left B io b c):Left B io a c:=
 ⟨k.os.trans h.os,k.tape.trans h.tape,k.output.trans h.output,Nat.le_trans h.size k.size,fun i hi hn=>(k.block i hi hn).trans (h.block i hi hn)⟩
theorem Left.below {B:Nat} {w w':World} (h:Left B (fun _=>False) w w'):Below B w w':=⟨h.os,h.tape,h.output,h.size,fun k hk=>h.block k hk id⟩
theorem BlkR.top {P:Program} {w:World} {ok:Nat→Prop} {ρ:Rho} {g o c sz:Nat} {F:List Nat} {b:Blk} (h:BlkR P w ok ρ (some (.blk g o c sz)) F b) (ho:b.own=true):g∈F:=by
 unfold BlkR at h
 split at h
 ·obtain⟨_,g',cur,e,row,hi,_,_,_,_,_,hF⟩:=h
  cases hi
  rw[hF];exact List.mem_cons_self
 ·rcases h with⟨hi,_⟩|⟨g',o',c',cur,hi,_,_,_,_,_,fp,hF,_⟩
  ·cases hi
  ·cases hi
   rw[hF];exact List.mem_cons_self
 ·rename_i h1 h2
  rw[ho] at h2;cases h2
theorem BlkR.keep {P:Program} {w w':World} {ok ok':Nat→Prop} {ρ ρ':Rho} {i:Option Info} {F:List Nat} {b:Blk} (hk:Keeps w w' ok ok') (hρ:∀id i,ρ id=some i→ρ' id=some i)
  (h:BlkR P w (fun g=>ok g∧g < w.heap.size) ρ i F b) (hF:∀g∈F,w'.heap[g]?=w.heap[g]?):BlkR P w' (fun g=>ok' g∧g < w'.heap.size) ρ' i F b:=by
 unfold BlkR at h ⊢
 split at h
 ·obtain⟨h1,g,cur,e,row,hi,hg,hr,hs,he,h1c,rfl⟩:=h
  exact⟨h1,g,cur,e,row,hi,by rw[hF g List.mem_cons_self];exact hg,hr,hs,fun k v x hv hx=>(he k v x hv hx).keep hk hρ,h1c,rfl⟩
 ·rcases h with h|⟨g,o,c,cur,hi,hg,hl,hm,hu,hz,fp,rfl,h1,h2⟩
  ·exact .inl h
  ·refine .inr ⟨g,o,c,cur,hi,by rw[hF g List.mem_cons_self];exact hg,hl,hm,hu,hz,fp,rfl,fun hc=>(h1 hc).frame fun k hk'=>hF k (List.mem_cons_of_mem _ hk'),fun hc=>⟨(h2 hc).1,fun k x hx=>?_⟩⟩
   obtain⟨v,hv,hr⟩:=(h2 hc).2 k x hx
   exact⟨v,hv,hr.keep hk⟩
 ·obtain⟨h0,h⟩:=h
  refine⟨h0,?_⟩
  rcases h with h|⟨g,o,c,sz,hi,hu,hr⟩
  ·exact .inl h
  ·exact .inr ⟨g,o,c,sz,hi,hu,hr.keep hk⟩
end Go.Proofs.YtlcfolgfmlgncaaGreatDoor.Ev
namespace Go.Proofs.YtlcfolgfmlgncaaGreatDoor.Ev
open Go Go.RowKit
set_option linter.unusedVariables false
set_option linter.unusedSimpArgs false
set_option linter.unusedSectionVars false
variable [Anchor]
theorem Z90 {α:Type} {P:Program} {x:Sem α} {a:α} (h:eval? P x=some a) (w:World):x.run P w=.ok a w:=by
 induction x with
 | pure b=>simp only[eval?,Option.some.injEq] at h;subst h;rfl
 | program k ih=>simp only[eval?] at h;exact ih P h
 | _=>simp[eval?] at h
def OpR (P:Program) (o:Oper) (a:Act) (w:World) (Post:Value→World→Prop):Prop:=
 match (execOp a.eval o).run P w with
 | .ok (.value v) w'=>Post v w'
 | .ok .skip w'=>Post undef w'
 | _=>False
theorem OpR.wp {P:Program} {o:Oper} {a:Act} {w:World} {Post:Value→World→Prop} (h:OpR P o a w Post) {K:Act→World→Prop} {Q:Exit→Act→World→Prop} (hK:∀v w',Post v w'→K (a.put o.dst v) w'):o.wp P a w K Q:=by
 unfold OpR at h
 unfold Oper.wp
 split at h
 ·rename_i heq;rw[heq];exact hK _ _ h
 ·rename_i heq;rw[heq];exact hK _ _ h
 ·exact h.elim
theorem OpR.value {P:Program} {o:Oper} {a:Act} {w w':World} {v:Value} {Post:Value→World→Prop} (h:(execOp a.eval o).run P w=.ok (.value v) w') (hp:Post v w'):OpR P o a w Post:=by
 unfold OpR;rw[h];exact hp
theorem OpR.skip {P:Program} {o:Oper} {a:Act} {w w':World} {Post:Value→World→Prop} (h:(execOp a.eval o).run P w=.ok .skip w') (hp:Post undef w'):OpR P o a w Post:=by
 unfold OpR;rw[h];exact hp
theorem Zrq {ρ ρ':Operand→Value} {o:Oper} (hp:Zfk o.op=true) (h:∀x∈o.op.operands.toList,ρ x=ρ' x):execOp ρ o=execOp ρ' o:=by
 obtain⟨dst,op,type,pos,after,guard⟩:=o
 cases op<;>simp only[Zfk,Bool.false_eq_true] at hp
 case binOp op t x y yt=>
  have h1:=h x (by simp[Op.operands]);have h2:=h y (by simp[Op.operands])
  simp only[execOp,h1,h2]
 case unOp op t x=>
  have h1:=h x (by simp[Op.operands])
  simp only[execOp,h1]
 case convert s d x=>
  have h1:=h x (by simp[Op.operands])
  simp only[execOp,h1]
 case field t x i=>
  have h1:=h x (by simp[Op.operands])
  simp only[execOp,h1]
 case index t x i=>
  have h1:=h x (by simp[Op.operands]);have h2:=h i (by simp[Op.operands])
  simp only[execOp,h1,h2]
 case slice t x l hi m=>
  have h1:=h x (by simp[Op.operands])
  have h2:l.map ρ=l.map ρ':=by cases l<;>simp;exact h _ (by simp[Op.operands])
  have h3:hi.map ρ=hi.map ρ':=by cases hi<;>simp;exact h _ (by simp[Op.operands])
  have h4:m.map ρ=m.map ρ':=by cases m<;>simp;exact h _ (by simp[Op.operands])
  simp only[execOp,h1,h2,h3,h4]
 case call c=>
  obtain⟨callee,args,ats⟩:=c
  have ha:∀b:Builtin,callee=.builtin b→args.map ρ=args.map ρ':=by
   intro b hb
   apply Array.map_congr_left
   intro x hx
   exact h x (by simp[Op.operands,Call.operands,hb];exact hx)
  cases callee with
  | value f=>simp at hp
  | invoke r m=>simp at hp
  | builtin b=>simp only[execOp,resolve,ha b rfl]
theorem Z9p {w:World} {ok:Nat→Prop} {ρ:Rho} {v v':Value} {x:V} (h:En w ok ρ v x) (ht:Yg x=some v'):v=v':=by
 cases x<;>simp only[Yg] at ht<;>try cases ht
 case lit=>cases h;rfl
 case agg cs=>
  cases h with
  | @agg vs _ hl hc hr=>
   cases hL:W2 cs with
   | none=>rw[hL] at ht;cases ht
   | some l=>
    rw[hL] at ht
    simp only[Option.map_some,Option.some.injEq] at ht
    subst ht
    congr 1
    have key:∀(cs:List V) (l:List Value),W2 cs=some l→cs=l.map .lit:=by
     intro cs
     induction cs with
     | nil=>intro l h;simp only[W2,Option.some.injEq] at h;subst h;rfl
     | cons c cs ih=>
      intro l h
      cases c<;>simp only[W2] at h<;>try cases h
      rename_i v
      cases hr:W2 cs with
      | none=>rw[hr] at h;cases h
      | some l'=>rw[hr] at h;simp only[Option.map_some,Option.some.injEq] at h;subst h;rw[ih l' hr];rfl
    have hcs:=key cs l hL
    subst hcs
    apply Array.ext_getElem?
    intro k
    rw[List.length_map] at hl
    simp only[List.getElem?_toArray]
    by_cases hk:k < vs.size
    ·have h1:vs[k]?=some vs[k]:=Array.getElem?_eq_getElem hk
     have h2:l[k]?=some (l[k]'(by omega)):=List.getElem?_eq_getElem (by omega)
     have h3:=hr k vs[k] (.lit (l[k]'(by omega))) h1 (by rw[List.getElem?_map,h2];rfl)
     rw[h1,h2]
     generalize (l[k]'(by omega))=y at h3
     generalize vs[k]=z at h3
     cases h3
     rfl
    ·rw[Array.getElem?_eq_none (by omega),List.getElem?_eq_none (by omega)]
theorem Zz4 {w:World} {ok:Nat→Prop} {ρ:Rho} {v:Value} {x:V} (h:Zb7 v=some x):En w ok ρ v x:=by
 unfold Zb7 at h
 split at h
 ·split at h
  ·rename_i cs hs
   simp only[Option.some.injEq] at h;subst h
   refine .agg (by simp) (fun x hx=>by obtain⟨u,_,rfl⟩:=List.mem_map.1 hx;rfl) (fun k v x hv hx=>?_)
   simp only[List.getElem?_map,Option.map_eq_some_iff] at hx
   obtain⟨u,hu,rfl⟩:=hx
   have:u=v:=by
    have h1:cs.toList[k]?=some v:=by simpa using hv
    rw[h1] at hu;injection hu with hu;exact hu.symm
   subst this
   exact .lit (List.all_eq_true.1 hs _ (List.mem_of_getElem? hu))
  ·cases h
 ·split at h
  ·rename_i hs
   simp only[Option.some.injEq] at h;subst h
   exact .lit hs
  ·cases h
theorem Rel.opV {P:Program} {B:Nat} {io:Nat→Prop} {w:World} {a:Act} {s:St} {ρ:Rho} {F:Id→List Nat} {fl:List Nat} (h:Rel P B io w a.tmps s ρ F fl) (x:Operand):En w (okS s ρ w) ρ (a.eval x) (s.opV x):=by
 cases x with
 | tmp t=>
  simp only[St.opV,Act.eval]
  by_cases ht:t < a.tmps.size
  ·have h1:a.tmps[t]?=some a.tmps[t]:=Array.getElem?_eq_getElem ht
   have:=h.env t a.tmps[t] h1
   rw[Array.getD_eq_getD_getElem?,h1]
   exact this
  ·rw[h.out t (Nat.le_of_not_lt ht)];exact .undef
 | const v=>
  simp only[St.opV,Act.eval]
  cases hv:Zb7 v with
  | none=>exact .undef
  | some x=>exact Zz4 hv
 | global g=>exact .undef
 | func f=>exact .fn rfl (fun k v x hv hx=>by simp at hx)
structure Stp (P:Program) (B:Nat) (io:Nat→Prop) (w:World) (tmps:Array Value) (s:St) (ρ:Rho) (fl:List Nat) (k:Nat) (v:V) (s':St) (val:Value) (w':World):Prop where
 env:s'.env=s.env
 ep:s'.ep=s.ep
 left:Left B io w w'
 ex:∃ρ' F',Rel P B io w' tmps s' ρ' F' fl∧En w' (okS s' ρ' w') ρ' val v∧(∀id i,ρ id=some i→ρ' id=some i)∧(∀id,(ρ' id).isSome=true→(ρ id).isSome=true∨(id.1=s.ep∧id.2 / 1024=k))
theorem Stp.same {P:Program} {B:Nat} {io:Nat→Prop} {w:World} {a:Act} {s:St} {ρ:Rho} {F:Id→List Nat} {fl:List Nat} {k:Nat} {v:V} {val:Value} (h:Rel P B io w a.tmps s ρ F fl) (hv:En w (okS s ρ w) ρ val v):Stp P B io w a.tmps s ρ fl k v s val w:=
 ⟨rfl,rfl,Left.refl _ _ _,ρ,F,h,hv,fun _ _ h=>h,fun _ h=>.inl h⟩
theorem Z7k {P:Program} {B:Nat} {io:Nat→Prop} {w:World} {a:Act} {s:St} {ρ:Rho} {F:Id→List Nat} {fl:List Nat} {k:Nat} {o:Oper} {v:V} (h:Rel P B io w a.tmps s ρ F fl) (he:Ye P s.opV o=some v):
  OpR P o a w (Stp P B io w a.tmps s ρ fl k v s):=by
 unfold Ye at he
 split at he
 ·rename_i hc
  rw[Bool.and_eq_true] at hc
  obtain⟨hp,hall⟩:=hc
  split at he
  ·rename_i val hev
   have hcg:execOp a.eval o=execOp (fun x=>(Yg (s.opV x)).getD undef) o:=Zrq hp (fun x hx=>by
    have h1:=List.all_eq_true.1 hall x hx
    obtain⟨u,hu⟩:=Option.isSome_iff_exists.1 h1
    rw[hu]
    exact Z9p (h.opV x) hu)
   exact .value (by rw[hcg];exact Z90 hev w) (.same h (Zz4 he))
  ·cases he
 ·cases he
theorem Zbi {α:Type} {sz:Nat}:∀{rows:List (List α)} {i j:Nat} {row:List α} {x:α},(∀r∈rows,r.length=sz)→rows[i]?=some row→row[j]?=some x→rows.flatten[i*sz+j]?=some x:=by
 intro rows
 induction rows with
 | nil=>intro i j row x _ h;simp at h
 | cons r rs ih=>
  intro i j row x hs hi hj
  have hr:r.length=sz:=hs r List.mem_cons_self
  cases i with
  | zero=>
   have:r=row:=by simpa using hi
   subst this
   rw[List.flatten_cons,List.getElem?_append_left (by have:=(List.getElem?_eq_some_iff.1 hj).1;omega)]
   simpa using hj
  | succ i=>
   have h1:=ih (fun r h=>hs r (List.mem_cons_of_mem _ h)) (by simpa using hi) hj
   rw[List.flatten_cons,List.getElem?_append_right (by rw[hr,Nat.succ_mul];omega),hr]
   rw[show (i+1)*sz+j - sz=i*sz+j by rw[Nat.succ_mul];omega]
   exact h1
theorem Rd.en {w:World} {ok:Nat→Prop} {ρ:Rho} {v:Value} {x:V} (h:Rd w ok v x):En w ok ρ v x:=by
 induction h with
 | lit h=>exact .lit h
 | emp=>exact .tr .emp
 | tr hn hc hm hs hg hu hr ih=>exact .tr (.tr hn hc hm hs hg hu hr)
 | rp hg hu hr ih=>exact .rp (.rp hg hu hr)
 | fn hl hr ih=>exact .fn hl ih
theorem Rd.cellish {w:World} {ok:Nat→Prop} {v:Value} {x:V} (h:Rd w ok v x):cellish x=true:=by
 cases h<;>rfl
section
variable {P:Program} {B:Nat} {io:Nat→Prop} {w:World} {a:Act} {tmps:Array Value} {s:St} {ρ:Rho} {F:Id→List Nat} {fl:List Nat}
theorem Rel.cell (h:Rel P B io w tmps s ρ F fl) {id:Id} {b:Blk} {g o c sz i j:Nat} {row:List V} {x:V} (hb:s.heap id=some b) (hρ:ρ id=some (.blk g o c sz)) (hi:b.rows[i]?=some row) (hj:row[j]?=some x):
  ∃u,w.cell? ⟨g,o+i*sz+j,none⟩=some u∧(b.box=true→En w (okS s ρ w) ρ u x)∧(b.box=false→Rd w (okS s ρ w) u x):=by
 have hB:=h.heap id b hb
 rw[hρ] at hB
 have hF:b.own=true→∀k∈F id,k≠g→okS s ρ w k:=fun ho k hk hne=>by
  refine⟨?_,h.mine id b hb ho k hk⟩
  rintro⟨id',b',o',c',sz',hb',ho',hρ'⟩
  have ht:k∈F id':=by
   have:=h.heap id' b' hb'
   rw[hρ'] at this
   exact this.top ho'
  by_cases e:id'=id
  ·subst e
   rw[hρ] at hρ'
   injection hρ' with hρ'
   injection hρ' with hg
   exact hne hg.symm
  ·exact h.apart id' id b' b hb' ho' hb ho e k ht hk
 unfold BlkR at hB
 split at hB
 ·rename_i hbox
  obtain⟨_,g',cur,e,row',hi',hg,hr,hs,he,h1,_⟩:=hB
  cases hi'
  rw[hr] at hi
  have:i=0∧row'=row:=by
   cases i with
   | zero=>exact⟨rfl,by simpa using hi⟩
   | succ i=>simp at hi
  obtain⟨rfl,rfl⟩:=this
  have hjl:=(List.getElem?_eq_some_iff.1 hj).1
  have hc:cur[j]?=some cur[j]:=Array.getElem?_eq_getElem (by omega)
  refine⟨cur[j],?_,fun _=>he j _ x hc hj,fun hf=>by rw[hbox] at hf;cases hf⟩
  rw[show 0+0*row'.length+j=j by omega,cell_of_row w g j cur e (0,0) hg]
  exact hc
 ·rename_i hbox hown
  rcases hB with⟨hi',_⟩|⟨g',o',c',cur,hi',hg,hl,hm,hu,hz,fp,hFe,h1,h2⟩
  ·cases hi'
  ·cases hi'
   have hk:=Zbi hu hi hj
   cases hcl:b.cl with
   | true=>
    have hfp:∀k∈fp,okS s ρ w k:=fun k hk=>hF hown k (by rw[hFe];exact List.mem_cons_of_mem _ hk) (by
     rintro rfl
     have:=h.once id b hb hown
     rw[hFe] at this
     exact (List.nodup_cons.1 this).1 hk)
    obtain⟨v,hv,hr⟩:=(h1 hcl).rd hfp hk
    refine⟨v,?_,fun hf=>(by rw[hbox] at hf;cases hf),fun _=>hr⟩
    rw[List.getElem?_take] at hv
    split at hv
    ·rw[cell_of_row w g _ cur b.el (0,0) hg,Nat.add_assoc]
     simpa using hv
    ·cases hv
   | false=>
    obtain⟨v,hv,hr⟩:=(h2 hcl).2 _ x hk
    refine⟨v,?_,fun hf=>(by rw[hbox] at hf;cases hf),fun _=>hr⟩
    rw[cell_of_row w g _ cur b.el (0,0) hg,Nat.add_assoc]
    exact hv
 ·rename_i hbox hown
  obtain⟨_,hB⟩:=hB
  rcases hB with⟨hi',_⟩|⟨g',o',c',sz',hi',hu,hr⟩
  ·cases hi'
  ·cases hi'
   have hk:=Zbi hu hi hj
   generalize b.rows=rows at hr hi hk hu
   generalize hn:rows.length=n at hr
   cases hr with
   | emp=>simp at hi
   | @tr _ _ _ _ sz2 _ u hn' hc' hm' hs' hg' hu' hr'=>
    have:=hu' _ x hk
    exact⟨u (i*sz+j),by rw[Nat.add_assoc];exact this,fun hf=>(by rw[hbox] at hf;cases hf),fun _=>hr' _ x hk⟩
theorem Rel.boxCells (h:Rel P B io w tmps s ρ F fl) {id:Id} {b:Blk} {j:Nat} {row:List V} (hb:s.heap id=some b) (hbox:b.box=true) (hr:b.rows[j]?=some row):∀x∈row,cellish x=true:=by
 have hB:=h.heap id b hb
 unfold BlkR at hB
 rw[hbox] at hB
 obtain⟨_,g,cur,e,row',_,_,hrs,_,_,hc,_⟩:=hB
 rw[hrs] at hr
 cases j with
 | zero=>
      have:row'=row:=by simpa using hr
      subst this;exact hc
 | succ j=>simp at hr
end
section
variable {P:Program} {B:Nat} {io:Nat→Prop} {w:World} {a:Act} {s:St} {ρ:Rho} {F:Id→List Nat} {fl:List Nat} {k:Nat} {o:Oper} {v:V}
theorem Z3s (h:Rel P B io w a.tmps s ρ F fl) {x:Operand} (ho:o.op=.move x∨o.op=.assign x) (he:s.opV x=v):OpR P o a w (Stp P B io w a.tmps s ρ fl k v s):=by
 subst he
 have hr:(execOp a.eval o).run P w=.ok (.value (a.eval x)) w:=by
  rcases ho with ho|ho<;>simp[execOp,ho]
 exact .value hr (.same h (h.opV x))
theorem Yak (h:Rel P B io w a.tmps s ρ F fl) {c x y:Operand} {t:Bool} (ho:o.op=.pick c x y) (hc:s.opV c=.lit (.bool t)) (he:(if t then s.opV x else s.opV y)=v):OpR P o a w (Stp P B io w a.tmps s ρ fl k v s):=by
 have h1:=h.opV c
 rw[hc] at h1
 generalize hb:a.eval c=b at h1
 cases h1
 have hr:(execOp a.eval o).run P w=.ok (.value (if t then a.eval x else a.eval y)) w:=by
  cases t<;>simp[execOp,ho,hb,asBool]
 refine .value hr (.same h ?_)
 subst he
 cases t
 ·exact h.opV y
 ·exact h.opV x
theorem Z57 (h:Rel P B io w a.tmps s ρ F fl) {t:Operand} {i:Nat} {vs:List V} (ho:o.op=.extract t i) (ht:s.opV t=.tup vs) (he:vs[i]?=some v):OpR P o a w (Stp P B io w a.tmps s ρ fl k v s):=by
 have h1:=h.opV t
 rw[ht] at h1
 generalize hb:a.eval t=b at h1
 cases h1 with
 | @tup us _ hl hr=>
  have hi:=(List.getElem?_eq_some_iff.1 he).1
  have hu:us[i]?=some us[i]:=Array.getElem?_eq_getElem (by omega)
  have hrun:(execOp a.eval o).run P w=.ok (.value us[i]) w:=by
   simp[execOp,ho,hb,Instr.extract,hu]
  exact .value hrun (.same h (hr i _ _ hu he))
theorem Zm8 (h:Rel P B io w a.tmps s ρ F fl) {x:Operand} (ho:o.op=.nilCheck x) (hx:s.opV x=v) (hv:(∃i j n,v=.ptr i j n)∨(∃b r n,v=.rp b r n)∨(∃f cs,v=.fn f cs)):OpR P o a w (Stp P B io w a.tmps s ρ fl k v s):=by
 have h1:=h.opV x
 rw[hx] at h1
 have hrun:(execOp a.eval o).run P w=.ok (.value (a.eval x)) w:=by
  generalize hb:a.eval x=b at h1
  rcases hv with⟨i,j,n,rfl⟩|⟨b',r,n,rfl⟩|⟨f,cs,rfl⟩
  ·cases h1;simp[execOp,ho,hb]
  ·cases h1 with|rp h2=>cases h2;simp[execOp,ho,hb]
  ·cases h1;simp[execOp,ho,hb]
 exact .value hrun (.same h h1)
theorem Qv (g o n:Nat):(⟨g,o,none⟩:Addr).add n=⟨g,o+n,none⟩:=by
 unfold Addr.add;split<;>simp_all
theorem Zqc (h:Rel P B io w a.tmps s ρ F fl) {t:TypeId} {x:Operand} {f off:Nat} (ho:o.op=.fieldAddr t x f) (hf:Zyt P t f=some off)
  (hv:(∃i j n,s.opV x=.ptr i j n∧v=.ptr i j (n+off))∨(∃b r n,s.opV x=.rp b r n∧v=.rp b r (n+off))):OpR P o a w (Stp P B io w a.tmps s ρ fl k v s):=by
 unfold Zyt at hf
 split at hf
 ·rename_i fs hu
  obtain⟨fl,hfl,hf⟩:=Option.bind_eq_some_iff.1 hf
  split at hf
  ·cases hf
  ·rename_i hsz
   simp only[Option.some.injEq] at hf
   subst hf
   have hinfo:∃ti,P.info? fl.type=some ti∧ti.size≠0:=by
    unfold Program.cellsOf at hsz
    cases hq:P.info? fl.type with
    | none=>rw[hq] at hsz;simp at hsz
    | some ti=>rw[hq] at hsz;exact⟨ti,rfl,by simpa using hsz⟩
   obtain⟨ti,hti,hne⟩:=hinfo
   have run:∀ad:Addr,a.eval x=.pointer (some ad)→(execOp a.eval o).run P w=.ok (.value (.pointer (some (ad.add fl.offset)))) w:=by
    intro ad hb
    simp[execOp,ho,hb,Instr.fieldAt,underlying,hu,hfl,Instr.sureAddr,fieldPlace,Go.sizeOf,typeInfo,hti,hne]
   have h1:=h.opV x
   rcases hv with⟨i,j,n,hx,rfl⟩|⟨b',r,n,hx,rfl⟩
   ·rw[hx] at h1
    generalize hb:a.eval x=b at h1
    cases h1 with
    | @ptr _ g o' c sz _ _ hρ=>
     refine .value (run _ hb) (.same h ?_)
     rw[Qv,Nat.add_assoc (o'+j*sz)]
     exact .ptr hρ
   ·rw[hx] at h1
    generalize hb:a.eval x=b at h1
    cases h1 with
    | rp h2=>
     cases h2 with
     | @rp g o' _ _ _ u hg hu hr=>
      refine .value (run _ hb) (.same h ?_)
      rw[Qv,Nat.add_assoc o']
      exact .rp (.rp hg hu hr)
 ·cases hf
theorem Q3 {t e:TypeId} (h:Yk P t=some e):P.underlying t=some (.slice e):=by
 unfold Yk at h
 split at h
 ·rename_i e' hu;simp only[Option.some.injEq] at h;subst h;exact hu
 ·cases h
theorem Zld {w:World} {ok:Nat→Prop} {u:Value} {x:V} {n:Nat} (h:En w ok ρ u x) (hn:Yf x=some n):∃kd,u=.int kd (n:Int):=by
 unfold Yf at hn
 split at hn
 ·rename_i kd m
  split at hn
  ·rename_i h0
   simp only[Option.some.injEq] at hn
   cases h
   exact⟨kd,by rw[←hn,Int.toNat_of_nonneg h0]⟩
  ·cases hn
 ·cases hn
theorem Zk8 (h:Rel P B io w a.tmps s ρ F fl) {t e:TypeId} {x ix:Operand} {n:Nat} (ho:o.op=.indexAddr t x ix) (ht:Yk P t=some e) (hn:Yf (s.opV ix)=some n)
  (hv:(∃i off len b row,s.opV x=.sl i off len∧n < len∧s.heap i=some b∧b.rows[off+n]?=some row∧row.length=Zf P e∧v=.ptr i (off+n) 0)∨
   (∃sh rows row,(s.opV x=.tr rows∨s.opV x=.vw rows)∧rows[n]?=some row∧row.length=Zf P e∧v=.rp sh row 0)) (hz:Zf P e≠0):OpR P o a w (Stp P B io w a.tmps s ρ fl k v s):=by
 have hu:=Q3 ht
 obtain⟨ti,hti,hsz⟩:∃ti,P.info? e=some ti∧ti.size=Zf P e:=by
  unfold Zf Program.cellsOf at hz ⊢
  cases hq:P.info? e with
  | none=>rw[hq] at hz;simp at hz
  | some ti=>exact⟨ti,rfl,rfl⟩
 obtain⟨kd,hi⟩:=Zld (h.opV ix) hn
 have run:∀(ad:Addr) (len c:Nat),a.eval x=.slice (some ad) len c→n < len→(execOp a.eval o).run P w=.ok (.value (.pointer (some (ad.add (n*Zf P e))))) w:=by
  intro ad len c hb hl
  have h1:(0:Int)≤(n:Int)∧(n:Int) < (len:Int):=⟨by omega,by omega⟩
  simp[execOp,ho,hb,hi,Instr.indexAt,asIntOf,underlying,hu,Go.sizeOf,typeInfo,hti,hsz,hl]
 have h1:=h.opV x
 rcases hv with⟨i,off,len,b,row,hx,hl,hb,hrow,hrl,rfl⟩|⟨sh,rows,row,hx,hrow,hrl,rfl⟩
 ·rw[hx] at h1
  generalize hq:a.eval x=q at h1
  cases h1 with
  | @sl _ g o' c sz _ _ hρ hc=>
   have hB:=h.heap i b hb
   rw[hρ] at hB
   have hsz':sz=Zf P e:=by
    unfold BlkR at hB
    split at hB
    ·obtain⟨_,g',cur,e',row',hi',hg,hr,hs,he,h1,_⟩:=hB
     cases hi'
     rw[hr] at hrow
     cases hcc:off+n with
     | zero=>
          rw[hcc] at hrow;have:row'=row:=by simpa using hrow
          rw[this];exact hrl
     | succ m=>rw[hcc] at hrow;simp at hrow
    ·rcases hB with⟨hi',_⟩|⟨g',o'',c',cur,hi',hg,hl',hm,hu',hz',fp,hFe,h1,h2⟩
     ·cases hi'
     ·cases hi'
      rw[←hu' row (List.mem_of_getElem? hrow)];exact hrl
    ·obtain⟨_,hB⟩:=hB
     rcases hB with⟨hi',_⟩|⟨g',o'',c',sz',hi',hu',hr⟩
     ·cases hi'
     ·cases hi'
      rw[←hu' row (List.mem_of_getElem? hrow)];exact hrl
   refine .value (run _ _ _ hq hl) (.same h ?_)
   rw[Qv,←hsz',Nat.add_assoc,←Nat.add_mul]
   exact .ptr (off:=0) hρ
  | sle=>omega
 ·generalize hq:a.eval x=q at h1
  have h2:Rd w (okS s ρ w) q (.tr rows):=by
   rcases hx with hx|hx
   ·rw[hx] at h1;cases h1 with|tr h=>exact h
   ·rw[hx] at h1;cases h1 with|vw h=>exact h
  cases h2 with
  | emp=>simp at hrow
  | @tr g o' m c sz _ u hn' hc' hm' hs' hg' hu' hr'=>
   have hnl:=(List.getElem?_eq_some_iff.1 hrow).1
   have hsz':sz=Zf P e:=by rw[←hs' row (List.mem_of_getElem? hrow)];exact hrl
   refine .value (run _ _ _ hq (by omega)) (.same h ?_)
   rw[Qv,←hsz']
   refine .rp (.rp (off:=0) (u:=fun j=>u (n*sz+j)) hg' (fun j x hj=>?_) (fun j x hj=>hr' _ x (Zbi hs' hrow hj)))
   have:=hu' _ x (Zbi hs' hrow hj)
   show w.cell? ⟨g,o'+n*sz+j,none⟩=_
   rw[Nat.add_assoc];exact this
end
section
variable {P:Program} {B:Nat} {io:Nat→Prop} {w:World} {a:Act} {s:St} {ρ:Rho} {F:Id→List Nat} {fl:List Nat} {k:Nat} {o:Oper} {v:V}
theorem Zzh {t:TypeId} {x:Operand} {g n:Nat} {us:List Value} {cs:List V} (ho:o.op=.load t x) (hx:a.eval x=.pointer (some ⟨g,n,none⟩)) (hl:us.length=Zf P t) (hcl:us.length=cs.length) (hce:∀x∈cs,cellish x=true)
  (hc:∀j u,us[j]?=some u→w.cell? ⟨g,n+j,none⟩=some u) (he:Zbk P t cs=some v) (hen:∀(j:Nat) (u:Value) (x:V),us[j]?=some u→cs[j]?=some x→En w (okS s ρ w) ρ u x):
  ∃u,(execOp a.eval o).run P w=.ok (.value u) w∧En w (okS s ρ w) ρ u v:=by
 unfold Zbk at he
 split at he
 ·rename_i hsome
  obtain⟨d,hu⟩:=Option.isSome_iff_exists.1 hsome
  split at he
  ·rename_i hagg
   simp only[Option.some.injEq] at he
   subst he
   obtain⟨ti,hti⟩:∃ti,P.info? t=some ti:=by
    unfold Program.underlying at hu
    split at hu
    ·rename_i h;exact⟨_,h⟩
    ·rename_i h;exact⟨_,h⟩
    ·cases hu
   have hsz:ti.size=us.length:=by rw[hl];simp[Zf,Program.cellsOf,hti]
   have hrun:=run_loadCells_list (P:=P) (w:=w) ⟨g,n,none⟩ us (fun j u hj=>by rw[Qv];exact hc j u hj)
   rw[←hsz] at hrun
   refine⟨.agg us.toArray,?_,(.agg (by simpa using hcl) hce (fun j u x hj hx=>hen j u x (by simpa using hj) hx))⟩
   cases d<;>simp[aggT,hu] at hagg<;>simp[execOp,ho,hx,Instr.loadAt,Instr.sureAddr,loadVar,isAgg,underlying,hu,Go.sizeOf,typeInfo,hti,hrun]
  ·rename_i hagg
   split at he
   ·rename_i y
    simp only[Option.some.injEq] at he
    subst he
    match us,hcl with
    | [u],_=>
     refine⟨u,?_,hen 0 u y rfl rfl⟩
     have h0:=hc 0 u rfl
     simp only[Nat.add_zero] at h0
     cases d<;>simp[aggT,hu] at hagg<;>simp[execOp,ho,hx,Instr.loadAt,Instr.sureAddr,loadVar,isAgg,underlying,hu,load,Sem.run,h0]
   ·cases he
 ·cases he
theorem Z3r (h:Rel P B io w a.tmps s ρ F fl) {t:TypeId} {x:Operand} (ho:o.op=.load t x)
  (hv:(∃i j n b row,s.opV x=.ptr i j n∧s.heap i=some b∧b.rows[j]?=some row∧n+Zf P t≤row.length∧Zbk P t ((row.drop n).take (Zf P t))=some v)∨
   (∃sh row n,s.opV x=.rp sh row n∧n+Zf P t≤row.length∧Zbk P t ((row.drop n).take (Zf P t))=some v)):OpR P o a w (Stp P B io w a.tmps s ρ fl k v s):=by
 have h1:=h.opV x
 rcases hv with⟨i,j,n,b,row,hx,hb,hrow,hlen,he⟩|⟨sh,row,n,hx,hlen,he⟩
 ·rw[hx] at h1
  generalize hq:a.eval x=q at h1
  cases h1 with
  | @ptr _ g o' c sz _ _ hρ=>
   have cell:∀(m:Nat) (y:V),row[m]?=some y→∃u,w.cell? ⟨g,o'+j*sz+m,none⟩=some u∧(b.box=true→En w (okS s ρ w) ρ u y)∧(b.box=false→Rd w (okS s ρ w) u y):=fun m y hy=>h.cell hb hρ hrow hy
   have each:∀m:Nat,m < Zf P t→∃u,w.cell? ⟨g,o'+j*sz+n+m,none⟩=some u∧∀y,row[n+m]?=some y→(b.box=true→En w (okS s ρ w) ρ u y)∧(b.box=false→Rd w (okS s ρ w) u y):=by
    intro m hm
    have hy:row[n+m]?=some (row[n+m]'(by omega)):=List.getElem?_eq_getElem (by omega)
    obtain⟨u,h2,h3⟩:=cell (n+m) _ hy
    refine⟨u,by rw[Nat.add_assoc (o'+j*sz)];exact h2,fun y hy'=>?_⟩
    rw[hy] at hy'
    injection hy' with hy'
    rw[←hy']
    exact h3
   let us:List Value:=List.ofFn fun m:Fin (Zf P t)=>Classical.choose (each m.1 m.2)
   have hus:∀(m:Nat) (u:Value),us[m]?=some u→w.cell? ⟨g,o'+j*sz+n+m,none⟩=some u∧∀y,row[n+m]?=some y→(b.box=true→En w (okS s ρ w) ρ u y)∧(b.box=false→Rd w (okS s ρ w) u y):=by
    intro m u hu
    obtain⟨hm,rfl⟩:=List.getElem?_eq_some_iff.1 hu
    have hm':m < Zf P t:=by simpa [us] using hm
    have:=Classical.choose_spec (each m hm')
    simpa [us] using this
   have hul:us.length=Zf P t:=by simp[us]
   obtain⟨u,hrun,hen⟩:=Zzh (P:=P) (s:=s) (ρ:=ρ) (us:=us) ho hq hul (by rw[hul];simp;omega) (by
     intro x hx
     cases hbox:b.box with
     | true=>exact h.boxCells hb hbox hrow x (List.mem_of_mem_drop (List.mem_of_mem_take hx))
     | false=>
      obtain⟨m,hm⟩:=List.getElem?_of_mem hx
      rw[List.getElem?_take] at hm
      split at hm
      ·rw[List.getElem?_drop] at hm
       obtain⟨u,_,h3⟩:=cell _ x hm
       exact (h3.2 hbox).cellish
      ·cases hm) (fun m u hu=>(hus m u hu).1) he (fun m u y hu hy=>by
     have h3:=(hus m u hu).2
     rw[List.getElem?_take] at hy
     split at hy
     ·rw[List.getElem?_drop] at hy
      cases hbox:b.box with
      | true=>exact (h3 y hy).1 hbox
      | false=>exact ((h3 y hy).2 hbox).en
     ·cases hy)
   exact .value hrun (.same h hen)
 ·rw[hx] at h1
  generalize hq:a.eval x=q at h1
  cases h1 with
  | rp h2=>
   cases h2 with
   | @rp g o' _ _ _ uu hg hu hr=>
    let us:List Value:=List.ofFn fun m:Fin (Zf P t)=>uu (n+m.1)
    have hus:∀(m:Nat) (u:Value),us[m]?=some u→m < Zf P t∧u=uu (n+m):=by
     intro m u hu
     obtain⟨hm,rfl⟩:=List.getElem?_eq_some_iff.1 hu
     exact⟨by simpa [us] using hm,by simp[us]⟩
    have hul:us.length=Zf P t:=by simp[us]
    obtain⟨u,hrun,hen⟩:=Zzh (P:=P) (s:=s) (ρ:=ρ) (us:=us) ho hq hul (by rw[hul];simp;omega) (by
      intro x hx
      obtain⟨m,hm⟩:=List.getElem?_of_mem hx
      rw[List.getElem?_take] at hm
      split at hm
      ·rw[List.getElem?_drop] at hm
       exact (hr _ x hm).cellish
      ·cases hm) (fun m u hm=>by
      obtain⟨h3,rfl⟩:=hus m u hm
      have hy:row[n+m]?=some (row[n+m]'(by omega)):=List.getElem?_eq_getElem (by omega)
      rw[Nat.add_assoc]
      exact hu _ _ hy) he (fun m u y hm hy=>by
      obtain⟨h3,rfl⟩:=hus m u hm
      rw[List.getElem?_take,if_pos h3,List.getElem?_drop] at hy
      exact (hr _ y hy).en)
    exact .value hrun (.same h hen)
theorem Zz2 (h:Rel P B io w a.tmps s ρ F fl) {x:Operand} {t:TypeId} {n:Nat} (ho:o.op=.call {callee:=.builtin .len,args:=#[x],argTypes:=#[t]}) (ht:(Yk P t).isSome=true)
  (hv:(∃i off,s.opV x=.sl i off n)∨(∃rows,(s.opV x=.tr rows∨s.opV x=.vw rows)∧n=rows.length)) (he:v=.lit (.int .i64 n)):OpR P o a w (Stp P B io w a.tmps s ρ fl k v s):=by
 subst he
 obtain⟨e,hte⟩:=Option.isSome_iff_exists.1 ht
 have hu:=Q3 hte
 have hq:∃A c,a.eval x=.slice A n c:=by
  have h1:=h.opV x
  generalize a.eval x=q at h1
  rcases hv with⟨i,off,hx⟩|⟨rows,hx,rfl⟩
  ·rw[hx] at h1
   cases h1 with
   | sl=>exact⟨_,_,rfl⟩
   | sle=>exact⟨_,_,rfl⟩
  ·have h2:Rd w (okS s ρ w) q (.tr rows):=by
    rcases hx with hx|hx
    ·rw[hx] at h1;cases h1 with|tr h=>exact h
    ·rw[hx] at h1;cases h1 with|vw h=>exact h
   cases h2 with
   | emp=>exact⟨_,_,rfl⟩
   | tr hn=>exact⟨_,_,by rw[hn]⟩
 obtain⟨A,c,hq⟩:=hq
 have hr:(execOp a.eval o).run P w=.ok (.value (.int .i64 n)) w:=by
  simp[execOp,ho,resolve,invoke,builtin,hq,Builtin.len_,underlying,hu,goInt]
 exact .value hr (.same h (.lit rfl))
theorem Z3e (h:Rel P B io w a.tmps s ρ F fl) {f:FuncId} {caps:Array Operand} (ho:o.op=.makeFunc (.func f) #[] caps) (he:v=.fn f (caps.toList.map s.opV)):OpR P o a w (Stp P B io w a.tmps s ρ fl k v s):=by
 subst he
 have hr:(execOp a.eval o).run P w=.ok (.value (.func (.func f) #[] (caps.map a.eval))) w:=by
  simp[execOp,ho,Instr.makeFunc]
 refine .value hr (.same h (.fn (by simp) (fun j u x hu hx=>?_)))
 simp only[List.getElem?_map,Option.map_eq_some_iff,Array.getElem?_map] at hu hx
 obtain⟨y,hy,rfl⟩:=hu
 obtain⟨z,hz,rfl⟩:=hx
 have:y=z:=by
  have h1:caps.toList[j]?=some y:=by simpa using hy
  rw[h1] at hz;injection hz
 subst this
 exact h.opV y
end
theorem Zg {α β:Type} [DecidableEq α] (f:α→β) (a:α) (b:β):upd f a b a=b:=by simp[upd]
theorem Zy {α β:Type} [DecidableEq α] {f:α→β} {a x:α} {b:β} (h:x≠a):upd f a b x=f x:=by simp[upd,h]
section
variable {P:Program} {B:Nat} {io:Nat→Prop} {w w':World} {tmps:Array Value} {s s':St} {ρ ρ':Rho} {F F':Id→List Nat} {fl fl':List Nat}
theorem Rel.steps (h:Rel P B io w tmps s ρ F fl) (N:Id→Prop) (henv:∀t v,tmps[t]?=some v→En w' (okS s' ρ' w') ρ' v (s'.env t)) (hout:∀t,tmps.size≤t→s'.env t=.undef) (hep:s'.ep=s.ep) (hsub:∀id b,¬N id→s'.heap id=some b→s.heap id=some b)
  (hρ:∀id i,ρ id=some i→ρ' id=some i) (hdom:∀id,(ρ' id).isSome=true→(ρ id).isSome=true∨id.1=s.ep) (hρn:∀id,¬N id→ρ' id=ρ id) (hFn:∀id,¬N id→F' id=F id)
  (hk:Keeps w w' (fun g=>¬tops s ρ g) (fun g=>¬tops s' ρ' g)) (ht:∀id b,¬N id→s'.heap id=some b→∀g∈F id,w'.heap[g]?=w.heap[g]?)
  (hA:∀k,k < B→¬io k→w'.heap[k]?=w.heap[k]?) (hn:∀id b,N id→s'.heap id=some b→BlkR P w' (okS s' ρ' w') ρ' (ρ' id) (F' id) b) (hnm:∀id b,N id→s'.heap id=some b→b.own=true→(∀g∈F' id,g < w'.heap.size)∧(Zkg (ρ' id)→∀g,(F' id).head?=some g→io g∨B≤g))
  (hna:∀id b,N id→s'.heap id=some b→b.own=true→∀id' b',id≠id'→s'.heap id'=some b'→b'.own=true→∀g∈F' id',g ∉ F' id) (hno:∀id b,N id→s'.heap id=some b→b.own=true→(F' id).Nodup)
  (hflm:∀g∈fl',g < w'.heap.size) (hfla:∀id b,s'.heap id=some b→b.own=true→∀g∈F' id,g ∉ fl') (hflo:fl'.Nodup):
  Rel P B io w' tmps s' ρ' F' fl' where
 env:=henv
 out:=hout
 heap:=fun id b hb=>by
  by_cases e:N id
  ·exact hn id b e hb
  ·rw[hρn id e,hFn id e]
   exact (show BlkR P w (fun g=>(¬tops s ρ g)∧g < w.heap.size) ρ (ρ id) (F id) b from h.heap id b (hsub id b e hb)).keep hk hρ (ht id b e hb)
 mine:=fun id b hb ho g hg=>by
  by_cases e:N id
  ·exact (hnm id b e hb ho).1 g hg
  ·rw[hFn id e] at hg
   exact Nat.lt_of_lt_of_le (h.mine id b (hsub id b e hb) ho g hg) hk.size
 top:=fun id b hb ho hc g hg=>by
  by_cases e:N id
  ·exact (hnm id b e hb ho).2 hc g hg
  ·rw[hFn id e] at hg
   exact h.top id b (hsub id b e hb) ho (by rw[←hρn id e];exact hc) g hg
 apart:=fun id id' b b' hb ho hb' ho' hne g hg hg'=>by
  by_cases e:N id
  ·exact hna id b e hb ho id' b' hne hb' ho' g hg' hg
  ·by_cases e':N id'
   ·exact hna id' b' e' hb' ho' id b (Ne.symm hne) hb ho g hg hg'
   ·rw[hFn id e] at hg
    rw[hFn id' e'] at hg'
    exact h.apart id id' b b' (hsub id b e hb) ho (hsub id' b' e' hb') ho' hne g hg hg'
 once:=fun id b hb ho=>by
  by_cases e:N id
  ·exact hno id b e hb ho
  ·rw[hFn id e];exact h.once id b (hsub id b e hb) ho
 dom:=fun id hid=>by
  rw[hep]
  rcases hdom id hid with h1|h1
  ·exact h.dom id h1
  ·omega
 base0:=h.base0.step hk.size hA
 flMine:=hflm
 flApart:=hfla
 flOnce:=hflo
theorem Rel.envKeep (h:Rel P B io w tmps s ρ F fl) (henv:s'.env=s.env) (hρ:∀id i,ρ id=some i→ρ' id=some i) (hk:Keeps w w' (fun g=>¬tops s ρ g) (fun g=>¬tops s' ρ' g)):∀t v,tmps[t]?=some v→En w' (okS s' ρ' w') ρ' v (s'.env t):=fun t v hv=>by
 rw[henv]
 exact (show En w (fun g=>(¬tops s ρ g)∧g < w.heap.size) ρ v (s.env t) from h.env t v hv).keep hk hρ
theorem Rel.step (h:Rel P B io w tmps s ρ F fl) (nid:Id) (henv:s'.env=s.env) (hep:s'.ep=s.ep) (hsub:∀id b,id≠nid→s'.heap id=some b→s.heap id=some b)
  (hρ:∀id i,ρ id=some i→ρ' id=some i) (hdom:∀id,(ρ' id).isSome=true→(ρ id).isSome=true∨id.1=s.ep) (hρn:∀id,id≠nid→ρ' id=ρ id) (hFn:∀id,id≠nid→F' id=F id)
  (hk:Keeps w w' (fun g=>¬tops s ρ g) (fun g=>¬tops s' ρ' g)) (ht:∀id b,id≠nid→s'.heap id=some b→∀g∈F id,w'.heap[g]?=w.heap[g]?)
  (hA:∀k,k < B→¬io k→w'.heap[k]?=w.heap[k]?) (hn:∀b,s'.heap nid=some b→BlkR P w' (okS s' ρ' w') ρ' (ρ' nid) (F' nid) b) (hnm:∀b,s'.heap nid=some b→b.own=true→(∀g∈F' nid,g < w'.heap.size)∧(Zkg (ρ' nid)→∀g,(F' nid).head?=some g→io g∨B≤g))
  (hna:∀b,s'.heap nid=some b→b.own=true→∀id b',id≠nid→s'.heap id=some b'→b'.own=true→∀g∈F id,g ∉ F' nid) (hno:∀b,s'.heap nid=some b→b.own=true→(F' nid).Nodup)
  (hflm:∀g∈fl',g < w'.heap.size) (hfla:∀id b,id≠nid→s'.heap id=some b→b.own=true→∀g∈F id,g ∉ fl') (hfln:∀b,s'.heap nid=some b→b.own=true→∀g∈F' nid,g ∉ fl') (hflo:fl'.Nodup):
  Rel P B io w' tmps s' ρ' F' fl':=
 h.steps (N:=fun id=>id=nid) (h.envKeep henv hρ hk) (fun t ht=>by rw[henv];exact h.out t ht) hep hsub hρ hdom hρn hFn hk ht hA (fun id b e hb=>by subst e;exact hn b hb) (fun id b e hb ho=>by subst e;exact hnm b hb ho)
  (fun id b e hb ho id' b' hne hb' ho' g hg=>by subst e;rw[hFn id' (Ne.symm hne)] at hg;exact hna b hb ho id' b' (Ne.symm hne) hb' ho' g hg) (fun id b e hb ho=>by subst e;exact hno b hb ho) hflm
  (fun id b hb ho g hg=>by
   by_cases e:id=nid
   ·subst e;exact hfln b hb ho g hg
   ·rw[hFn id e] at hg;exact hfla id b e hb ho g hg) hflo
theorem Keeps.same (hs:∀g,tops s' ρ' g→tops s ρ g):Keeps w w (fun g=>¬tops s ρ g) (fun g=>¬tops s' ρ' g):=
 ⟨fun _ _ _=>rfl,fun g hg _ ht=>hg (hs g ht),Nat.le_refl _⟩
theorem Zmb {id:Id}:∀g,tops (s.kill id) ρ g→tops s ρ g:=by
 rintro g ⟨id',b,o,c,sz,hb,ho,hρ⟩
 refine⟨id',b,o,c,sz,?_,ho,hρ⟩
 simp only[St.kill,upd] at hb
 split at hb
 ·cases hb
 ·exact hb
theorem Qj {id id':Id} {b:Blk} (h:(s.kill id).heap id'=some b):s.heap id'=some b:=by
 simp only[St.kill,upd] at h
 split at h
 ·cases h
 ·exact h
theorem Y6 {id:Id}:(s.kill id).heap id=none:=by simp[St.kill,upd]
theorem Rel.kill (h:Rel P B io w tmps s ρ F fl) (id:Id):Rel P B io w tmps (s.kill id) ρ F fl:=
 h.step (nid:=id) rfl rfl (fun id' b _ hb=>Qj hb) (fun _ _ h=>h) (fun _ h=>.inl h) (fun _ _=>rfl) (fun _ _=>rfl) (.same Zmb) (fun _ _ _ _ _ _=>rfl) (fun _ _ _=>rfl)
  (fun b hb=>by rw[Y6] at hb;cases hb) (fun b hb=>by rw[Y6] at hb;cases hb) (fun b hb=>by rw[Y6] at hb;cases hb) (fun b hb=>by rw[Y6] at hb;cases hb)
  h.flMine (fun id' b e hb ho=>h.flApart id' b (Qj hb) ho) (fun b hb=>by rw[Y6] at hb;cases hb) h.flOnce
theorem Rel.float (h:Rel P B io w tmps s ρ F fl) {id:Id} {b:Blk} (hb:s.heap id=some b) (ho:b.own=true):Rel P B io w tmps (s.kill id) ρ F (F id++fl):=by
 refine h.step (nid:=id) rfl rfl (fun id' b _ hb=>Qj hb) (fun _ _ h=>h) (fun _ h=>.inl h) (fun _ _=>rfl) (fun _ _=>rfl) (.same Zmb) (fun _ _ _ _ _ _=>rfl) (fun _ _ _=>rfl)
  (fun b hb=>by rw[Y6] at hb;cases hb) (fun b hb=>by rw[Y6] at hb;cases hb) (fun b hb=>by rw[Y6] at hb;cases hb) (fun b hb=>by rw[Y6] at hb;cases hb)
  (fun g hg=>?_) (fun id' b' e hb' ho' g hg hg'=>?_) (fun b hb=>by rw[Y6] at hb;cases hb) ?_
 ·rcases List.mem_append.1 hg with hg|hg
  ·exact h.mine id b hb ho g hg
  ·exact h.flMine g hg
 ·rcases List.mem_append.1 hg' with hg'|hg'
  ·exact h.apart id' id b' b (Qj hb') ho' hb ho e g hg hg'
  ·exact h.flApart id' b' (Qj hb') ho' g hg hg'
 ·exact List.nodup_append.2 ⟨h.once id b hb ho,h.flOnce,fun a ha b' hb' e=>h.flApart id b hb ho a ha (e▸hb')⟩
theorem Rel.ok_of_F (h:Rel P B io w tmps s ρ F fl) {id:Id} {b:Blk} {i:Info} (hb:s.heap id=some b) (ho:b.own=true) (hi:ρ id=some i) {k:Nat} (hk:k∈F id) (hne:∀g o c sz,i=.blk g o c sz→k≠g):okS s ρ w k:=by
 refine⟨?_,h.mine id b hb ho k hk⟩
 rintro⟨id',b',o',c',sz',hb',ho',hρ'⟩
 have ht:k∈F id':=by
  have:=h.heap id' b' hb'
  rw[hρ'] at this
  exact this.top ho'
 by_cases e:id'=id
 ·subst e
  rw[hi] at hρ'
  injection hρ' with hρ'
  exact hne _ _ _ _ hρ' rfl
 ·exact h.apart id' id b' b hb' ho' hb ho e k ht hk
theorem Rel.ok_fl (h:Rel P B io w tmps s ρ F fl) {k:Nat} (hk:k∈fl):okS s ρ w k:=by
 refine⟨?_,h.flMine k hk⟩
 rintro⟨id',b',o',c',sz',hb',ho',hρ'⟩
 have ht:k∈F id':=by
  have:=h.heap id' b' hb'
  rw[hρ'] at this
  exact this.top ho'
 exact h.flApart id' b' hb' ho' k ht hk
end
theorem OwL.drop {w:World}:∀(n:Nat) {vs:List Value} {xs:List V} {fp:List Nat},OwL w vs xs fp→∃fp',OwL w (vs.drop n) (xs.drop n) fp'∧fp'.Sublist fp:=by
 intro n
 induction n with
 | zero=>intro vs xs fp h;exact⟨fp,h,List.Sublist.refl _⟩
 | succ n ih=>
  intro vs xs fp h
  cases xs with
  | nil=>cases h;exact⟨[],.nil,List.Sublist.refl _⟩
  | cons x xs=>
   cases h with
   | @cons v _ vs _ f1 f2 h hs=>
    obtain⟨fp',h1,h2⟩:=ih hs
    exact⟨fp',h1,h2.trans (List.sublist_append_right _ _)⟩
theorem OwL.take {w:World}:∀(n:Nat) {vs:List Value} {xs:List V} {fp:List Nat},OwL w vs xs fp→∃fp',OwL w (vs.take n) (xs.take n) fp'∧fp'.Sublist fp:=by
 intro n
 induction n with
 | zero=>intro vs xs fp h;exact⟨[],by simp;exact .nil,List.nil_sublist _⟩
 | succ n ih=>
  intro vs xs fp h
  cases xs with
  | nil=>cases h;exact⟨[],.nil,List.Sublist.refl _⟩
  | cons x xs=>
   cases h with
   | @cons v _ vs _ f1 f2 h hs=>
    obtain⟨fp',h1,h2⟩:=ih hs
    exact⟨f1++fp',.cons h h1,List.Sublist.append (List.Sublist.refl _) h2⟩
theorem Xr {α:Type} {sz:Nat}:∀{rows:List (List α)},(∀r∈rows,r.length=sz)→rows.flatten.length=rows.length*sz:=by
 intro rows
 induction rows with
 | nil=>intro _;simp
 | cons r rs ih=>intro h;rw[List.flatten_cons,List.length_append,ih (fun r hr=>h r (List.mem_cons_of_mem _ hr)),h r List.mem_cons_self,List.length_cons,Nat.succ_mul];omega
theorem Zmv {α:Type} {sz:Nat}:∀{rows:List (List α)} {k:Nat} {x:α},(∀r∈rows,r.length=sz)→rows.flatten[k]?=some x→∃i j row,rows[i]?=some row∧row[j]?=some x∧k=i*sz+j:=by
 intro rows
 induction rows with
 | nil=>intro k x _ h;simp at h
 | cons r rs ih=>
  intro k x h hk
  have hr:r.length=sz:=h r List.mem_cons_self
  rw[List.flatten_cons] at hk
  by_cases hlt:k < r.length
  ·rw[List.getElem?_append_left hlt] at hk
   exact⟨0,k,r,rfl,hk,by omega⟩
  ·rw[List.getElem?_append_right (by omega)] at hk
   obtain⟨i,j,row,h1,h2,h3⟩:=ih (fun r hr=>h r (List.mem_cons_of_mem _ hr)) hk
   exact⟨i+1,j,row,by simpa using h1,h2,by rw[Nat.succ_mul];omega⟩
theorem Zct {α:Type} {sz:Nat}:∀(n:Nat) {rows:List (List α)},(∀r∈rows,r.length=sz)→rows.flatten.drop (n*sz)=(rows.drop n).flatten:=by
 intro n
 induction n with
 | zero=>intro rows _;simp
 | succ n ih=>
  intro rows h
  cases rows with
  | nil=>simp
  | cons r rs=>
   have hr:r.length=sz:=h r List.mem_cons_self
   rw[List.flatten_cons,List.drop_succ_cons,←ih (fun r hr=>h r (List.mem_cons_of_mem _ hr)),Nat.succ_mul,Nat.add_comm,←List.drop_drop]
   congr 1
   rw[←hr];simp
theorem Zkw {α:Type} {sz:Nat}:∀(n:Nat) {rows:List (List α)},(∀r∈rows,r.length=sz)→rows.flatten.take (n*sz)=(rows.take n).flatten:=by
 intro n
 induction n with
 | zero=>intro rows _;simp
 | succ n ih=>
  intro rows h
  cases rows with
  | nil=>simp
  | cons r rs=>
   have hr:r.length=sz:=h r List.mem_cons_self
   rw[List.flatten_cons,List.take_succ_cons,List.flatten_cons,←ih (fun r hr=>h r (List.mem_cons_of_mem _ hr)),Nat.succ_mul,Nat.add_comm,List.take_append,hr,Nat.add_sub_cancel_left]
   congr 1
   rw[List.take_of_length_le (by omega)]
def OwT (P:Program) (w:World) (e:TypeId) (u:Value) (rows:List (List V)) (fp:List Nat):Prop:=
 (∃A,u=.slice A 0 0∧rows=[]∧fp=[])∨
 ∃g o c cur fp',u=.slice (some ⟨g,o,none⟩) rows.length c∧w.heap[g]?=some (.cells cur e (0,0))∧rows.length≤c∧c≤maxLen∧(∀r∈rows,r.length=P.cellsOf e)∧o+c*P.cellsOf e=cur.size∧
  OwL w ((cur.toList.drop o).take (rows.length*P.cellsOf e)) rows.flatten fp'∧fp=g::fp'
theorem OwT.ow {P:Program} {w:World} {e:TypeId} {u:Value} {rows:List (List V)} {fp:List Nat} (h:OwT P w e u rows fp):Ow w u (.tr rows) fp:=by
 rcases h with⟨A,rfl,rfl,rfl⟩|⟨g,o,c,cur,fp',rfl,hg,hl,hm,hu,hz,hO,rfl⟩
 ·exact .emp
 ·exact .tr hg rfl hl hm hu hz hO
section
variable {P:Program} {B:Nat} {io:Nat→Prop} {w w':World} {tmps:Array Value} {s s':St} {ρ ρ':Rho} {F F':Id→List Nat} {fl fl':List Nat}
theorem Rel.less (h:Rel P B io w tmps s ρ F fl) {fl':List Nat} (hs:fl'.Sublist fl):Rel P B io w tmps s ρ F fl':=
 {h with
  flMine:=fun g hg=>h.flMine g (hs.subset hg)
  flApart:=fun id b hb ho g hg hg'=>h.flApart id b hb ho g hg (hs.subset hg')
  flOnce:=h.flOnce.sublist hs}
theorem Rel.perm (h:Rel P B io w tmps s ρ F fl) {fl':List Nat} (hs:fl'.Perm fl):Rel P B io w tmps s ρ F fl':=
 {h with
  flMine:=fun g hg=>h.flMine g (hs.mem_iff.1 hg)
  flApart:=fun id b hb ho g hg hg'=>h.flApart id b hb ho g hg (hs.mem_iff.1 hg')
  flOnce:=hs.nodup_iff.2 h.flOnce}
theorem Rel.whole2 (h:Rel P B io w tmps s ρ F fl) {id:Id} {off len:Nat} {e:TypeId} {rows:List (List V)} {u:Value} (hu:En w (okS s ρ w) ρ u (.sl id off len)) (hw:s.whole id off len=some (e,rows)):
  ∃fp,Rel P B io w tmps (s.kill id) ρ F (fp++fl)∧OwT P w e u rows fp∧∀g,fp.head?=some g→(F id).head?=some g∧Zkg (ρ id):=by
 unfold St.whole at hw
 obtain⟨b,hb,hw⟩:=Option.bind_eq_some_iff.1 hw
 split at hw
 ·rename_i hc
  obtain⟨hbox,hown,hcl,hlen⟩:=hc
  simp only[Option.some.injEq,Prod.mk.injEq] at hw
  obtain⟨rfl,rfl⟩:=hw
  have hfl:=h.float hb hown
  cases hu with
  | sle hi=>exact⟨[],hfl.less (List.sublist_append_right _ _),.inl ⟨_,rfl,by simp,rfl⟩,fun g hg=>by simp at hg⟩
  | @sl _ g o c sz _ _ hρ hc=>
   have hB:=h.heap id b hb
   rw[hρ] at hB
   unfold BlkR at hB
   rw[hbox,hown] at hB
   rcases hB with⟨hi',_⟩|⟨g',o',c',cur,hi',hg,hl,hm,hun,hz,fp,hFe,h1,h2⟩
   ·cases hi'
   ·cases hi'
    obtain⟨f1,ho1,hs1⟩:=(h1 hcl).drop (off*P.cellsOf b.el)
    obtain⟨f2,ho2,hs2⟩:=ho1.take (len*P.cellsOf b.el)
    have hun':∀r∈b.rows.drop off,r.length=P.cellsOf b.el:=fun r hr=>hun r (List.mem_of_mem_drop hr)
    rw[Zct off hun,Zkw len hun'] at ho2
    have hcells:(((cur.toList.drop o).take (b.rows.length*P.cellsOf b.el)).drop (off*P.cellsOf b.el)).take (len*P.cellsOf b.el)=(cur.toList.drop (o+off*P.cellsOf b.el)).take (len*P.cellsOf b.el):=by
     rw[List.drop_take,List.drop_drop,List.take_take]
     congr 1
     have:(off+len)*P.cellsOf b.el≤b.rows.length*P.cellsOf b.el:=Nat.mul_le_mul_right _ hlen
     rw[Nat.add_mul] at this
     omega
    rw[hcells] at ho2
    have hlr:((b.rows.drop off).take len).length=len:=by simp;omega
    by_cases hc0:c - off=0
    ·have hl0:len=0:=by omega
     subst hl0
     exact⟨[],hfl.less (List.sublist_append_right _ _),.inl ⟨_,by rw[hc0],by simp,rfl⟩,fun g hg=>by simp at hg⟩
    refine⟨g::f2,hfl.less ?_,.inr ⟨g,o+off*P.cellsOf b.el,c - off,cur,f2,by rw[hlr],hg,by rw[hlr];omega,by omega,fun r hr=>hun' r (List.mem_of_mem_take hr),?_,by rw[hlr];exact ho2,rfl⟩,fun g' hg'=>⟨by rw[hFe];exact hg',g,o,c,_,hρ,by omega⟩⟩
    ·rw[hFe,List.cons_append,List.cons_append]
     exact (List.Sublist.append (hs2.trans hs1) (List.Sublist.refl _)).cons_cons _
    ·have:off*P.cellsOf b.el+(c - off)*P.cellsOf b.el=c*P.cellsOf b.el:=by rw[←Nat.add_mul];congr 1;omega
     omega
 ·cases hw
theorem Rel.whole (h:Rel P B io w tmps s ρ F fl) {id:Id} {off len:Nat} {e:TypeId} {rows:List (List V)} {u:Value} (hu:En w (okS s ρ w) ρ u (.sl id off len)) (hw:s.whole id off len=some (e,rows)):
  ∃fp,Rel P B io w tmps (s.kill id) ρ F (fp++fl)∧OwT P w e u rows fp:=by
 obtain⟨fp,h1,h2,_⟩:=h.whole2 hu hw
 exact⟨fp,h1,h2⟩
theorem Rel.rowsOf (h:Rel P B io w tmps s ρ F fl) {x:V} {u:Value} {rows:List (List V)} {ok':Nat→Prop} (hu:En w (okS s ρ w) ρ u x) (hr:s.rowsOf x=some rows) (hok:∀g,okS s ρ w g→ok' g)
  (htop:∀id off len b g o c sz,x=.sl id off len→s.heap id=some b→b.own=true→ρ id=some (.blk g o c sz)→g < w.heap.size→g ∉ fl→ok' g):Rd w ok' u (.tr rows):=by
 have up:∀{v:Value} {y:V},Rd w (okS s ρ w) v y→Rd w ok' v y:=fun hv=>hv.mono (fun _ _ _=>rfl) hok
 unfold St.rowsOf at hr
 split at hr
 ·rename_i id off len
  obtain⟨b,hb,hr⟩:=Option.bind_eq_some_iff.1 hr
  split at hr
  ·rename_i hc
   obtain⟨hbox,hlen⟩:=hc
   simp only[Option.some.injEq] at hr
   subst hr
   cases hu with
   | sle hi=>simp only[List.take_zero];exact .emp
   | @sl _ g o c sz _ _ hρ hc=>
    by_cases hne:(b.rows.drop off).take len=[]
    ·have hl0:len=0:=by
      have:=congrArg List.length hne
      simp at this
      omega
     subst hl0
     rw[hne]
     exact .emp
    have hB:=h.heap id b hb
    rw[hρ] at hB
    have hcm:c≤maxLen∧(∀r∈b.rows,r.length=sz)∧ok' g:=by
     unfold BlkR at hB
     rw[hbox] at hB
     generalize hown:b.own=ow at hB
     cases ow with
     | true=>
      rcases hB with⟨hi',_⟩|⟨g',o',c',cur,hi',hg,hl,hm,hun,hz,fp,hFe,h1,h2'⟩
      ·cases hi'
      ·cases hi'
       exact⟨hm,hun,htop id off len b g o c _ rfl hb hown hρ (Array.getElem?_eq_some_iff.1 hg).1 (h.flApart id b hb hown g (by rw[hFe];exact List.mem_cons_self))⟩
     | false=>
      obtain⟨_,hB⟩:=hB
      rcases hB with⟨hi',_⟩|⟨g',o',c',sz',hi',hun,hr⟩
      ·cases hi'
      ·cases hi'
       generalize hrw:b.rows=rws at hr hun hne
       generalize hn:rws.length=n at hr
       cases hr with
       | emp=>simp at hne
       | tr hn' hc' hm' hs' hg' hu' hr'=>exact⟨hm',hun,hok g hg'⟩
    have hlr:((b.rows.drop off).take len).length=len:=by simp;omega
    have hun':∀r∈(b.rows.drop off).take len,r.length=sz:=fun r hr=>hcm.2.1 r (List.mem_of_mem_drop (List.mem_of_mem_take hr))
    have cellAt:∀(k:Nat) (x:V),((b.rows.drop off).take len).flatten[k]?=some x→∃u,w.cell? ⟨g,o+off*sz+k,none⟩=some u∧Rd w ok' u x:=by
     intro k x hk
     obtain⟨i,j,row,hi,hj,rfl⟩:=Zmv hun' hk
     rw[List.getElem?_take] at hi
     split at hi
     ·rw[List.getElem?_drop] at hi
      obtain⟨u,h1,_,h2⟩:=h.cell hb hρ hi hj
      refine⟨u,?_,up (h2 hbox)⟩
      rw[show o+off*sz+(i*sz+j)=o+(off+i)*sz+j by rw[Nat.add_mul];omega]
      exact h1
     ·cases hi
    have each:∀k,∃u:Value,∀x,((b.rows.drop off).take len).flatten[k]?=some x→w.cell? ⟨g,o+off*sz+k,none⟩=some u∧Rd w ok' u x:=by
     intro k
     cases hk:((b.rows.drop off).take len).flatten[k]? with
     | none=>exact⟨undef,fun x hx=>by cases hx⟩
     | some y=>
      obtain⟨u,h1,h2⟩:=cellAt k y hk
      exact⟨u,fun x hx=>by injection hx with hx;subst hx;exact⟨h1,h2⟩⟩
    obtain⟨uf,huf⟩:=Classical.axiomOfChoice each
    exact .tr (u:=uf) hlr (by omega) (by omega) hun' hcm.2.2 (fun k x hk=>(huf k x hk).1) (fun k x hk=>(huf k x hk).2)
  ·cases hr
 ·simp only[Option.some.injEq] at hr;subst hr;cases hu with|tr h=>exact up h
 ·simp only[Option.some.injEq] at hr;subst hr;cases hu with|vw h=>exact up h
 ·simp only[Option.some.injEq] at hr;subst hr;cases hu;exact .emp
 ·cases hr
theorem En.kill {id:Id} {v:Value} {x:V} (h:En w (okS s ρ w) ρ v x):En w (okS (s.kill id) ρ w) ρ v x:=
 (show En w (fun g=>(¬tops s ρ g)∧g < w.heap.size) ρ v x from h).keep (.same Zmb) (fun _ _ h=>h)
theorem Zlf {id:Id} {g:Nat} (h:okS s ρ w g):okS (s.kill id) ρ w g:=⟨fun ht=>h.1 (Zmb g ht),h.2⟩
theorem Z3v:∀(xs:List V) {us:List Value} {s:St} {fl:List Nat} {ys:List V} {c:Bool} {s':St},Rel P B io w tmps s ρ F fl→us.length=xs.length→
  (∀(k:Nat) (u:Value) (x:V),us[k]?=some u→xs[k]?=some x→En w (okS s ρ w) ρ u x)→s.sink xs=some (ys,c,s')→
  ∃fp,Rel P B io w tmps s' ρ F (fp++fl)∧us.length=ys.length∧(c=true→OwL w us ys fp)∧(∀(k:Nat) (u:Value) (y:V),us[k]?=some u→ys[k]?=some y→Rd w (okS s' ρ w) u y)∧
   s'.env=s.env∧s'.ep=s.ep∧(∀id b,s'.heap id=some b→s.heap id=some b)∧(∀g,okS s ρ w g→okS s' ρ w g):=by
 intro xs
 induction xs with
 | nil=>
  intro us s fl ys c s' h hl hen hs
  simp only[St.sink,Option.some.injEq,Prod.mk.injEq] at hs
  obtain⟨rfl,rfl,rfl⟩:=hs
  have:us=[]:=List.eq_nil_of_length_eq_zero (by simpa using hl)
  subst this
  exact⟨[],h,rfl,fun _=>.nil,fun k u y hu=>by simp at hu,rfl,rfl,fun _ _ h=>h,fun _ h=>h⟩
 | cons x xs ih=>
  intro us s fl ys c s' h hl hen hs
  match us,hl with
  | u::us,hl=>
   have hu:=hen 0 u x rfl rfl
   have hen':∀(k:Nat) (v:Value) (y:V),us[k]?=some v→xs[k]?=some y→En w (okS s ρ w) ρ v y:=fun k v y hv hy=>hen (k+1) v y (by simpa using hv) (by simpa using hy)
   have hl':us.length=xs.length:=by simpa using hl
   have plain:∀(y:V) (c0:Bool),(c0=true→Ow w u y [])→Rd w (okS s ρ w) u y→∀{r:List V×Bool×St},s.sink xs=some r→ys=y::r.1→c=(c0&&r.2.1)→s'=r.2.2→
     ∃fp,Rel P B io w tmps s' ρ F (fp++fl)∧(u::us).length=ys.length∧(c=true→OwL w (u::us) ys fp)∧(∀(k:Nat) (u':Value) (y:V),(u::us)[k]?=some u'→ys[k]?=some y→Rd w (okS s' ρ w) u' y)∧
      s'.env=s.env∧s'.ep=s.ep∧(∀id b,s'.heap id=some b→s.heap id=some b)∧(∀g,okS s ρ w g→okS s' ρ w g):=by
    rintro y c0 hOw hRd ⟨r1,r2,r3⟩ hr rfl rfl rfl
    obtain⟨fp,h1,h2,h3,h4,h5,h6,h7,h8⟩:=ih h hl' hen' hr
    refine⟨fp,h1,by simpa using h2,fun hc=>?_,fun k u' y' hu' hy'=>?_,h5,h6,h7,h8⟩
    ·rw[Bool.and_eq_true] at hc
     have:=OwL.cons (hOw hc.1) (h3 hc.2)
     simpa using this
    ·cases k with
     | zero=>
      have e1:u=u':=by simpa using hu'
      have e2:y=y':=by simpa using hy'
      subst e1;subst e2
      exact hRd.mono (fun _ _ _=>rfl) h8
     | succ k=>exact h4 k u' y' (by simpa using hu') (by simpa using hy')
   unfold St.sink at hs
   split at hs
   ·obtain⟨r,hr,hq⟩:=Option.map_eq_some_iff.1 hs
    simp only[Prod.mk.injEq] at hq
    obtain⟨rfl,hq2⟩:=hq
    cases hu
    exact plain _ true (fun _=>.emp) .emp hr rfl (by rw[hq2];simp) (by rw[hq2])
   ·rename_i hne
    obtain⟨r,hr,hq⟩:=Option.map_eq_some_iff.1 hs
    simp only[Prod.mk.injEq] at hq
    obtain⟨rfl,hq2⟩:=hq
    cases hu with
    | lit hsc=>exact plain _ true (fun _=>.lit hsc) (.lit hsc) hr rfl (by rw[hq2];simp) (by rw[hq2])
   ·obtain⟨r,hr,hq⟩:=Option.map_eq_some_iff.1 hs
    simp only[Prod.mk.injEq] at hq
    obtain⟨rfl,hc,hq2⟩:=hq
    cases hu with
    | tr h2=>exact plain _ false (fun hf=>by cases hf) h2 hr rfl (by rw[←hc];simp) hq2.symm
   ·obtain⟨r,hr,hq⟩:=Option.map_eq_some_iff.1 hs
    simp only[Prod.mk.injEq] at hq
    obtain⟨rfl,hc,hq2⟩:=hq
    cases hu with
    | vw h2=>exact plain _ false (fun hf=>by cases hf) h2 hr rfl (by rw[←hc];simp) hq2.symm
   ·rename_i id off len
    split at hs
    ·rename_i er hw
     obtain⟨r,hr,hq⟩:=Option.map_eq_some_iff.1 hs
     simp only[Prod.mk.injEq] at hq
     obtain⟨rfl,hq2⟩:=hq
     obtain⟨e,rows⟩:=er
     obtain⟨fp0,hk,hO⟩:=h.whole hu hw
     obtain⟨fp,h1,h2,h3,h4,h5,h6,h7,h8⟩:=ih hk hl' (fun k v y hv hy=>(hen' k v y hv hy).kill) hr
     have hs1:r.2.1=c:=by rw[hq2]
     have hs2:r.2.2=s':=by rw[hq2]
     rw[hs1] at h3
     rw[hs2] at h1 h4 h5 h6 h7 h8
     have hsub:(fp0++fp++fl).Perm (fp++(fp0++fl)):=by
      rw[←List.append_assoc]
      exact List.Perm.append_right _ List.perm_append_comm
     refine⟨fp0++fp,h1.perm hsub,by simpa using h2,fun hc=>.cons hO.ow (h3 hc),fun k u' y' hu' hy'=>?_,h5,h6,fun id' b hb=>Qj (h7 id' b hb),fun g hg=>h8 g (Zlf hg)⟩
     cases k with
     | zero=>
      have e1:u=u':=by simpa using hu'
      have e2:V.tr rows=y':=by simpa using hy'
      subst e1;subst e2
      exact (hO.ow.rd (fun g hg=>hk.ok_fl (List.mem_append_left _ hg))).mono (fun _ _ _=>rfl) h8
     | succ k=>exact h4 k u' y' (by simpa using hu') (by simpa using hy')
    ·rename_i hw
     split at hs
     ·rename_i b hb
      split at hs
      ·rename_i hown
       obtain⟨rows,hrows,hq0⟩:=Option.bind_eq_some_iff.1 hs
       obtain⟨r,hr,hq⟩:=Option.map_eq_some_iff.1 hq0
       simp only[Prod.mk.injEq] at hq
       obtain⟨rfl,hc,hq2⟩:=hq
       refine plain _ false (fun hf=>by cases hf) (h.rowsOf hu hrows (fun _ h=>h) (fun id' off' len' b' g o c' sz e hb' ho'=>?_)) hr rfl (by rw[←hc];simp) hq2.symm
       cases e
       rw[hb] at hb'
       injection hb' with hb'
       subst hb'
       rw[hown] at ho'
       cases ho'
      ·cases hs
     ·cases hs
   ·cases hs
end
section
variable {P:Program} {B:Nat} {io:Nat→Prop} {w w':World} {a:Act} {tmps:Array Value} {s s':St} {ρ ρ':Rho} {F F':Id→List Nat} {fl fl':List Nat} {k:Nat} {o:Oper} {v:V}
theorem Rel.F_lt (h:Rel P B io w tmps s ρ F fl) {id:Id} {b:Blk} (hb:s.heap id=some b):∀g∈F id,g < w.heap.size:=by
 cases ho:b.own with
 | true=>exact h.mine id b hb ho
 | false=>
  have hB:=h.heap id b hb
  unfold BlkR at hB
  rw[ho] at hB
  split at hB
  ·cases hB.1
  ·rename_i h2;cases h2
  ·intro g hg;rw[hB.1] at hg;cases hg
theorem Zv {id id':Id} {b:Blk} (h:id'≠id):(s.setB id b).heap id'=s.heap id':=by simp[St.setB,upd,h]
theorem Kb {id:Id} {b:Blk}:(s.setB id b).heap id=some b:=by simp[St.setB,upd]
theorem Zf0 (w:World) (o:Obj):(w.alloc o).heap.size=w.heap.size+1:=by
 show (w.heap.push o).size=_
 simp
theorem Zso (w:World) (o:Obj):(w.alloc o).heap[w.heap.size]?=some o:=by
 show (w.heap.push o)[w.heap.size]?=_
 simp
theorem Zo5 {id:Id} {b:Blk} {i:Info} (hid:ρ id=none) {g:Nat} (h:tops (s.setB id b) (upd ρ id (some i)) g):tops s ρ g∨∃o c sz,i=.blk g o c sz:=by
 obtain⟨id',b',o,c,sz,hb,ho,hρ⟩:=h
 by_cases e:id'=id
 ·subst e
  rw[Zg] at hρ
  injection hρ with hρ
  exact .inr ⟨o,c,sz,hρ⟩
 ·rw[Zv e] at hb
  rw[Zy e] at hρ
  exact .inl ⟨id',b',o,c,sz,hb,ho,hρ⟩
theorem Left.alloc {w0:World} (h:Left B io w0 w) (hB:B≤w.heap.size) (ob:Obj):Left B io w0 (w.alloc ob):=
 ⟨h.os,h.tape,h.output,by have:=h.size;have:=Zf0 w ob;omega,fun g hg hn=>by rw[Below.heap_alloc w ob g (by omega)];exact h.block g hg hn⟩
theorem Rel.newBlk (h:Rel P B io w tmps s ρ F fl) {id:Id} (hid:ρ id=none) (hep:id.1=s.ep) {ob:Obj} {b:Blk} {o c sz:Nat}
  (hn:BlkR P (w.alloc ob) (okS (s.setB id b) (upd ρ id (some (.blk w.heap.size o c sz))) (w.alloc ob)) (upd ρ id (some (.blk w.heap.size o c sz))) (some (.blk w.heap.size o c sz)) [w.heap.size] b):
  Rel P B io (w.alloc ob) tmps (s.setB id b) (upd ρ id (some (.blk w.heap.size o c sz))) (upd F id [w.heap.size]) fl:=by
 have hs:=Zf0 w ob
 refine h.step (nid:=id) rfl rfl (fun id' b' e hb=>by rw[Zv e] at hb;exact hb) (fun id' i hi=>?_) (fun id' hi=>?_) (fun id' e=>Zy e) (fun id' e=>Zy e) ⟨fun g _ hg=>Below.heap_alloc w ob g hg,fun g hg hlt ht=>?_,by omega⟩
  (fun id' b' e hb g hg=>Below.heap_alloc w ob g (h.F_lt (by rw[Zv e] at hb;exact hb) g hg)) (fun k hk _=>Below.heap_alloc w ob k (Nat.lt_of_lt_of_le hk h.base)) (fun b' hb=>?_) (fun b' hb ho=>?_) (fun b' hb ho id' b'' e hb'' ho'' g hg hg'=>?_) (fun b' hb ho=>?_) (fun g hg=>by have:=h.flMine g hg;omega)
  (fun id' b' e hb ho g hg=>h.flApart id' b' (by rw[Zv e] at hb;exact hb) ho g hg) (fun b' hb ho g hg hg'=>?_) h.flOnce
 ·have:id'≠id:=by rintro rfl;rw[hid] at hi;cases hi
  rw[Zy this];exact hi
 ·by_cases e:id'=id
  ·subst e;exact .inr hep
  ·rw[Zy e] at hi;exact .inl hi
 ·rcases Zo5 hid ht with h1|⟨o',c',sz',h1⟩
  ·exact hg h1
  ·injection h1 with h1;omega
 ·rw[Kb] at hb
  injection hb with hb
  subst hb
  rw[Zg,Zg]
  exact hn
 ·rw[Zg]
  exact⟨fun g hg=>by rw[List.mem_singleton.1 hg];omega,fun _ g hg=>by
   have:w.heap.size=g:=by simpa using hg
   have:=h.base
   omega⟩
 ·rw[Zg] at hg'
  rw[Zv e] at hb''
  have:=h.F_lt hb'' g hg
  rw[List.mem_singleton.1 hg'] at this
  omega
 ·rw[Zg];simp
 ·rw[Zg] at hg
  have:=h.flMine g hg'
  rw[List.mem_singleton.1 hg] at this
  omega
theorem Xs {id:Id} {i:Info} (hid:ρ id=none):∀id' j,ρ id'=some j→upd ρ id (some i) id'=some j:=fun id' j hj=>by
 rw[Zy (by rintro rfl;rw[hid] at hj;cases hj)];exact hj
theorem Rel.newBox (h:Rel P B io w tmps s ρ F fl) {id:Id} (hid:ρ id=none) (hep:id.1=s.ep) {us:Array Value} {row:List V} {t e:TypeId} (hl:us.size=row.length) (hce:∀x∈row,cellish x=true)
  (hen:∀(j:Nat) (u:Value) (x:V),us[j]?=some u→row[j]?=some x→En w (okS s ρ w) ρ u x):
  Rel P B io (w.alloc (.cells us t)) tmps (s.setB id ⟨true,true,true,e,[row]⟩) (upd ρ id (some (.blk w.heap.size 0 1 row.length))) (upd F id [w.heap.size]) fl:=by
 refine h.newBlk hid hep ⟨rfl,w.heap.size,us,t,row,rfl,Zso w _,rfl,hl,fun j u x hu hx=>?_,hce,rfl⟩
 refine (show En w (fun g=>(¬tops s ρ g)∧g < w.heap.size) ρ u x from hen j u x hu hx).keep ⟨fun g _ hg=>Below.heap_alloc w _ g hg,fun g hg hlt ht=>?_,by rw[Zf0];omega⟩ (Xs hid)
 rcases Zo5 hid ht with h1|⟨o',c',sz',h1⟩
 ·exact hg h1
 ·injection h1 with h1;omega
theorem Ztg (h:Rel P B io w a.tmps s ρ F fl) {id:Id} (hid:ρ id=none) (hep:id.1=s.ep) (hk:id.2 / 1024=k) {us:Array Value} {row:List V} {t e:TypeId} (hl:us.size=row.length) (hce:∀x∈row,cellish x=true)
  (hen:∀(j:Nat) (u:Value) (x:V),us[j]?=some u→row[j]?=some x→En w (okS s ρ w) ρ u x):
  Stp P B io w a.tmps s ρ fl k (.ptr id 0 0) (s.setB id ⟨true,true,true,e,[row]⟩) (.pointer (some ⟨w.heap.size,0,none⟩)) (w.alloc (.cells us t)):=by
 refine⟨rfl,rfl,(Left.refl B io w).alloc h.base _,_,_,h.newBox hid hep (t:=t) (e:=e) hl hce hen,?_,Xs hid,fun id' hi=>?_⟩
 ·have:=En.ptr (w:=w.alloc (.cells us t)) (ok:=okS (s.setB id ⟨true,true,true,e,[row]⟩) (upd ρ id (some (.blk w.heap.size 0 1 row.length))) (w.alloc (.cells us t))) (i:=0) (off:=0) (Zg ρ id (some (.blk w.heap.size 0 1 row.length)))
  simpa using this
 ·by_cases e:id'=id
  ·subst e;exact .inr ⟨hep,hk⟩
  ·rw[Zy e] at hi;exact .inl hi
theorem Z9y (h:Rel P B io w a.tmps s ρ F fl) {t:TypeId} {z:List V} (ho:o.op=.alloc t) (hz:K8 P t=some z) {id:Id} (hid:ρ id=none) (hep:id.1=s.ep) (hk:id.2 / 1024=k):
  OpR P o a w (Stp P B io w a.tmps s ρ fl k (.ptr id 0 0) (s.setB id ⟨true,true,true,t,[z]⟩)):=by
 unfold K8 at hz
 obtain⟨zv,hzv,hz⟩:=Option.bind_eq_some_iff.1 hz
 obtain⟨ti,hti,hz0⟩:=Option.bind_eq_some_iff.1 hzv
 split at hz
 ·rename_i hall
  simp only[Option.some.injEq] at hz
  subst hz
  have hr:(execOp a.eval o).run P w=.ok (.value (.pointer (some ⟨w.heap.size,0,none⟩))) (w.alloc (.cells zv.cells t)):=by
   simp[execOp,ho,Instr.alloc,zeroValue,typeInfo,hti,hz0,newVar,newRow]
  refine .value hr (Ztg h hid hep hk (by simp) (fun x hx=>by obtain⟨u,_,rfl⟩:=List.mem_map.1 hx;rfl) (fun j u x hu hx=>?_))
  simp only[List.getElem?_map,Option.map_eq_some_iff] at hx
  obtain⟨y,hy,rfl⟩:=hx
  have:u=y:=by
   have h1:zv.cells.toList[j]?=some u:=by simpa using hu
   rw[h1] at hy;injection hy
  subst this
  exact .lit (List.all_eq_true.1 hall _ (List.mem_of_getElem? hy))
 ·cases hz
theorem Zmi {w:World} {ok:Nat→Prop} {u:Value} {x:V} {cs:List V} (h:En w ok ρ u x) (hc:Zgw x=some cs):u.cells.size=cs.length∧(∀y∈cs,cellish y=true)∧∀(j:Nat) (v:Value) (y:V),u.cells[j]?=some v→cs[j]?=some y→En w ok ρ v y:=by
 have one:(∀vs,u≠.agg vs)→cellish x=true→cs=[x]→u.cells.size=cs.length∧(∀y∈cs,cellish y=true)∧∀(j:Nat) (v:Value) (y:V),u.cells[j]?=some v→cs[j]?=some y→En w ok ρ v y:=by
  rintro hu hx rfl
  have huc:u.cells=#[u]:=by
   cases u<;>first|rfl|exact absurd rfl (hu _)
  rw[huc]
  refine⟨rfl,fun y hy=>by rw[List.mem_singleton.1 hy];exact hx,fun j v y hv hy=>?_⟩
  cases j with
  | zero=>
   have h1:u=v:=by simpa using hv
   have h2:x=y:=by simpa using hy
   subst h1;subst h2;exact h
  | succ j=>simp at hy
 cases x<;>simp only[Zgw,Option.some.injEq] at hc<;>try cases hc
 case agg=>cases h with|agg hl hce hr=>exact⟨hl,hce,hr⟩
 case lit v=>cases h with|lit hs=>exact one (by rintro vs rfl;simp[Wx] at hs) rfl rfl
 case ptr=>cases h;exact one (by rintro vs e;cases e) rfl rfl
 case rp=>cases h with|rp h2=>cases h2;exact one (by rintro vs e;cases e) rfl rfl
 case sl=>cases h<;>exact one (by rintro vs e;cases e) rfl rfl
 case tr=>cases h with|tr h2=>cases h2<;>exact one (by rintro vs e;cases e) rfl rfl
 case vw=>cases h with|vw h2=>cases h2<;>exact one (by rintro vs e;cases e) rfl rfl
 case fn=>cases h;exact one (by rintro vs e;cases e) rfl rfl
theorem box_ok (h:Rel P B io w a.tmps s ρ F fl) {t:TypeId} {x:Operand} {cs:List V} (ho:o.op=.box t x) (hc:Zgw (s.opV x)=some cs) {id:Id} (hid:ρ id=none) (hep:id.1=s.ep) (hk:id.2 / 1024=k):
  OpR P o a w (Stp P B io w a.tmps s ρ fl k (.ptr id 0 0) (s.setB id ⟨true,true,true,t,[cs]⟩)):=by
 obtain⟨h1,h2,h3⟩:=Zmi (h.opV x) hc
 have hr:(execOp a.eval o).run P w=.ok (.value (.pointer (some ⟨w.heap.size,0,none⟩))) (w.alloc (.cells (a.eval x).cells t)):=by
  simp[execOp,ho,Instr.box,newVar,newRow]
 exact .value hr (Ztg h hid hep hk h1 h2 h3)
end
theorem En.one {w:World} {ok:Nat→Prop} {ρ:Rho} {u:Value} {x:V} (h:En w ok ρ u x) (hx:cellish x=true):u.oneCell'=true:=by
 cases h with
 | undef=>simp[cellish] at hx
 | lit h=>cases u<;>simp_all [Wx,Value.oneCell']
 | tr h=>exact h.one
 | vw h=>exact h.one
 | rp h=>exact h.one
 | ptr=>rfl
 | sl=>rfl
 | sle=>rfl
 | fn=>rfl
 | agg=>simp[cellish] at hx
 | tup=>simp[cellish] at hx
theorem Zlz {row:List V} {n:Nat} {cs:List V} (hn:n+cs.length≤row.length) {j:Nat} {x:V} (h:(Xx row n cs)[j]?=some x):(n≤j∧j < n+cs.length∧cs[j - n]?=some x)∨((j < n∨n+cs.length≤j)∧row[j]?=some x):=by
 unfold Xx at h
 by_cases h1:j < n
 ·rw[List.append_assoc,List.getElem?_append_left (by simp;omega),List.getElem?_take,if_pos h1] at h
  exact .inr ⟨.inl h1,h⟩
 ·rw[List.append_assoc,List.getElem?_append_right (by simp;omega)] at h
  have e:(row.take n).length=n:=by simp;omega
  rw[e] at h
  by_cases h2:j - n < cs.length
  ·rw[List.getElem?_append_left h2] at h
   exact .inl ⟨by omega,by omega,h⟩
  ·rw[List.getElem?_append_right (by omega),List.getElem?_drop] at h
   refine .inr ⟨.inr (by omega),?_⟩
   rw[←h];congr 1;omega
theorem Zcm {row:List V} {n:Nat} {cs:List V} (hn:n+cs.length≤row.length):(Xx row n cs).length=row.length:=by
 unfold Xx;simp;omega
theorem Qn {α:Type} {cur:List α} {n:Nat} {vs:List α} (hn:n+vs.length≤cur.length) {j:Nat}:(cur.take n++vs++cur.drop (n+vs.length))[j]?=if n≤j∧j < n+vs.length then vs[j - n]? else cur[j]?:=by
 by_cases h1:j < n
 ·rw[if_neg (by omega),List.append_assoc,List.getElem?_append_left (by simp;omega),List.getElem?_take,if_pos h1]
 ·rw[List.append_assoc,List.getElem?_append_right (by simp;omega)]
  have e:(cur.take n).length=n:=by simp;omega
  rw[e]
  by_cases h2:j - n < vs.length
  ·rw[if_pos (by omega),List.getElem?_append_left h2]
  ·rw[if_neg (by omega),List.getElem?_append_right (by omega),List.getElem?_drop]
   congr 1;omega
section
variable {P:Program} {B:Nat} {io:Nat→Prop} {w w':World} {a:Act} {tmps:Array Value} {s s':St} {ρ ρ':Rho} {F F':Id→List Nat} {fl fl':List Nat} {k:Nat} {o:Oper} {v:V}
theorem Zmf {id:Id} {b b':Blk} (hb:s.heap id=some b) (ho:b'.own=b.own):∀g,tops (s.setB id b') ρ g↔tops s ρ g:=by
 intro g
 constructor
 ·rintro⟨id',b'',o,c,sz,hb',ho',hρ⟩
  by_cases e:id'=id
  ·subst e
   rw[Kb] at hb'
   injection hb' with hb'
   subst hb'
   exact⟨id',b,o,c,sz,hb,by rw[←ho];exact ho',hρ⟩
  ·rw[Zv e] at hb'
   exact⟨id',b'',o,c,sz,hb',ho',hρ⟩
 ·rintro⟨id',b'',o,c,sz,hb',ho',hρ⟩
  by_cases e:id'=id
  ·subst e
   rw[hb] at hb'
   injection hb' with hb'
   subst hb'
   exact⟨id',b',o,c,sz,Kb,by rw[ho];exact ho',hρ⟩
  ·exact⟨id',b'',o,c,sz,by rw[Zv e];exact hb',ho',hρ⟩
theorem Rel.write (h:Rel P B io w tmps s ρ F fl) {id:Id} {b b':Blk} {g o c sz:Nat} {new:Array Value} {cur:Array Value} {e:TypeId} {Fs:List Nat} (hb:s.heap id=some b) (ho:b.own=true) (ho':b'.own=true) (hρ:ρ id=some (.blk g o c sz)) (hg:w.heap[g]?=some (.cells cur e (0,0)))
  (hF:∃r,F id=g::r) (hFs:∃r,Fs=g::r) (hFm:∀k∈Fs,k∈F id∨k∈fl) (hno:Fs.Nodup) {fl':List Nat} (hfl:∀k∈fl',k∈fl) (hflo:fl'.Nodup) (hfd:∀k∈Fs,k ∉ fl') (hcap:0 < c)
  (hn:BlkR P (w.setRow g new) (okS (s.setB id b') ρ (w.setRow g new)) ρ (some (.blk g o c sz)) Fs b'):
  Rel P B io (w.setRow g new) tmps (s.setB id b') ρ (upd F id Fs) fl'∧Left B io w (w.setRow g new)∧Keeps w (w.setRow g new) (fun g=>¬tops s ρ g) (fun g=>¬tops (s.setB id b') ρ g):=by
 obtain⟨r,hFr⟩:=hF
 have hgF:g∈F id:=by rw[hFr];exact List.mem_cons_self
 have htop:tops s ρ g:=⟨id,b,o,c,sz,hb,ho,hρ⟩
 have hsize:(w.setRow g new).heap.size=w.heap.size:=by simp[World.setRow]
 have hk:Keeps w (w.setRow g new) (fun g=>¬tops s ρ g) (fun g=>¬tops (s.setB id b') ρ g):=
  ⟨fun g' hg' _=>setRow_other w g g' _ (fun e=>hg' (e▸htop)),fun g' hg' _ ht=>hg' ((Zmf hb (by rw[ho,ho'])  g').1 ht),by rw[hsize];exact Nat.le_refl _⟩
 refine⟨?_,⟨rfl,rfl,rfl,by rw[hsize];exact Nat.le_refl _,fun g' hg' hio=>setRow_other w g g' _ (fun e=>?_)⟩,hk⟩
 ·refine h.step (nid:=id) rfl rfl (fun id' b'' e hb'=>by rw[Zv e] at hb';exact hb') (fun _ _ h=>h) (fun _ h=>.inl h) (fun _ _=>rfl) (fun id' e=>Zy e) hk (fun id' b'' e hb' g' hg'=>setRow_other w g g' _ (fun e'=>?_)) (fun k hk hio=>setRow_other w g k _ (fun e=>by
    subst e
    rcases h.top id b hb ho ⟨k,o,c,sz,hρ,hcap⟩ k (by rw[hFr];rfl) with h1|h1
    ·exact hio h1
    ·omega)) (fun b'' hb'=>?_) (fun b'' hb' ho''=>?_) (fun b'' hb' ho'' id' b3 e hb3 ho3 g' hg' hg''=>?_) (fun b'' hb' ho''=>by rw[Zg];exact hno)
   (fun g' hg'=>by rw[hsize];exact h.flMine g' (hfl g' hg')) (fun id' b'' e hb' ho'' g' hg' hg''=>?_) (fun b'' hb' ho'' g' hg' hg''=>by rw[Zg] at hg';exact hfd g' hg' hg'') hflo
  ·subst e'
   rw[Zv e] at hb'
   cases hown:b''.own with
   | true=>exact h.apart id' id b'' b hb' hown hb ho e g' hg' hgF
   | false=>
    have hB:=h.heap id' b'' hb'
    unfold BlkR at hB
    rw[hown] at hB
    split at hB
    ·cases hB.1
    ·rename_i h2;cases h2
    ·rw[hB.1] at hg';cases hg'
  ·rw[Kb] at hb'
   injection hb' with hb'
   subst hb'
   rw[Zg,hρ]
   exact hn
  ·rw[Zg]
   refine⟨fun g' hg'=>?_,fun _ g' hg'=>?_⟩
   ·rw[hsize]
    rcases hFm g' hg' with h1|h1
    ·exact h.mine id b hb ho g' h1
    ·exact h.flMine g' h1
   ·obtain⟨r',rfl⟩:=hFs
    have e1:g=g':=by simpa using hg'
    subst e1
    exact h.top id b hb ho ⟨g,o,c,sz,hρ,hcap⟩ g (by rw[hFr];rfl)
  ·rw[Zg] at hg''
   rw[Zv e] at hb3
   rcases hFm g' hg'' with h1|h1
   ·exact h.apart id' id b3 b hb3 ho3 hb ho e g' hg' h1
   ·exact h.flApart id' b3 hb3 ho3 g' hg' h1
  ·rw[Zv e] at hb'
   exact h.flApart id' b'' hb' ho'' g' hg' (hfl g' hg'')
 ·subst e
  rcases h.top id b hb ho ⟨g',o,c,sz,hρ,hcap⟩ g' (by rw[hFr];rfl) with h1|h1
  ·exact hio h1
  ·omega
end
section
variable {P:Program} {B:Nat} {io:Nat→Prop} {w w':World} {a:Act} {tmps:Array Value} {s s':St} {ρ ρ':Rho} {F F':Id→List Nat} {fl fl':List Nat} {k:Nat} {o:Oper} {v:V}
theorem Zwz {t:TypeId} {x y:Operand} {g n:Nat} {cur:Array Value} {e:TypeId} (ho:o.op=.store t x y) (hx:a.eval x=.pointer (some ⟨g,n,none⟩)) (hl:(a.eval y).cells.size=Zf P t) (hz:Zf P t≠0) (hg:w.heap[g]?=some (.cells cur e (0,0)))
  (hfit:n+Zf P t≤cur.size) (h1:∀u∈(a.eval y).cells.toList,u.oneCell'=true):
  (execOp a.eval o).run P w=.ok .skip (w.setRow g (cur.toList.take n++(a.eval y).cells.toList++cur.toList.drop (n+(a.eval y).cells.toList.length)).toArray):=by
 obtain⟨ti,hti,hsz⟩:∃ti,P.info? t=some ti∧ti.size=Zf P t:=by
  unfold Zf Program.cellsOf at hz ⊢
  cases hq:P.info? t with
  | none=>rw[hq] at hz;simp at hz
  | some ti=>exact⟨ti,rfl,rfl⟩
 have hs:=run_storeCells_at P g n e (a.eval y).cells.toList 0 cur w hg (by simpa [hl] using hfit) h1
 simp only[Nat.add_zero] at hs
 simp[execOp,ho,hx,Instr.storeAt,Instr.sureAddr,storeVar,Go.sizeOf,typeInfo,hti,hsz,hl,hs]
theorem Z2i (h:Rel P B io w a.tmps s ρ F fl) {t:TypeId} {x y:Operand} {id:Id} {j n:Nat} {b:Blk} {row cs:List V} (ho:o.op=.store t x y) (hx:s.opV x=.ptr id j n) (hb:s.heap id=some b) (hrow:b.rows[j]?=some row) (hc:Zgw (s.opV y)=some cs)
  (hown:b.own=true) (hbox:b.box=true) (hcl:cs.length=Zf P t) (hfit:n+Zf P t≤row.length) (hz:Zf P t≠0):
  OpR P o a w (Stp P B io w a.tmps s ρ fl k .undef (s.setB id {b with rows:=b.rows.set j (Xx row n cs)})):=by
 have hx':=h.opV x
 rw[hx] at hx'
 obtain⟨hy1,hy2,hy3⟩:=Zmi (h.opV y) hc
 generalize hq:a.eval x=q at hx'
 cases hx' with
 | @ptr _ g o' c sz _ _ hρ=>
  have hB:=h.heap id b hb
  rw[hρ] at hB
  have hB':=hB
  unfold BlkR at hB
  rw[hbox] at hB
  obtain⟨_,g',cur,e,row',hi,hg,hr,hs,he,hce,hF⟩:=hB
  cases hi
  rw[hr] at hrow
  have hj:j=0∧row'=row:=by
   cases j with
   | zero=>exact⟨rfl,by simpa using hrow⟩
   | succ j=>simp at hrow
  obtain⟨rfl,rfl⟩:=hj
  simp only[Nat.zero_mul,Nat.zero_add] at hq
  have hlen:(a.eval y).cells.size=Zf P t:=by rw[hy1,hcl]
  have hrun:=Zwz (P:=P) ho hq hlen hz hg (by omega) (fun u hu=>by
   obtain⟨m,hm⟩:=List.getElem?_of_mem hu
   have hm':(a.eval y).cells[m]?=some u:=by simpa using hm
   have hlt:m < cs.length:=by have:=(Array.getElem?_eq_some_iff.1 hm').1;omega
   exact (hy3 m u _ hm' (List.getElem?_eq_getElem hlt)).one (hy2 _ (List.getElem_mem hlt)))
  generalize hnew:(cur.toList.take n++(a.eval y).cells.toList++cur.toList.drop (n+(a.eval y).cells.toList.length)).toArray=new at hrun
  have hvl:(a.eval y).cells.toList.length=cs.length:=by simpa using hy1
  have hsl:n+cs.length≤row'.length:=by omega
  have hrows:b.rows.set 0 (Xx row' n cs)=[Xx row' n cs]:=by rw[hr];rfl
  have hnl:new.size=row'.length:=by rw[←hnew];simp only[List.size_toArray,List.length_append,List.length_take,List.length_drop,Array.length_toList,hvl];simp at hvl;omega
  have htops:∀g',tops (s.setB id {b with rows:=b.rows.set 0 (Xx row' n cs)}) ρ g'↔tops s ρ g':=Zmf hb rfl
  have hwk:Keeps w (w.setRow g new) (fun g=>¬tops s ρ g) (fun g=>¬tops (s.setB id {b with rows:=b.rows.set 0 (Xx row' n cs)}) ρ g):=
   ⟨fun g' hg' _=>setRow_other w g g' _ (fun e=>hg' (e▸⟨id,b,_,_,_,hb,hown,hρ⟩)),fun g' hg' _ ht=>hg' ((htops g').1 ht),by simp⟩
  obtain⟨h1,h2,h3⟩:=h.write (b':={b with rows:=b.rows.set 0 (Xx row' n cs)}) (Fs:=F id) (fl':=fl) (new:=new) hb hown hown hρ hg ⟨[],hF⟩ ⟨[],hF⟩ (fun k hk=>.inl hk) (h.once id b hb hown) (fun _ h=>h) h.flOnce (h.flApart id b hb hown) (by omega) (by
   refine .mkBox (row:=Xx row' n cs) hbox hown (by rw[Zcm hsl]) (setRow_heap w g cur new e (0,0) hg) hrows (by rw[Zcm hsl];exact hnl) (fun m u z hu hz=>?_) (fun z hz=>?_) hF
   ·have hu':(cur.toList.take n++(a.eval y).cells.toList++cur.toList.drop (n+(a.eval y).cells.toList.length))[m]?=some u:=by rw[←hnew] at hu;simpa using hu
    rw[Qn (by simp only[Array.length_toList,hvl];omega),hvl] at hu'
    rcases Zlz hsl hz with⟨h4,h5,h6⟩|⟨h4,h6⟩
    ·rw[if_pos ⟨h4,h5⟩] at hu'
     exact (show En w (fun g=>(¬tops s ρ g)∧g < w.heap.size) ρ u z from hy3 _ u z (by simpa using hu') h6).keep hwk (fun _ _ h=>h)
    ·rw[if_neg (by omega)] at hu'
     exact (show En w (fun g=>(¬tops s ρ g)∧g < w.heap.size) ρ u z from he m u z (by simpa using hu') h6).keep hwk (fun _ _ h=>h)
   ·obtain⟨m,hm⟩:=List.getElem?_of_mem hz
    rcases Zlz hsl hm with⟨_,_,h6⟩|⟨_,h6⟩
    ·exact hy2 z (List.mem_of_getElem? h6)
    ·exact hce z (List.mem_of_getElem? h6))
  refine .skip hrun ⟨rfl,rfl,h2,ρ,upd F id (F id),h1,.undef,fun _ _ h=>h,fun _ h=>.inl h⟩
end
theorem OwL.split {w:World}:∀(n:Nat) {vs:List Value} {xs:List V} {fp:List Nat},OwL w vs xs fp→∃f1 f2,fp=f1++f2∧OwL w (vs.take n) (xs.take n) f1∧OwL w (vs.drop n) (xs.drop n) f2:=by
 intro n
 induction n with
 | zero=>intro vs xs fp h;exact⟨[],fp,rfl,by simp;exact .nil,h⟩
 | succ n ih=>
  intro vs xs fp h
  cases xs with
  | nil=>cases h;exact⟨[],[],rfl,.nil,.nil⟩
  | cons x xs=>
   cases h with
   | @cons v _ vs _ f1 f2 h hs=>
    obtain⟨g1,g2,e,h1,h2⟩:=ih hs
    exact⟨f1++g1,g2,by rw[e,List.append_assoc],.cons h h1,h2⟩
theorem OwL.put {w:World} {vs us:List Value} {xs ys:List V} {f f2:List Nat} (h:OwL w vs xs f) (h2:OwL w us ys f2) (m:Nat):∃f',OwL w (vs.take m++us++vs.drop (m+us.length)) (xs.take m++ys++xs.drop (m+us.length)) f'∧(∀k∈f',k∈f∨k∈f2)∧((f++f2).Nodup→f'.Nodup):=by
 obtain⟨f1,fr,rfl,ha,hb⟩:=h.split m
 obtain⟨fm,fd,rfl,hc,hd⟩:=hb.split us.length
 rw[List.drop_drop,List.drop_drop] at hd
 have e:(f1++f2++fd).Perm (f1++fd++f2):=by
  rw[List.append_assoc,List.append_assoc]
  exact List.Perm.append_left _ List.perm_append_comm
 have hsub:(f1++fd++f2).Sublist (f1++(fm++fd)++f2):=List.Sublist.append (List.Sublist.append (List.Sublist.refl _) (List.sublist_append_right _ _)) (List.Sublist.refl _)
 refine⟨f1++f2++fd,(ha.append h2).append hd,fun k hk=>?_,fun hn=>e.nodup_iff.2 (hn.sublist hsub)⟩
 have:=hsub.subset (e.mem_iff.1 hk)
 exact List.mem_append.1 this
theorem Z1w {α:Type} {sz:Nat}:∀{rows:List (List α)} {j:Nat} {row:List α} {n:Nat} {ys:List α},(∀r∈rows,r.length=sz)→rows[j]?=some row→n+ys.length≤sz→
  (rows.set j (row.take n++ys++row.drop (n+ys.length))).flatten=rows.flatten.take (j*sz+n)++ys++rows.flatten.drop (j*sz+n+ys.length):=by
 intro rows
 induction rows with
 | nil=>intro j row n ys _ h;simp at h
 | cons r rs ih=>
  intro j row n ys hs hj hn
  have hr:r.length=sz:=hs r List.mem_cons_self
  cases j with
  | zero=>
   have:r=row:=by simpa using hj
   subst this
   simp only[List.set_cons_zero,List.flatten_cons,Nat.zero_mul,Nat.zero_add]
   rw[List.take_append_of_le_length (by omega),List.drop_append_of_le_length (by omega)]
   simp only[List.append_assoc]
  | succ j=>
   have h1:=ih (fun r h=>hs r (List.mem_cons_of_mem _ h)) (show rs[j]?=some row by simpa using hj) hn
   simp only[List.set_cons_succ,List.flatten_cons,h1]
   rw[show (j+1)*sz+n=r.length+(j*sz+n) by rw[Nat.succ_mul,hr];omega,List.take_length_add_append,show r.length+(j*sz+n)+ys.length=r.length+(j*sz+n+ys.length) by omega,List.drop_length_add_append]
   simp only[List.append_assoc]
section
variable {P:Program} {B:Nat} {io:Nat→Prop} {w w':World} {a:Act} {tmps:Array Value} {s s':St} {ρ ρ':Rho} {F F':Id→List Nat} {fl fl':List Nat} {k:Nat} {o:Oper} {v:V}
theorem Z28 (h:Rel P B io w a.tmps s ρ F fl) {t:TypeId} {x y:Operand} {id:Id} {j n:Nat} {b b1:Blk} {row cs ys:List V} {c:Bool} {s1:St} (ho:o.op=.store t x y) (hx:s.opV x=.ptr id j n) (hb:s.heap id=some b) (hrow:b.rows[j]?=some row) (hc:Zgw (s.opV y)=some cs)
  (hown:b.own=true) (hbox:b.box=false) (hcl:cs.length=Zf P t) (hfit:n+Zf P t≤row.length) (hz:Zf P t≠0) (hsink:s.sink cs=some (ys,c,s1)) (hb1:s1.heap id=some b1):
  OpR P o a w (Stp P B io w a.tmps s ρ fl k .undef (s1.setB id {b1 with cl:=b1.cl&&c,rows:=b1.rows.set j (Xx row n ys)})):=by
 have hx':=h.opV x
 rw[hx] at hx'
 obtain⟨hy1,hy2,hy3⟩:=Zmi (h.opV y) hc
 generalize hq:a.eval x=q at hx'
 cases hx' with
 | @ptr _ g o' c' sz _ _ hρ=>
  obtain⟨fp,hR,hyl,hOw,hRd,henv,hep,hsub,hokm⟩:=Z3v cs (us:=(a.eval y).cells.toList) h (by simpa using hy1) (fun m u z hu hz=>hy3 m u z (by simpa using hu) hz) hsink
  have hbb:b1=b:=by
   have:=hsub id b1 hb1
   rw[hb] at this
   injection this with this
   exact this.symm
  subst hbb
  have hB:=hR.heap id b1 hb1
  rw[hρ] at hB
  unfold BlkR at hB
  rw[hbox,hown] at hB
  rcases hB with⟨hi',_⟩|⟨g',o'',c'',cur,hi',hg,hl,hm,hun,hz',r,hF,h1,h2⟩
  ·cases hi'
  ·cases hi'
   have hrl:row.length=P.cellsOf b1.el:=hun row (List.mem_of_getElem? hrow)
   have hjl:=(List.getElem?_eq_some_iff.1 hrow).1
   have hlen:(a.eval y).cells.size=Zf P t:=by rw[hy1,hcl]
   have hvl:(a.eval y).cells.toList.length=cs.length:=by simpa using hy1
   have hyc:ys.length=cs.length:=by rw[←hyl,hvl]
   have hfitc:o'+j*P.cellsOf b1.el+n+cs.length≤cur.size:=by
    have:(j+1)*P.cellsOf b1.el≤c'*P.cellsOf b1.el:=Nat.mul_le_mul_right _ (by omega)
    rw[Nat.succ_mul] at this
    omega
   have hrun:=Zwz (P:=P) ho hq hlen hz hg (by omega) (fun u hu=>by
    obtain⟨m,hm'⟩:=List.getElem?_of_mem hu
    have hm':(a.eval y).cells[m]?=some u:=by simpa using hm'
    have hlt:m < cs.length:=by have:=(Array.getElem?_eq_some_iff.1 hm').1;omega
    exact (hy3 m u _ hm' (List.getElem?_eq_getElem hlt)).one (hy2 _ (List.getElem_mem hlt)))
   have hsy:Xx row n ys=row.take n++ys++row.drop (n+ys.length):=rfl
   have hflat:=Z1w (ys:=ys) hun hrow (show n+ys.length≤P.cellsOf b1.el by omega)
   rw[←hsy] at hflat
   have hfl0:=Xr hun
   generalize hus:(a.eval y).cells.toList=us at hrun hOw hRd hyl hvl
   have hbl:j*P.cellsOf b1.el+n+us.length≤b1.rows.length*P.cellsOf b1.el:=by
    have:(j+1)*P.cellsOf b1.el≤b1.rows.length*P.cellsOf b1.el:=Nat.mul_le_mul_right _ (by omega)
    rw[Nat.succ_mul] at this
    omega
   have hbc:b1.rows.length*P.cellsOf b1.el≤c'*P.cellsOf b1.el:=Nat.mul_le_mul_right _ hl
   have hgF:g∈F id:=by rw[hF];exact List.mem_cons_self
   have hgr:g ∉ r:=by
    have:=hR.once id b1 hb1 hown
    rw[hF] at this
    exact (List.nodup_cons.1 this).1
   have hgfl:g ∉ fp++fl:=hR.flApart id b1 hb1 hown g hgF
   generalize hnew:(cur.toList.take (o'+j*P.cellsOf b1.el+n)++us++cur.toList.drop (o'+j*P.cellsOf b1.el+n+us.length)).toArray=new at hrun
   have hnews:new.size=cur.size:=by rw[←hnew];simp;omega
   have hget:∀m,new[o'+m]?=if j*P.cellsOf b1.el+n≤m∧m < j*P.cellsOf b1.el+n+us.length then us[m - (j*P.cellsOf b1.el+n)]? else cur[o'+m]?:=by
    intro m
    rw[←hnew]
    have:=Qn (cur:=cur.toList) (n:=o'+j*P.cellsOf b1.el+n) (vs:=us) (by simp;omega) (j:=o'+m)
    rw[List.getElem?_toArray,this]
    by_cases hc:j*P.cellsOf b1.el+n≤m∧m < j*P.cellsOf b1.el+n+us.length
    ·rw[if_pos (by omega),if_pos hc];congr 1;omega
    ·rw[if_neg (by omega),if_neg hc];simp
   have hother:∀k',k'≠g→(w.setRow g new).heap[k']?=w.heap[k']?:=fun k' hk'=>setRow_other w g k' _ hk'
   have hrows':∀r'∈b1.rows.set j (Xx row n ys),r'.length=P.cellsOf b1.el:=fun r' hr'=>by
    rcases List.mem_or_eq_of_mem_set hr' with h4|h4
    ·exact hun r' h4
    ·rw[h4,Zcm (by omega)];exact hrl
   have hlen':(b1.rows.set j (Xx row n ys)).length=b1.rows.length:=List.length_set
   have hcells:(new.toList.drop o').take (b1.rows.length*P.cellsOf b1.el)=((cur.toList.drop o').take (b1.rows.length*P.cellsOf b1.el)).take (j*P.cellsOf b1.el+n)++us++((cur.toList.drop o').take (b1.rows.length*P.cellsOf b1.el)).drop (j*P.cellsOf b1.el+n+us.length):=by
    apply List.ext_getElem?
    intro m
    rw[Qn (by simp;omega),List.getElem?_take,List.getElem?_take,List.getElem?_drop,List.getElem?_drop]
    have hm:=hget m
    simp only[Array.getElem?_toList]
    rw[hm]
    by_cases hc:j*P.cellsOf b1.el+n≤m∧m < j*P.cellsOf b1.el+n+us.length
    ·rw[if_pos hc,if_pos hc,if_pos (by omega)]
    ·rw[if_neg hc,if_neg hc]
   have htb:∀b':Blk,b'.own=true→∀g',tops (s1.setB id b') ρ g'→tops s1 ρ g':=fun b' hb' g'=>(Zmf hb1 (by rw[hb',hown]) g').1
   have hok':∀b':Blk,b'.own=true→∀g',okS s1 ρ w g'→okS (s1.setB id b') ρ (w.setRow g new) g':=fun b' hb' g' hg'=>⟨fun ht=>hg'.1 (htb b' hb' g' ht),by simpa using hg'.2⟩
   have htop:tops s1 ρ g:=⟨id,b1,_,_,_,hb1,hown,hρ⟩
   have hrd:∀b':Blk,b'.own=true→∀{u:Value} {z:V},Rd w (okS s1 ρ w) u z→Rd (w.setRow g new) (okS (s1.setB id b') ρ (w.setRow g new)) u z:=fun b' hb' u z hu=>
    hu.mono (fun g' hg' _=>hother g' (fun e=>hg'.1 (e▸htop))) (hok' b' hb')
   have fin:∀(Fs:List Nat),(∃r',Fs=g::r')→(∀k'∈Fs,k'∈F id∨k'∈fp++fl)→Fs.Nodup→(∀k'∈Fs,k' ∉ fl)→
     BlkR P (w.setRow g new) (okS (s1.setB id {b1 with cl:=b1.cl&&c,rows:=b1.rows.set j (Xx row n ys)}) ρ (w.setRow g new)) ρ (some (.blk g o' c' (P.cellsOf b1.el))) Fs {b1 with cl:=b1.cl&&c,rows:=b1.rows.set j (Xx row n ys)}→
     OpR P o a w (Stp P B io w a.tmps s ρ fl k .undef (s1.setB id {b1 with cl:=b1.cl&&c,rows:=b1.rows.set j (Xx row n ys)})):=by
    intro Fs hFs hFm hno hfd hBlk
    obtain⟨w1,w2,w3⟩:=hR.write (b':={b1 with cl:=b1.cl&&c,rows:=b1.rows.set j (Xx row n ys)}) (Fs:=Fs) (fl':=fl) (new:=new) hb1 hown hown hρ hg ⟨r,hF⟩ hFs hFm hno (fun k' hk'=>List.mem_append_right _ hk') h.flOnce hfd (by omega) hBlk
    exact .skip hrun ⟨henv,hep,w2,ρ,upd F id Fs,w1,.undef,fun _ _ h=>h,fun _ h=>.inl h⟩
   by_cases hcc:(b1.cl&&c)=true
   ·rw[Bool.and_eq_true] at hcc
    have hO1:=(h1 hcc.1).frame (w':=w.setRow g new) (fun k' hk'=>hother k' (fun e=>hgr (e▸hk')))
    have hO2:=(hOw hcc.2).frame (w':=w.setRow g new) (fun k' hk'=>hother k' (fun e=>hgfl (e▸List.mem_append_left _ hk')))
    obtain⟨f',hO,hf1,hf2⟩:=hO1.put hO2 (j*P.cellsOf b1.el+n)
    rw[←hcells,show us.length=ys.length by omega,←hflat] at hO
    have hdis:(r++fp).Nodup:=by
     have n1:=hR.once id b1 hb1 hown
     rw[hF] at n1
     refine List.nodup_append.2 ⟨(List.nodup_cons.1 n1).2,(List.nodup_append.1 hR.flOnce).1,fun p hp q hq e=>?_⟩
     subst e
     exact hR.flApart id b1 hb1 hown p (by rw[hF];exact List.mem_cons_of_mem _ hp) (List.mem_append_left _ hq)
    have hgf:g ∉ f':=fun hf=>by
     rcases hf1 g hf with h4|h4
     ·exact hgr h4
     ·exact hgfl (List.mem_append_left _ h4)
    refine fin (g::f') ⟨f',rfl⟩ (fun k' hk'=>?_) (List.nodup_cons.2 ⟨hgf,hf2 hdis⟩) (fun k' hk' hkf=>?_) (.mkRow (fp:=f') hbox hown rfl (setRow_heap w g cur new _ _ hg) (by rw[hlen'];exact hl) hm hrows' (by rw[hnews];exact hz') rfl (fun _=>by rw[hlen'];exact hO) (fun hf=>by simp[hcc.1,hcc.2] at hf))
    ·rcases List.mem_cons.1 hk' with rfl|hk'
     ·exact .inl hgF
     ·rcases hf1 k' hk' with h4|h4
      ·exact .inl (by rw[hF];exact List.mem_cons_of_mem _ h4)
      ·exact .inr (List.mem_append_left _ h4)
    ·rcases List.mem_cons.1 hk' with rfl|hk'
     ·exact hgfl (List.mem_append_right _ hkf)
     ·rcases hf1 k' hk' with h4|h4
      ·exact hR.flApart id b1 hb1 hown k' (by rw[hF];exact List.mem_cons_of_mem _ h4) (List.mem_append_right _ hkf)
      ·exact (List.nodup_append.1 hR.flOnce).2.2 k' h4 k' hkf rfl
   ·have hold:∀(m:Nat) (z:V),b1.rows.flatten[m]?=some z→∃u,cur[o'+m]?=some u∧Rd w (okS s1 ρ w) u z:=by
     intro m z hmz
     cases hcl1:b1.cl with
     | true=>
      obtain⟨u,hu,hr⟩:=(h1 hcl1).rd (ok:=okS s1 ρ w) (fun k' hk'=>hR.ok_of_F hb1 hown hρ (by rw[hF];exact List.mem_cons_of_mem _ hk') (fun g' _ _ _ e=>by cases e;rintro rfl;exact hgr hk')) hmz
      rw[List.getElem?_take] at hu
      split at hu
      ·exact⟨u,by simpa using hu,hr⟩
      ·cases hu
     | false=>exact (h2 hcl1).2 m z hmz
    refine fin [g] ⟨[],rfl⟩ (fun k' hk'=>.inl (by rw[List.mem_singleton.1 hk'];exact hgF)) (by simp) (fun k' hk' hkf=>hgfl (List.mem_append_right _ (by rw[←List.mem_singleton.1 hk'];exact hkf))) (.mkRow (fp:=[]) hbox hown rfl (setRow_heap w g cur new _ _ hg) (by rw[hlen'];exact hl) hm hrows' (by rw[hnews];exact hz') rfl (fun hf=>absurd hf hcc) (fun _=>⟨rfl,fun m z hmz=>?_⟩))
    rw[hflat,Qn (by rw[hfl0];omega)] at hmz
    rw[hget m,show us.length=ys.length by omega]
    split at hmz
    ·rename_i hc
     rw[if_pos hc]
     have hlt:m - (j*P.cellsOf b1.el+n) < us.length:=by omega
     refine⟨us[m - (j*P.cellsOf b1.el+n)],List.getElem?_eq_getElem hlt,hrd {b1 with cl:=b1.cl&&c,rows:=b1.rows.set j (Xx row n ys)} hown (hRd _ _ z (List.getElem?_eq_getElem hlt) hmz)⟩
    ·rename_i hc
     rw[if_neg hc]
     obtain⟨u,hu,hr⟩:=hold m z hmz
     exact⟨u,hu,hrd {b1 with cl:=b1.cl&&c,rows:=b1.rows.set j (Xx row n ys)} hown hr⟩
end
section
variable {P:Program} {B:Nat} {io:Nat→Prop} {w w':World} {tmps:Array Value} {s s':St} {ρ ρ':Rho} {F F':Id→List Nat} {fl fl':List Nat}
theorem Zmd {i id:Id} {b b':Blk} {g o c sz o' c' sz':Nat} (hid:ρ id=none) (hb:s.heap i=some b) (ho:b.own=true) (hρ:ρ i=some (.blk g o c sz)):
  ∀g',tops ((s.kill i).setB id b') (upd ρ id (some (.blk g o' c' sz'))) g'→tops s ρ g':=by
 rintro g' ⟨id',b'',o2,c2,sz2,hb',ho',hρ'⟩
 by_cases e:id'=id
 ·subst e
  rw[Zg] at hρ'
  injection hρ' with hρ'
  injection hρ' with hg
  subst hg
  exact⟨i,b,o,c,sz,hb,ho,hρ⟩
 ·rw[Zv e] at hb'
  rw[Zy e] at hρ'
  exact⟨id',b'',o2,c2,sz2,Qj hb',ho',hρ'⟩
theorem Rel.move (h:Rel P B io w tmps s ρ F fl) {i id:Id} {b b':Blk} {g o c sz o' c' sz':Nat} {Fs:List Nat} (hid:ρ id=none) (hep:id.1=s.ep) (hb:s.heap i=some b) (ho:b.own=true) (hρ:ρ i=some (.blk g o c sz))
  (hF:∃r,F i=g::r) (hFs:∃r,Fs=g::r) (hFm:∀k∈Fs,k∈F i) (hno:Fs.Nodup) (hcap:0 < c'→0 < c)
  (hn:BlkR P w (okS ((s.kill i).setB id b') (upd ρ id (some (.blk g o' c' sz'))) w) (upd ρ id (some (.blk g o' c' sz'))) (some (.blk g o' c' sz')) Fs b'):
  Rel P B io w tmps ((s.kill i).setB id b') (upd ρ id (some (.blk g o' c' sz'))) (upd F id Fs) fl:=by
 have hne:i≠id:=by rintro rfl;rw[hid] at hρ;cases hρ
 have old:∀{id':Id} {b'':Blk},id'≠id→((s.kill i).setB id b').heap id'=some b''→s.heap id'=some b''∧id'≠i:=fun {id' b''} e hb'=>by
  rw[Zv e] at hb'
  refine⟨Qj hb',?_⟩
  rintro rfl
  rw[Y6] at hb';cases hb'
 obtain⟨r,hFr⟩:=hF
 refine h.step (nid:=id) rfl rfl (fun id' b'' e hb'=>(old e hb').1) (Xs hid) (fun id' hi=>?_) (fun id' e=>Zy e) (fun id' e=>Zy e) (.same (Zmd hid hb ho hρ)) (fun _ _ _ _ _ _=>rfl) (fun _ _ _=>rfl)
  (fun b'' hb'=>?_) (fun b'' hb' ho'=>?_) (fun b'' hb' ho' id' b3 e hb3 ho3 g' hg' hg''=>?_) (fun b'' hb' ho'=>by rw[Zg];exact hno) h.flMine
  (fun id' b'' e hb' ho'=>h.flApart id' b'' (old e hb').1 ho') (fun b'' hb' ho' g' hg'=>?_) h.flOnce
 ·by_cases e:id'=id
  ·subst e;exact .inr hep
  ·rw[Zy e] at hi;exact .inl hi
 ·rw[Kb] at hb'
  injection hb' with hb'
  subst hb'
  rw[Zg,Zg]
  exact hn
 ·rw[Zg]
  refine⟨fun g' hg'=>h.mine i b hb ho g' (hFm g' hg'),fun hcc g' hg'=>?_⟩
  obtain⟨r',rfl⟩:=hFs
  have e1:g=g':=by simpa using hg'
  subst e1
  exact h.top i b hb ho (by
   rw[Zg] at hcc
   obtain⟨_,_,_,_,e2,h2⟩:=hcc
   injection e2 with e2
   injection e2 with _ _ e3 _
   exact⟨g,o,c,sz,hρ,hcap (by rw[e3];exact h2)⟩) g (by rw[hFr];rfl)
 ·rw[Zg] at hg''
  obtain⟨h3,h4⟩:=old e hb3
  exact h.apart id' i b3 b h3 ho3 hb ho h4 g' hg' (hFm g' hg'')
 ·rw[Zg] at hg'
  exact h.flApart i b hb ho g' (hFm g' hg')
theorem Rel.fresh (h:Rel P B io w tmps s ρ F fl) {id:Id} (hid:ρ id=none) (hep:id.1=s.ep) (hsz:w'.heap.size=w.heap.size+1) (hkeep:∀g,g < w.heap.size→w'.heap[g]?=w.heap[g]?) {b:Blk} {o c sz:Nat} {r:List Nat}
  (hr:∀k∈r,k∈fl) (hno:r.Nodup) (hfl:∀k∈fl',k∈fl) (hflo:fl'.Nodup) (hfd:∀k∈r,k ∉ fl')
  (hn:BlkR P w' (okS (s.setB id b) (upd ρ id (some (.blk w.heap.size o c sz))) w') (upd ρ id (some (.blk w.heap.size o c sz))) (some (.blk w.heap.size o c sz)) (w.heap.size::r) b):
  Rel P B io w' tmps (s.setB id b) (upd ρ id (some (.blk w.heap.size o c sz))) (upd F id (w.heap.size::r)) fl':=by
 refine h.step (nid:=id) rfl rfl (fun id' b' e hb=>by rw[Zv e] at hb;exact hb) (Xs hid) (fun id' hi=>?_) (fun id' e=>Zy e) (fun id' e=>Zy e) ⟨fun g _ hg=>hkeep g hg,fun g hg hlt ht=>?_,by omega⟩
  (fun id' b' e hb g hg=>hkeep g (h.F_lt (by rw[Zv e] at hb;exact hb) g hg)) (fun k hk _=>hkeep k (Nat.lt_of_lt_of_le hk h.base)) (fun b' hb=>?_) (fun b' hb ho=>?_) (fun b' hb ho id' b'' e hb'' ho'' g hg hg'=>?_) (fun b' hb ho=>?_) (fun g hg=>by have:=h.flMine g (hfl g hg);omega)
  (fun id' b' e hb ho g hg hg'=>h.flApart id' b' (by rw[Zv e] at hb;exact hb) ho g hg (hfl g hg')) (fun b' hb ho g hg hg'=>?_) hflo
 ·by_cases e:id'=id
  ·subst e;exact .inr hep
  ·rw[Zy e] at hi;exact .inl hi
 ·rcases Zo5 hid ht with h1|⟨o',c',sz',h1⟩
  ·exact hg h1
  ·injection h1 with h1;omega
 ·rw[Kb] at hb
  injection hb with hb
  subst hb
  rw[Zg,Zg]
  exact hn
 ·rw[Zg]
  refine⟨fun g hg=>?_,fun _ g hg=>?_⟩
  ·rcases List.mem_cons.1 hg with rfl|hg
   ·omega
   ·have:=h.flMine g (hr g hg);omega
  ·have:w.heap.size=g:=by simpa using hg
   have:=h.base
   omega
 ·rw[Zg] at hg'
  rw[Zv e] at hb''
  have:=h.F_lt hb'' g hg
  rcases List.mem_cons.1 hg' with rfl|hg'
  ·omega
  ·exact h.flApart id' b'' hb'' ho'' g hg (hr g hg')
 ·rw[Zg]
  refine List.nodup_cons.2 ⟨fun hm=>?_,hno⟩
  have:=h.flMine _ (hr _ hm)
  omega
 ·rw[Zg] at hg
  rcases List.mem_cons.1 hg with rfl|hg
  ·have:=h.flMine _ (hfl _ hg');omega
  ·exact hfd g hg hg'
end
section
variable {P:Program} {B:Nat} {io:Nat→Prop} {w w':World} {tmps:Array Value} {s s':St} {ρ ρ':Rho} {F F':Id→List Nat} {fl fl':List Nat}
theorem Rel.grown {r:List Nat} (h:Rel P B io w tmps s ρ F (r++fl)) {id:Id} (hid:ρ id=none) (hep:id.1=s.ep) (hsz:w'.heap.size=w.heap.size+1) (hkeep:∀g,g < w.heap.size→w'.heap[g]?=w.heap[g]?)
  {us zs:List Value} {rows:List (List V)} {e:TypeId} {cl:Bool} {c:Nat} (hat:w'.heap[w.heap.size]?=some (.cells (us++zs).toArray e (0,0))) (hl:rows.length≤c) (hm:c≤maxLen) (hu:∀q∈rows,q.length=P.cellsOf e)
  (hlen:us.length=rows.length*P.cellsOf e) (hz:us.length+zs.length=c*P.cellsOf e) (h1:cl=true→OwL w us rows.flatten r)
  (h2:cl=false→r=[]∧∀(k:Nat) (x:V),rows.flatten[k]?=some x→∃v,us[k]?=some v∧Rd w (okS s ρ w) v x):
  Rel P B io w' tmps (s.setB id ⟨false,true,cl,e,rows⟩) (upd ρ id (some (.blk w.heap.size 0 c (P.cellsOf e)))) (upd F id (w.heap.size::r)) fl:=by
 have hno:=List.nodup_append.1 h.flOnce
 refine h.fresh hid hep hsz hkeep (fun k hk=>List.mem_append_left _ hk) hno.1 (fun k hk=>List.mem_append_right _ hk) hno.2.1 (fun k hk hk'=>hno.2.2 k hk k hk' rfl) ?_
 refine BlkR.mkRow rfl rfl rfl hat hl hm hu (by simpa using hz.symm) rfl (fun hcl=>?_) (fun hcl=>?_)
 ·have:((us++zs).toArray.toList.drop 0).take (rows.length*P.cellsOf e)=us:=by simp[←hlen]
  show OwL w' (((us++zs).toArray.toList.drop 0).take (rows.length*P.cellsOf e)) rows.flatten r
  rw[this]
  exact (h1 hcl).frame fun g hg=>hkeep g ((h1 hcl).lt g hg)
 ·obtain⟨hr,hc⟩:=h2 hcl
  refine⟨hr,fun k x hk=>?_⟩
  obtain⟨v,hv,hrd⟩:=hc k x hk
  refine⟨v,?_,(show Rd w (fun g=>(¬tops s ρ g)∧g < w.heap.size) v x from hrd).keep (ok':=fun g=>¬tops (s.setB id ⟨false,true,cl,e,rows⟩) (upd ρ id (some (.blk w.heap.size 0 c (P.cellsOf e)))) g) ⟨fun g _ hg=>hkeep g hg,fun g hg hlt ht=>?_,by omega⟩⟩
  ·have hlt:=(List.getElem?_eq_some_iff.1 hv).1
   simp[List.getElem?_append_left hlt,hv]
  ·rcases Zo5 hid ht with h3|⟨o',c',sz',h3⟩
   ·exact hg h3
   ·injection h3 with h3;omega
end
theorem OwL.lits {w:World} {ok:Nat→Prop}:∀{xs:List V} {us:List Value},us.length=xs.length→(∀(k:Nat) (x:V),xs[k]?=some x→∃v,us[k]?=some v∧Rd w ok v x)→xs.all Zjs=true→OwL w us xs []:=by
 intro xs
 induction xs with
 | nil=>intro us hl _ _;rw[List.eq_nil_of_length_eq_zero hl];exact .nil
 | cons x xs ih=>
  intro us hl h ha
  cases us with
  | nil=>simp at hl
  | cons u us=>
   simp only[List.all_cons,Bool.and_eq_true] at ha
   obtain⟨v,hv,hr⟩:=h 0 x rfl
   have e:u=v:=by simpa using hv
   subst e
   have hO:Ow w u x []:=by
    cases x<;>simp[Zjs] at ha
    cases hr with|lit hs=>exact .lit hs
   have:=OwL.cons hO (ih (us:=us) (by simpa using hl) (fun k y hk=>h (k+1) y (by simpa using hk)) ha.2)
   simpa using this
theorem Ya3 {w:World} {ok:Nat→Prop} {a:Addr} {xs:List V} (h:∀(k:Nat) (x:V),xs[k]?=some x→∃v,w.cell? (a.add k)=some v∧Rd w ok v x):
  ∃us:List Value,us.length=xs.length∧(∀(j:Nat) (v:Value),us[j]?=some v→w.cell? (a.add j)=some v)∧∀(k:Nat) (x:V),xs[k]?=some x→∃v,us[k]?=some v∧Rd w ok v x:=by
 refine⟨(List.range xs.length).map fun k=>(w.cell? (a.add k)).getD undef,by simp,fun j v hj=>?_,fun k x hk=>?_⟩
 ·simp only[List.getElem?_map,Option.map_eq_some_iff] at hj
  obtain⟨j',hj',rfl⟩:=hj
  obtain⟨hlt,rfl⟩:=List.getElem?_eq_some_iff.1 hj'
  simp only[List.getElem_range,List.length_range] at hlt ⊢
  obtain⟨v,hv,_⟩:=h j xs[j] (List.getElem?_eq_getElem hlt)
  rw[hv];rfl
 ·obtain⟨v,hv,hr⟩:=h k x hk
  have hlt:=(List.getElem?_eq_some_iff.1 hk).1
  exact⟨v,by simp[List.getElem?_range hlt,hv],hr⟩
section
variable {P:Program} {B:Nat} {io:Nat→Prop} {w w':World} {tmps:Array Value} {s s':St} {ρ ρ':Rho} {F F':Id→List Nat} {fl fl':List Nat}
structure Cells (w:World) (ok:Nat→Prop) (sz:Nat) (u:Value) (rows:List (List V)) (cl:Bool) (r:List Nat) (us:List Value):Prop where
 val:∃a c,u=.slice (some a) rows.length c∧∀(j:Nat) (v:Value),us[j]?=some v→w.cell? (a.add j)=some v
 len:us.length=rows.length*sz
 own:cl=true→OwL w us rows.flatten r
 see:cl=false→r=[]∧∀(k:Nat) (x:V),rows.flatten[k]?=some x→∃v,us[k]?=some v∧Rd w ok v x
theorem Cells.ofRd {ok:Nat→Prop} {sz g o c:Nat} {rows:List (List V)} (hs:∀q∈rows,q.length=sz) (h:∀(k:Nat) (x:V),rows.flatten[k]?=some x→∃v,w.cell? ⟨g,o+k,none⟩=some v∧Rd w ok v x):
  ∃us,Cells w ok sz (.slice (some ⟨g,o,none⟩) rows.length c) rows (We rows) [] us:=by
 obtain⟨us,h1,h2,h3⟩:=Ya3 (w:=w) (ok:=ok) (a:=⟨g,o,none⟩) (xs:=rows.flatten) (fun k x hk=>by simpa [Qv] using h k x hk)
 refine⟨us,⟨⟨g,o,none⟩,c,rfl,h2⟩,by rw[h1,Xr hs],fun hl=>OwL.lits h1 h3 ?_,fun _=>⟨rfl,h3⟩⟩
 simp only[We,List.all_eq_true] at hl ⊢
 intro x hx
 obtain⟨q,hq,hx⟩:=List.mem_flatten.1 hx
 exact hl q hq x hx
end
section
variable {P:Program} {B:Nat} {io:Nat→Prop} {w w':World} {tmps:Array Value} {s s':St} {ρ ρ':Rho} {F F':Id→List Nat} {fl fl':List Nat}
theorem Z2q (h:Rel P B io w tmps s ρ F fl) {id:Id} {off len:Nat} {e:TypeId} {rows:List (List V)} {u:Value} {sz:Nat} (hu:En w (okS s ρ w) ρ u (.sl id off len)) (hw:s.whole id off len=some (e,rows)) (hall:∀q∈rows,q.length=sz):
  ∃r,Rel P B io w tmps (s.kill id) ρ F (r++fl)∧((rows=[]∧r=[]∧∃A c,u=.slice A 0 c)∨∃us,Cells w (okS (s.kill id) ρ w) sz u rows true r us):=by
 obtain⟨fp,hR,hO⟩:=h.whole hu hw
 rcases hO with⟨A,rfl,rfl,rfl⟩|⟨g,o,c,cur,fp',rfl,hg,hl,hm,hun,hz,hO,rfl⟩
 ·exact⟨[],hR,.inl ⟨rfl,rfl,A,0,rfl⟩⟩
 ·refine⟨fp',hR.less (by rw[List.cons_append];exact List.sublist_cons_self _ _),.inr ⟨_,⟨⟨g,o,none⟩,c,rfl,fun j v hj=>?_⟩,by rw[hO.length,Xr hall],fun _=>hO,fun hc=>by cases hc⟩⟩
  rw[List.getElem?_take] at hj
  split at hj
  ·rw[List.getElem?_drop] at hj
   simp only[Qv,World.cell?,hg]
   simpa using hj
  ·cases hj
theorem Zo3 (h:Rel P B io w tmps s ρ F fl) {x:V} {rows:List (List V)} {u:Value} {sz:Nat} (hu:En w (okS s ρ w) ρ u x) (hr:s.rowsOf x=some rows) (hall:∀q∈rows,q.length=sz):
  (rows=[]∧∃A c,u=.slice A 0 c)∨∃us,Cells w (okS s ρ w) sz u rows (We rows) [] us:=by
 have tree:∀{rows:List (List V)} {u:Value},(∀q∈rows,q.length=sz)→Rd w (okS s ρ w) u (.tr rows)→(rows=[]∧∃A c,u=.slice A 0 c)∨∃us,Cells w (okS s ρ w) sz u rows (We rows) [] us:=by
  intro rows u hall hR
  cases hR with
  | emp=>exact .inl ⟨rfl,_,_,rfl⟩
  | @tr g o n c sz' _ uf hn hc hm hs hg hu' hr'=>
   subst hn
   exact .inr (Cells.ofRd hall fun k x hk=>⟨uf k,hu' k x hk,hr' k x hk⟩)
 unfold St.rowsOf at hr
 split at hr
 ·rename_i id off len
  obtain⟨b,hb,hr⟩:=Option.bind_eq_some_iff.1 hr
  split at hr
  ·rename_i hc
   obtain⟨hbox,hlen⟩:=hc
   simp only[Option.some.injEq] at hr
   subst hr
   cases hu with
   | sle hi=>exact .inl ⟨by simp,_,_,rfl⟩
   | @sl _ g o c sz' _ _ hρ hc=>
    by_cases hne:(b.rows.drop off).take len=[]
    ·have hl0:len=0:=by
      have:=congrArg List.length hne
      simp at this
      omega
     subst hl0
     exact .inl ⟨hne,_,_,rfl⟩
    ·have hlr:((b.rows.drop off).take len).length=len:=by simp;omega
     have hB:=h.heap id b hb
     rw[hρ] at hB
     have hun:∀r∈b.rows,r.length=sz':=by
      unfold BlkR at hB
      rw[hbox] at hB
      generalize hown:b.own=ow at hB
      cases ow with
      | true=>
       rcases hB with⟨hi',_⟩|⟨g',o',c',cur,hi',hg,hl,hm,hun,_⟩
       ·cases hi'
       ·cases hi';exact hun
      | false=>
       obtain⟨_,hB⟩:=hB
       rcases hB with⟨hi',_⟩|⟨g',o',c',sz2,hi',hun,_⟩
       ·cases hi'
       ·cases hi';exact hun
     have hun':∀r∈(b.rows.drop off).take len,r.length=sz':=fun r hr=>hun r (List.mem_of_mem_drop (List.mem_of_mem_take hr))
     have:=Cells.ofRd (w:=w) (ok:=okS s ρ w) (g:=g) (o:=o+off*sz') (c:=c - off) hall fun k x hk=>by
      obtain⟨i,j,row,hi,hj,rfl⟩:=Zmv hun' hk
      rw[List.getElem?_take] at hi
      split at hi
      ·rw[List.getElem?_drop] at hi
       obtain⟨u,h1,_,h2⟩:=h.cell hb hρ hi hj
       refine⟨u,?_,h2 hbox⟩
       rw[show o+off*sz'+(i*sz'+j)=o+(off+i)*sz'+j by rw[Nat.add_mul];omega]
       exact h1
      ·cases hi
     rw[hlr] at this
     exact .inr this
  ·cases hr
 ·simp only[Option.some.injEq] at hr;subst hr;cases hu with|tr h=>exact tree hall h
 ·simp only[Option.some.injEq] at hr;subst hr;cases hu with|vw h=>exact tree hall h
 ·simp only[Option.some.injEq] at hr;subst hr;cases hu;exact .inl ⟨rfl,_,_,rfl⟩
 ·cases hr
theorem Yai {all:Bool} (h:Rel P B io w tmps s ρ F fl) {x:V} {rows:List (List V)} {cl:Bool} {s1:St} {u:Value} {sz:Nat} (hu:En w (okS s ρ w) ρ u x) (hm:s.moved all x=some (rows,cl,s1)) (hall:∀q∈rows,q.length=sz):
  ∃r,Rel P B io w tmps s1 ρ F (r++fl)∧((rows=[]∧r=[]∧∃A c,u=.slice A 0 c)∨∃us,Cells w (okS s1 ρ w) sz u rows cl r us)∧(s1=s∨∃id,s1=s.kill id):=by
 have seen:∀{rows':List (List V)},s.rowsOf x=some rows'→(rows',We rows',s)=(rows,cl,s1)→∃r,Rel P B io w tmps s1 ρ F (r++fl)∧((rows=[]∧r=[]∧∃A c,u=.slice A 0 c)∨∃us,Cells w (okS s1 ρ w) sz u rows cl r us)∧(s1=s∨∃id,s1=s.kill id):=by
  intro rows' hr he
  simp only[Prod.mk.injEq] at he
  obtain⟨rfl,rfl,rfl⟩:=he
  refine⟨[],h,?_,.inl rfl⟩
  rcases Zo3 h hu hr hall with⟨h1,h2⟩|h1
  ·exact .inl ⟨h1,rfl,h2⟩
  ·exact .inr h1
 unfold St.moved at hm
 split at hm
 ·rename_i id off len
  split at hm
  ·rename_i er hw
   split at hw
   ·simp only[Option.some.injEq,Prod.mk.injEq] at hm
    obtain⟨rfl,rfl,rfl⟩:=hm
    obtain⟨r,h1,h2⟩:=Z2q h hu (e:=er.1) (rows:=er.2) hw hall
    exact⟨r,h1,h2,.inr ⟨id,rfl⟩⟩
   ·cases hw
  ·obtain⟨rows',hr,he⟩:=Option.map_eq_some_iff.1 hm
   exact seen hr he
 ·obtain⟨rows',hr,he⟩:=Option.map_eq_some_iff.1 hm
  exact seen hr he
end
section
variable {P:Program} {w:World}
theorem Zmy (t ty e:TypeId) (i:TypeInfo) (ht:P.underlying t=some (.slice e)) (hi:P.info? e=some i) (base A:Option Addr) (n c c2:Nat) (hn:n≤c):
  (Builtin.append_ #[t,t] ty #[.slice base n c,.slice A 0 c2]).run P w=.ok (.slice base n c) w:=by
 have hf:(Builtin.firstCells i.size 0 (.slice A 0 c2)).run P w=.ok #[] w:=by
  cases A<;>simp[Builtin.firstCells,loadCells,loadCellsFrom]
 cases base<;>simp[Builtin.append_,run_underlying ht,Go.sizeOf,typeInfo,hi,Builtin.lenOf,hn,hf,storeCells]
theorem Z23 (t ty e:TypeId) (i:TypeInfo) (ht:P.underlying t=some (.slice e)) (hi:P.info? e=some i)
  (g o sLen sCap:Nat) (cur:Array Value) (hg:w.heap[g]?=some (.cells cur e (0,0)))
  (a:Addr) (m c:Nat) (news:List Value) (hl:news.length=m*i.size) (hnews:∀j u,news[j]?=some u→w.cell? (a.add j)=some u) (h1:∀u∈news,u.oneCell'=true)
  (hroom:sLen+m≤sCap) (hfit:o+sLen*i.size+news.length≤cur.size):
  (Builtin.append_ #[t,t] ty #[.slice (some ⟨g,o,none⟩) sLen sCap,.slice (some a) m c]).run P w=
   .ok (.slice (some ⟨g,o,none⟩) (sLen+m) sCap) (w.setRow g (cur.toList.take (o+sLen*i.size)++news++cur.toList.drop (o+sLen*i.size+news.length)).toArray):=by
 have hf:=run_firstCells_some (P:=P) w i.size m a m c news hl hnews
 have hst:=run_storeCells_at P g (o+sLen*i.size) e news 0 cur w hg (by simpa using hfit) h1
 simp only[Nat.add_zero] at hst
 simp[Builtin.append_,run_underlying ht,Go.sizeOf,typeInfo,hi,Builtin.lenOf,hroom,hf,Qv,hst]
end
section
variable {P:Program} {B:Nat} {io:Nat→Prop} {w w':World} {tmps:Array Value} {s s':St} {ρ ρ':Rho} {F F':Id→List Nat} {fl fl':List Nat}
theorem Rel.grownAt {r:List Nat} (h:Rel P B io w tmps s ρ F (r++fl)) {id:Id} (hid:ρ id=none) (hep:id.1=s.ep) {us:List Value} {rows:List (List V)} {e:TypeId} {cl:Bool} {c:Nat} {z:Value} (hz:z.cells.size=P.cellsOf e) (hl:rows.length≤c) (hm:c≤maxLen) (hu:∀q∈rows,q.length=P.cellsOf e)
  (hlen:us.length=rows.length*P.cellsOf e) (h1:cl=true→OwL w us rows.flatten r) (h2:cl=false→r=[]∧∀(k:Nat) (x:V),rows.flatten[k]?=some x→∃v,us[k]?=some v∧Rd w (okS s ρ w) v x):
  Rel P B io (w.drew.alloc (.cells (us.toArray++Builtin.zeroCells z.cells (c - rows.length)) e)) tmps (s.setB id ⟨false,true,cl,e,rows⟩) (upd ρ id (some (.blk w.heap.size 0 c (P.cellsOf e)))) (upd F id (w.heap.size::r)) fl:=by
 refine h.grown hid hep (us:=us) (zs:=(Builtin.zeroCells z.cells (c - rows.length)).toList) (Zf0 w.drew _) (fun g hg=>Below.heap_alloc w.drew _ g hg) ?_ hl hm hu hlen ?_ h1 h2
 ·have:=Zso w.drew (.cells (us.toArray++Builtin.zeroCells z.cells (c - rows.length)) e)
  rw[show (us++(Builtin.zeroCells z.cells (c - rows.length)).toList).toArray=us.toArray++Builtin.zeroCells z.cells (c - rows.length) by apply Array.ext';simp]
  exact this
 ·show us.length+(Builtin.zeroCells z.cells (c - rows.length)).toList.length=_
  rw[Array.length_toList (xs:=Builtin.zeroCells z.cells (c - rows.length)),size_zeroCells,hz,hlen,←Nat.add_mul]
  congr 1
  omega
end
section
variable {P:Program} {B:Nat} {io:Nat→Prop} {w w':World} {a:Act} {tmps:Array Value} {s s' s1:St} {ρ ρ':Rho} {F F':Id→List Nat} {fl fl':List Nat} {k:Nat} {o:Oper} {v:V}
theorem Z9i {id:Id} {b:Blk} (hid:ρ id=none) {g:Nat} (h:tops (s.setB id b) (upd ρ id (some .emp)) g):tops s ρ g:=by
 obtain⟨id',b',o,c,sz,hb,ho,hρ⟩:=h
 by_cases e:id'=id
 ·subst e;rw[Zg] at hρ;cases hρ
 ·rw[Zv e] at hb;rw[Zy e] at hρ;exact⟨id',b',o,c,sz,hb,ho,hρ⟩
theorem Rel.newEmp (h:Rel P B io w tmps s ρ F fl) {id:Id} (hid:ρ id=none) (hep:id.1=s.ep) {b:Blk} (hbox:b.box=false) (hown:b.own=true) (hr:b.rows=[]):
  Rel P B io w tmps (s.setB id b) (upd ρ id (some .emp)) (upd F id []) fl:=by
 refine h.step (nid:=id) rfl rfl (fun id' b' e hb=>by rw[Zv e] at hb;exact hb) (Xs hid) (fun id' hi=>?_) (fun id' e=>Zy e) (fun id' e=>Zy e) (.same fun g=>Z9i hid)
  (fun _ _ _ _ _ _=>rfl) (fun _ _ _=>rfl) (fun b' hb=>?_) (fun b' hb ho=>?_) (fun b' hb ho id' b'' e hb'' ho'' g hg hg'=>?_) (fun b' hb ho=>?_) h.flMine
  (fun id' b' e hb ho g hg=>h.flApart id' b' (by rw[Zv e] at hb;exact hb) ho g hg) (fun b' hb ho g hg hg'=>?_) h.flOnce
 ·by_cases e:id'=id
  ·subst e;exact .inr hep
  ·rw[Zy e] at hi;exact .inl hi
 ·rw[Kb] at hb
  injection hb with hb
  subst hb
  rw[Zg,Zg]
  exact .mkEmp hbox hown rfl hr rfl
 ·rw[Zg];exact⟨fun g hg=>by simp at hg,fun _ g hg=>by simp at hg⟩
 ·rw[Zg] at hg';simp at hg'
 ·rw[Zg];simp
 ·rw[Zg] at hg;simp at hg
theorem Zj6 {id:Id} {i:Info} {e k:Nat} (hep:id.1=e) (hk:id.2 / 1024=k):∀id',(upd ρ id (some i) id').isSome=true→(ρ id').isSome=true∨(id'.1=e∧id'.2 / 1024=k):=fun id' hi=>by
 by_cases h:id'=id
 ·subst h;exact .inr ⟨hep,hk⟩
 ·rw[Zy h] at hi;exact .inl hi
theorem Qd {t:TypeId} {bo xo:Operand} {u:Value} (ho:o.op=.call {callee:=.builtin .append,args:=#[bo,xo],argTypes:=#[t,t]})
  (hr:(Builtin.append_ #[t,t] o.type #[a.eval bo,a.eval xo]).run P w=.ok u w'):(execOp a.eval o).run P w=.ok (.value u) w':=by
 simp[execOp,ho,resolve,invoke,builtin,hr]
theorem Left.drew {w0:World} (h:Left B io w0 w):Left B io w0 w.drew:=⟨h.os,h.tape,h.output,h.size,h.block⟩
theorem Zlb {r:List Nat} (h:Rel P B io w a.tmps s1 ρ F (r++fl)) (henv:s1.env=s.env) (heps:s1.ep=s.ep) {id:Id} (hid:ρ id=none) (hep:id.1=s.ep) (hk:id.2 / 1024=k) {us:List Value} {rows:List (List V)} {e:TypeId} {cl:Bool} {need old:Nat} {z:Value}
  (hz:z.cells.size=P.cellsOf e) (hn:rows.length=need) (hm:need≤maxLen) (hu:∀q∈rows,q.length=P.cellsOf e)
  (hlen:us.length=rows.length*P.cellsOf e) (h1:cl=true→OwL w us rows.flatten r) (h2:cl=false→r=[]∧∀(k:Nat) (x:V),rows.flatten[k]?=some x→∃v,us[k]?=some v∧Rd w (okS s1 ρ w) v x):
  Stp P B io w a.tmps s ρ fl k (.sl id 0 need) (s1.setB id ⟨false,true,cl,e,rows⟩) (.slice (some ⟨w.heap.size,0,none⟩) need (grownCap w need old e)) (w.drew.alloc (.cells (us.toArray++Builtin.zeroCells z.cells (grownCap w need old e - need)) e)):=by
 subst hn
 have hge:=grownCap_ge w rows.length old e
 have hR:=h.grownAt (fl:=fl) hid (by rw[heps];exact hep) (z:=z) (cl:=cl) hz hge (grownCap_le_maxLen w _ old e hm) hu hlen h1 h2
 refine⟨henv,heps,((Left.refl B io w).drew).alloc h.base _,_,_,hR,?_,Xs hid,Zj6 hep hk⟩
 have:=En.sl (w:=w.drew.alloc (.cells (us.toArray++Builtin.zeroCells z.cells (grownCap w rows.length old e - rows.length)) e)) (ok:=okS (s1.setB id ⟨false,true,cl,e,rows⟩) (upd ρ id (some (.blk w.heap.size 0 (grownCap w rows.length old e) (P.cellsOf e)))) (w.drew.alloc (.cells (us.toArray++Builtin.zeroCells z.cells (grownCap w rows.length old e - rows.length)) e)))
  (off:=0) (len:=rows.length) (Zg ρ id (some (.blk w.heap.size 0 (grownCap w rows.length old e) (P.cellsOf e)))) (by omega)
 simpa using this
end
section
variable {P:Program} {B:Nat} {io:Nat→Prop} {w w':World} {a:Act} {tmps:Array Value} {s s' s1:St} {ρ ρ':Rho} {F F':Id→List Nat} {fl fl':List Nat} {k:Nat} {o:Oper} {v:V}
theorem Z15 {n:Nat} {rows:List (List V)} (h:Za5 n rows=true):∀q∈rows,q.length=n:=fun q hq=>by
 have:=List.all_eq_true.1 h q hq
 simpa using this
theorem Rel.over {r:List Nat} (h:Rel P B io w tmps s ρ F (r++fl)) {i id:Id} {b b':Blk} {g o c sz o' c' sz':Nat} {f':List Nat} {new:Array Value} (hid:ρ id=none) (hep:id.1=s.ep) (hb:s.heap i=some b) (ho:b.own=true) (hρ:ρ i=some (.blk g o c sz))
  (hF:∃q,F i=g::q) (hFm:∀k∈f',k∈F i∨k∈r) (hno:(g::f').Nodup) (hcap:0 < c)
  (hn:BlkR P (w.setRow g new) (okS ((s.kill i).setB id b') (upd ρ id (some (.blk g o' c' sz'))) (w.setRow g new)) (upd ρ id (some (.blk g o' c' sz'))) (some (.blk g o' c' sz')) (g::f') b'):
  Rel P B io (w.setRow g new) tmps ((s.kill i).setB id b') (upd ρ id (some (.blk g o' c' sz'))) (upd F id (g::f')) fl∧Left B io w (w.setRow g new):=by
 have hne:i≠id:=by rintro rfl;rw[hid] at hρ;cases hρ
 have old:∀{id':Id} {b'':Blk},id'≠id→((s.kill i).setB id b').heap id'=some b''→s.heap id'=some b''∧id'≠i:=fun {id' b''} e hb'=>by
  rw[Zv e] at hb'
  refine⟨Qj hb',?_⟩
  rintro rfl
  rw[Y6] at hb';cases hb'
 obtain⟨q,hFr⟩:=hF
 have hgF:g∈F i:=by rw[hFr];exact List.mem_cons_self
 have htop:tops s ρ g:=⟨i,b,o,c,sz,hb,ho,hρ⟩
 have hsize:(w.setRow g new).heap.size=w.heap.size:=by simp[World.setRow]
 have hmem:∀k∈g::f',k∈F i∨k∈r:=fun k hk=>by
  rcases List.mem_cons.1 hk with rfl|hk
  ·exact .inl hgF
  ·exact hFm k hk
 have hflr:=List.nodup_append.1 h.flOnce
 refine⟨h.step (nid:=id) rfl rfl (fun id' b'' e hb'=>(old e hb').1) (Xs hid) (fun id' hi=>?_) (fun id' e=>Zy e) (fun id' e=>Zy e)
  ⟨fun g' hg' _=>setRow_other w g g' _ (fun e=>hg' (e▸htop)),fun g' hg' _ ht=>hg' (Zmd hid hb ho hρ g' ht),by rw[hsize];exact Nat.le_refl _⟩ (fun id' b'' e hb' g' hg'=>setRow_other w g g' _ (fun e'=>?_))
  (fun k hk hio=>setRow_other w g k _ (fun e=>by
   subst e
   rcases h.top i b hb ho ⟨k,o,c,sz,hρ,hcap⟩ k (by rw[hFr];rfl) with h1|h1
   ·exact hio h1
   ·omega))
  (fun b'' hb'=>?_) (fun b'' hb' ho'=>?_) (fun b'' hb' ho' id' b3 e hb3 ho3 g' hg' hg''=>?_) (fun b'' hb' ho'=>by rw[Zg];exact hno) (fun g' hg'=>by rw[hsize];exact h.flMine g' (List.mem_append_right _ hg'))
  (fun id' b'' e hb' ho' g' hg' hg''=>h.flApart id' b'' (old e hb').1 ho' g' hg' (List.mem_append_right _ hg'')) (fun b'' hb' ho' g' hg' hg''=>?_) hflr.2.1,⟨rfl,rfl,rfl,by rw[hsize];exact Nat.le_refl _,fun g' hg' hio=>setRow_other w g g' _ (fun e=>?_)⟩⟩
 ·by_cases e:id'=id
  ·subst e;exact .inr hep
  ·rw[Zy e] at hi;exact .inl hi
 ·subst e'
  obtain⟨h1,h2⟩:=old e hb'
  cases hown:b''.own with
  | true=>exact h.apart id' i b'' b h1 hown hb ho h2 g' hg' hgF
  | false=>
   have hB:=h.heap id' b'' h1
   unfold BlkR at hB
   rw[hown] at hB
   split at hB
   ·cases hB.1
   ·rename_i h2;cases h2
   ·rw[hB.1] at hg';cases hg'
 ·rw[Kb] at hb'
  injection hb' with hb'
  subst hb'
  rw[Zg,Zg]
  exact hn
 ·rw[Zg]
  refine⟨fun g' hg'=>?_,fun _ g' hg'=>?_⟩
  ·rw[hsize]
   rcases hmem g' hg' with h1|h1
   ·exact h.mine i b hb ho g' h1
   ·exact h.flMine g' (List.mem_append_left _ h1)
  ·have e1:g=g':=by simpa using hg'
   subst e1
   exact h.top i b hb ho ⟨g,o,c,sz,hρ,hcap⟩ g (by rw[hFr];rfl)
 ·rw[Zg] at hg''
  obtain⟨h3,h4⟩:=old e hb3
  rcases hmem g' hg'' with h1|h1
  ·exact h.apart id' i b3 b h3 ho3 hb ho h4 g' hg' h1
  ·exact h.flApart id' b3 h3 ho3 g' hg' (List.mem_append_left _ h1)
 ·rw[Zg] at hg'
  rcases hmem g' hg' with h1|h1
  ·exact h.flApart i b hb ho g' h1 (List.mem_append_right _ hg'')
  ·exact hflr.2.2 g' h1 g' hg'' rfl
 ·subst e
  rcases h.top i b hb ho ⟨g',o,c,sz,hρ,hcap⟩ g' (by rw[hFr];rfl) with h1|h1
  ·exact hio h1
  ·omega
theorem Z74 {all:Bool} (h:Rel P B io w a.tmps s ρ F fl) {t:TypeId} {bo xo:Operand} (ho:o.op=.call {callee:=.builtin .append,args:=#[bo,xo],argTypes:=#[t,t]}) {id:Id}
  (he:Zcn P all s id t (s.opV bo) (s.opV xo)=some (v,s')) (hid:ρ id=none) (hep:id.1=s.ep) (hk:id.2 / 1024=k):
  OpR P o a w (Stp P B io w a.tmps s ρ fl k v s'):=by
 unfold Zcn at he
 obtain⟨e,hte,he⟩:=Option.bind_eq_some_iff.1 he
 obtain⟨⟨rows,cl,s1⟩,hm,he⟩:=Option.bind_eq_some_iff.1 he
 have ht:=Q3 hte
 split at he
 case isFalse=>cases he
 rename_i hc
 obtain⟨hall,hsz,hzo⟩:=hc
 simp only[Zf] at hall hsz
 have hun:=Z15 hall
 simp only at hun he
 obtain⟨i,hi,z,hz,hzs⟩:∃i,P.info? e=some i∧∃z,i.zero=some z∧z.cells.size=P.cellsOf e:=by
  unfold Zfz at hzo
  split at hzo
  ·rename_i z hz
   obtain⟨i,hi,hz⟩:=Option.bind_eq_some_iff.1 hz
   exact⟨i,hi,z,hz,by simpa using hzo⟩
  ·cases hzo
 have hisz:i.size=P.cellsOf e:=by simp[Program.cellsOf,hi]
 have hiby:i.bytes=P.bytesOf e:=by simp[Program.bytesOf,hi]
 have hps:0 < P.cellsOf e:=Nat.pos_of_ne_zero hsz
 obtain⟨r,hR,hcx,hs1⟩:=Yai h (h.opV xo) hm hun
 have henv:s1.env=s.env:=by rcases hs1 with rfl|⟨_,rfl⟩<;>rfl
 have heps:s1.ep=s.ep:=by rcases hs1 with rfl|⟨_,rfl⟩<;>rfl
 have hsubh:∀id b,s1.heap id=some b→s.heap id=some b:=by rcases hs1 with rfl|⟨_,rfl⟩;exact fun _ _ h=>h;exact fun _ _ h=>Qj h
 have one:∀{us:List Value},Cells w (okS s1 ρ w) (P.cellsOf e) (a.eval xo) rows cl r us→∀u∈us,u.oneCell'=true:=by
  intro us hC u hu
  cases hcl:cl with
  | true=>exact (hC.own hcl).one u hu
  | false=>
   obtain⟨j,hj⟩:=List.getElem?_of_mem hu
   have hlt:j < rows.flatten.length:=by have:=hC.len;rw[Xr hun,←hC.len];exact (List.getElem?_eq_some_iff.1 hj).1
   obtain⟨v',hv',hr'⟩:=(hC.see hcl).2 j _ (List.getElem?_eq_getElem hlt)
   rw[hj] at hv';injection hv' with hv';subst hv'
   exact hr'.one
 have hcase:(rows=[]∧∃A c,a.eval xo=.slice A 0 c)∨(rows≠[]∧∃us,Cells w (okS s1 ρ w) (P.cellsOf e) (a.eval xo) rows cl r us):=by
  rcases hcx with⟨h1,_,h2⟩|⟨us,hC⟩
  ·exact .inl ⟨h1,h2⟩
  ·by_cases hn:rows=[]
   ·obtain⟨ad,c,hv,_⟩:=hC.val
    exact .inl ⟨hn,some ad,c,by rw[hv,hn];rfl⟩
   ·exact .inr ⟨hn,us,hC⟩
 have hbv:=h.opV bo
 split at he
 ·rename_i hbo
  split at he
  case isFalse=>cases he
  rename_i hlim
  simp only[Option.some.injEq,Prod.mk.injEq] at he
  obtain⟨rfl,rfl⟩:=he
  rw[hbo] at hbv
  generalize hq:a.eval bo=q at hbv
  cases hbv
  rcases hcase with⟨rfl,A,c,hx⟩|⟨hne,us,hC⟩
  ·have hrun:=Zmy (P:=P) (w:=w) t o.type e i ht hi none A 0 0 c (Nat.le_refl _)
   rw[←hq,←hx] at hrun
   refine .value (Qd ho hrun) ⟨henv,heps,Left.refl _ _ _,_,_,(hR.less (List.sublist_append_right _ _)).newEmp hid (hep.trans heps.symm) rfl rfl rfl,?_,Xs hid,Zj6 hep hk⟩
   rw[hq]
   exact .sle (by rw[Zg];rfl)
  ·obtain⟨ad,c,hv,hcells⟩:=hC.val
   have hn0:0 < rows.length:=List.length_pos_iff.2 hne
   have hrun:=run_append_nil (P:=P) (w:=w) t o.type e i z ht hi hz ad rows.length c us (by rw[hC.len,hisz]) hcells hn0 (by omega) (by rw[hiby];omega)
   rw[←hq,←hv] at hrun
   exact .value (Qd ho hrun) (Zlb hR henv heps hid hep hk hzs rfl (by unfold maxLen;omega) hun hC.len hC.own hC.see)
 ·rename_i ib off len hbo
  obtain⟨kb,hkb,he⟩:=Option.bind_eq_some_iff.1 he
  split at he
  case isFalse=>cases he
  rename_i hlim
  obtain⟨hbox,hown,hol,hel,hby,h63⟩:=hlim
  simp only[Option.some.injEq,Prod.mk.injEq] at he
  obtain⟨rfl,rfl⟩:=he
  have hB:=hR.heap ib kb hkb
  rw[hbo] at hbv
  generalize hq:a.eval bo=q at hbv
  have hidb:ib≠id:=by
   rintro rfl
   cases hbv with
   | sl hρ=>rw[hid] at hρ;cases hρ
   | sle hρ=>rw[hid] at hρ;cases hρ
  cases hbv with
  | @sle _ A _ hρ=>
   have hd:kb.rows.drop off=[]:=by apply List.drop_eq_nil_of_le;omega
   rcases hcase with⟨rfl,A',c,hx⟩|⟨hne,us,hC⟩
   ·have hrun:=Zmy (P:=P) (w:=w) t o.type e i ht hi A A' 0 0 c (Nat.le_refl _)
    rw[←hq,←hx] at hrun
    refine .value (Qd ho hrun) ⟨henv,heps,Left.refl _ _ _,_,_,((hR.less (List.sublist_append_right _ _)).kill ib).newEmp (b:=⟨false,true,kb.cl&&cl,e,kb.rows.drop off++[]⟩) hid (hep.trans heps.symm) rfl rfl (by rw[hd];rfl),?_,Xs hid,Zj6 hep hk⟩
    rw[hq]
    exact .sle (by rw[Zg];rfl)
   ·obtain⟨ad,c,hv,hcells⟩:=hC.val
    have hn0:0 < rows.length:=List.length_pos_iff.2 hne
    have hby0:rows.length*P.bytesOf e≤140737488355328:=by simpa using hby
    have hrun:(Builtin.append_ #[t,t] o.type #[a.eval bo,a.eval xo]).run P w=.ok (.slice (some ⟨w.heap.size,0,none⟩) rows.length (grownCap w rows.length 0 e)) (w.drew.alloc (.cells (us.toArray++Builtin.zeroCells z.cells (grownCap w rows.length 0 e - rows.length)) e)):=by
     rw[hq,hv]
     cases A with
     | none=>exact run_append_nil (P:=P) (w:=w) t o.type e i z ht hi hz ad rows.length c us (by rw[hC.len,hisz]) hcells hn0 (by omega) (by rw[hiby];omega)
     | some b=>
      have:=run_append_grow (P:=P) (w:=w) t o.type e i z ht hi hz b 0 0 [] (by simp) (by simp) ad rows.length c us (by rw[hC.len,hisz]) hcells (by omega) (by omega) (growslice_fits (by omega) (by rw[hiby,Nat.zero_add];exact hby0))
      simpa using this
    have hcl':(kb.cl&&cl)=true→OwL w us rows.flatten r:=fun hc=>hC.own (by simp at hc;exact hc.2)
    rw[hd,List.nil_append]
    have hkr:kb.rows.length=off:=by omega
    cases hcc:(kb.cl&&cl) with
    | true=>
     refine .value (Qd ho hrun) ?_
     have:=Zlb (s:=s) (k:=k) (s1:=s1.kill ib) (old:=0) (hR.kill ib) henv heps hid hep hk hzs rfl (by unfold maxLen;omega) hun hC.len (cl:=true) (fun _=>hC.own (by simp at hcc;exact hcc.2)) (fun h=>by cases h)
     simpa using this
    | false=>
     refine .value (Qd ho hrun) ?_
     have see:∀(k:Nat) (x:V),rows.flatten[k]?=some x→∃v,us[k]?=some v∧Rd w (okS (s1.kill ib) ρ w) v x:=by
      intro j x hx
      cases hcl:cl with
      | true=>
       obtain⟨v,hv,hr⟩:=(hC.own hcl).rd (ok:=okS s1 ρ w) (fun g hg=>hR.ok_fl (List.mem_append_left _ hg)) hx
       exact⟨v,hv,hr.mono (fun _ _ _=>rfl) (fun g hg=>Zlf hg)⟩
      | false=>
       obtain⟨v,hv,hr⟩:=(hC.see hcl).2 j x hx
       exact⟨v,hv,hr.mono (fun _ _ _=>rfl) (fun g hg=>Zlf hg)⟩
     have:=Zlb (s:=s) (k:=k) (s1:=s1.kill ib) (old:=0) (r:=[]) (fl:=fl) ((hR.less (List.sublist_append_right _ _)).kill ib) henv heps hid hep hk hzs rfl (by unfold maxLen;omega) hun hC.len (cl:=false) (fun h=>by cases h) (fun _=>⟨rfl,see⟩)
     simpa using this
  | @sl _ g o0 c0 sz _ _ hρ hoc=>
   rw[hρ] at hB
   have hB':=hB
   unfold BlkR at hB
   rw[hbox,hown] at hB
   rcases hB with⟨hi',_⟩|⟨g',o',c',cur,hi',hg,hl,hmx,hunb,hzc,fp,hFe,h1,h2⟩
   ·cases hi'
   ·cases hi'
    subst hel
    have hgfl:g ∉ r++fl:=hR.flApart ib kb hkb hown g (by rw[hFe];exact List.mem_cons_self)
    have hund:∀q∈kb.rows.drop off,q.length=P.cellsOf kb.el:=fun q hq=>hunb q (List.mem_of_mem_drop hq)
    have hdl:(kb.rows.drop off).length=len:=by simp;omega
    have hoc':off*P.cellsOf kb.el+(c0 - off)*P.cellsOf kb.el=c0*P.cellsOf kb.el:=by rw[←Nat.add_mul];congr 1;omega
    have hlc:kb.rows.length*P.cellsOf kb.el≤c0*P.cellsOf kb.el:=Nat.mul_le_mul_right _ hl
    have hll:off*P.cellsOf kb.el+len*P.cellsOf kb.el=kb.rows.length*P.cellsOf kb.el:=by rw[←Nat.add_mul,hol]
    let olds:=(cur.toList.drop (o0+off*P.cellsOf kb.el)).take (len*P.cellsOf kb.el)
    have holds_def:olds=(cur.toList.drop (o0+off*P.cellsOf kb.el)).take (len*P.cellsOf kb.el):=rfl
    have holdl:olds.length=len*P.cellsOf kb.el:=by simp[olds];omega
    have hold2:((cur.toList.drop o0).take (kb.rows.length*P.cellsOf kb.el)).drop (off*P.cellsOf kb.el)=olds:=by
     rw[List.drop_take,List.drop_drop];simp only[olds];congr 1;omega
    have hoget:∀(j:Nat) (v:Value),olds[j]?=some v→cur[o0+off*P.cellsOf kb.el+j]?=some v:=by
     intro j v hj
     simp only[olds] at hj
     rw[List.getElem?_take] at hj
     split at hj
     ·simpa using hj
     ·cases hj
    have hocell:∀(j:Nat) (v:Value),olds[j]?=some v→w.cell? ((⟨g,o0+off*P.cellsOf kb.el,none⟩:Addr).add j)=some v:=by
     intro j v hj
     rw[Qv,cell_of_row w g _ cur kb.el (0,0) hg]
     exact hoget j v hj
    have hown1:kb.cl=true→∃f1,OwL w olds (kb.rows.drop off).flatten f1∧f1.Sublist fp:=fun hc=>by
     obtain⟨f1,hO,hs⟩:=(h1 hc).drop (off*P.cellsOf kb.el)
     rw[hold2,Zct off hunb] at hO
     exact⟨f1,hO,hs⟩
    have hrdo:∀(j:Nat) (x:V),(kb.rows.drop off).flatten[j]?=some x→∃v,olds[j]?=some v∧Rd w (okS s1 ρ w) v x:=by
     intro j x hj
     cases hkc:kb.cl with
     | true=>
      obtain⟨f1,hO,hs⟩:=hown1 hkc
      refine hO.rd (fun g'' hg''=>hR.ok_of_F hkb hown hρ (by rw[hFe];exact List.mem_cons_of_mem _ (hs.subset hg'')) (fun g3 _ _ _ e=>by
       cases e;rintro rfl
       have:=hR.once ib kb hkb hown
       rw[hFe] at this
       exact (List.nodup_cons.1 this).1 (hs.subset hg''))) hj
     | false=>
      rw[←Zct off hunb,List.getElem?_drop] at hj
      obtain⟨v,hv,hr⟩:=(h2 hkc).2 _ x hj
      refine⟨v,?_,hr⟩
      have hlt:=(List.getElem?_eq_some_iff.1 hj).1
      rw[Xr hunb] at hlt
      simp only[olds]
      rw[List.getElem?_take,if_pos (by omega),List.getElem?_drop]
      simpa [Nat.add_assoc] using hv
    have hrdn:∀{us:List Value},Cells w (okS s1 ρ w) (P.cellsOf kb.el) (a.eval xo) rows cl r us→∀(j:Nat) (x:V),rows.flatten[j]?=some x→∃v,us[j]?=some v∧Rd w (okS s1 ρ w) v x:=by
     intro us hC j x hx
     cases hcl:cl with
     | true=>exact (hC.own hcl).rd (fun g hg=>hR.ok_fl (List.mem_append_left _ hg)) hx
     | false=>exact (hC.see hcl).2 j x hx
    have hFno:=hR.once ib kb hkb hown
    rw[hFe] at hFno
    rcases hcase with⟨rfl,A',c,hx⟩|⟨hne,us,hC⟩
    ·have hrun:=Zmy (P:=P) (w:=w) t o.type kb.el i ht hi (some ⟨g,o0+off*P.cellsOf kb.el,none⟩) A' len (c0 - off) c (by omega)
     rw[←hq,←hx] at hrun
     have hR':=hR.less (List.sublist_append_right r fl)
     have hc00:(([]:List (List V))).length=0:=rfl
     have hrel:∃F'',Rel P B io w a.tmps ((s1.kill ib).setB id ⟨false,true,kb.cl&&cl,kb.el,kb.rows.drop off++[]⟩) (upd ρ id (some (.blk g (o0+off*P.cellsOf kb.el) (c0 - off) (P.cellsOf kb.el)))) F'' fl:=by
      have hokm:∀g',okS s1 ρ w g'→okS ((s1.kill ib).setB id ⟨false,true,kb.cl&&cl,kb.el,kb.rows.drop off++[]⟩) (upd ρ id (some (.blk g (o0+off*P.cellsOf kb.el) (c0 - off) (P.cellsOf kb.el)))) w g':=fun g' hg'=>⟨fun ht=>hg'.1 (Zmd hid hkb hown hρ g' ht),hg'.2⟩
      cases hcc:(kb.cl&&cl) with
      | true=>
       obtain⟨f1,hO,hs⟩:=hown1 (by simp at hcc;exact hcc.1)
       refine⟨_,hR'.move (b':=⟨false,true,true,kb.el,kb.rows.drop off++[]⟩) (Fs:=g::f1) hid (by rw[heps];exact hep) hkb hown hρ ⟨fp,hFe⟩ ⟨f1,rfl⟩ (fun k' hk'=>?_) (List.nodup_cons.2 ⟨fun hm=>(List.nodup_cons.1 hFno).1 (hs.subset hm),(List.nodup_cons.1 hFno).2.sublist hs⟩) (fun _=>by omega) (.mkRow rfl rfl rfl hg (by simp;omega) (by omega) (by rw[List.append_nil];exact hund) (by show o0+off*P.cellsOf kb.el+(c0 - off)*P.cellsOf kb.el=cur.size;omega) rfl (fun _=>?_) (fun hf=>by cases hf))⟩
       ·rw[hFe]
        rcases List.mem_cons.1 hk' with rfl|hk'
        ·exact List.mem_cons_self
        ·exact List.mem_cons_of_mem _ (hs.subset hk')
       ·simp only[List.append_nil,hdl];exact hO
      | false=>
       refine⟨_,hR'.move (b':=⟨false,true,false,kb.el,kb.rows.drop off++[]⟩) (Fs:=[g]) hid (by rw[heps];exact hep) hkb hown hρ ⟨fp,hFe⟩ ⟨[],rfl⟩ (fun k' hk'=>by rw[hFe,List.mem_singleton.1 hk'];exact List.mem_cons_self) (by simp) (fun _=>by omega) (.mkRow rfl rfl rfl hg (by simp;omega) (by omega) (by rw[List.append_nil];exact hund) (by show o0+off*P.cellsOf kb.el+(c0 - off)*P.cellsOf kb.el=cur.size;omega) rfl (fun hf=>by cases hf) (fun _=>⟨rfl,fun j x hj=>?_⟩))⟩
       simp only[List.append_nil] at hj
       obtain⟨v,hv,hr⟩:=hrdo j x hj
       rw[hcc] at hokm
       exact⟨v,hoget j v hv,hr.mono (fun _ _ _=>rfl) hokm⟩
     obtain⟨F'',hrel⟩:=hrel
     refine .value (Qd ho hrun) ⟨henv,heps,Left.refl _ _ _,_,_,hrel,?_,Xs hid,Zj6 hep hk⟩
     have:=En.sl (w:=w) (ok:=okS ((s1.kill ib).setB id ⟨false,true,kb.cl&&cl,kb.el,kb.rows.drop off++[]⟩) (upd ρ id (some (.blk g (o0+off*P.cellsOf kb.el) (c0 - off) (P.cellsOf kb.el)))) w) (off:=0) (len:=len) (Zg ρ id (some (.blk g (o0+off*P.cellsOf kb.el) (c0 - off) (P.cellsOf kb.el)))) (by omega)
     rw[hq]
     simpa using this
    ·obtain⟨ad,c,hv,hcells⟩:=hC.val
     have hn0:0 < rows.length:=List.length_pos_iff.2 hne
     by_cases hroom:len+rows.length≤c0 - off
     ·
      have hfit:o0+off*P.cellsOf kb.el+len*i.size+us.length≤cur.size:=by
       rw[hisz,hC.len]
       have:(off+len+rows.length)*P.cellsOf kb.el≤c0*P.cellsOf kb.el:=Nat.mul_le_mul_right _ (by omega)
       rw[Nat.add_mul,Nat.add_mul] at this
       omega
      have hrun:=Z23 (P:=P) (w:=w) t o.type kb.el i ht hi g (o0+off*P.cellsOf kb.el) len (c0 - off) cur hg ad rows.length c us (by rw[hC.len,hisz]) hcells (one hC) hroom hfit
      rw[←hq,←hv] at hrun
      rw[hisz] at hrun hfit
      generalize hnew:(cur.toList.take (o0+off*P.cellsOf kb.el+len*P.cellsOf kb.el)++us++cur.toList.drop (o0+off*P.cellsOf kb.el+len*P.cellsOf kb.el+us.length)).toArray=new at hrun
      have hnews:new.size=cur.size:=by rw[←hnew];simp;omega
      have hnget:∀m,new[m]?=if o0+off*P.cellsOf kb.el+len*P.cellsOf kb.el≤m∧m < o0+off*P.cellsOf kb.el+len*P.cellsOf kb.el+us.length then us[m - (o0+off*P.cellsOf kb.el+len*P.cellsOf kb.el)]? else cur[m]?:=by
       intro m
       rw[←hnew,List.getElem?_toArray,Qn (by simp;omega)]
       simp
      have hother:∀k',k'≠g→(w.setRow g new).heap[k']?=w.heap[k']?:=fun k' hk'=>setRow_other w g k' _ hk'
      have htop:tops s1 ρ g:=⟨ib,kb,_,_,_,hkb,hown,hρ⟩
      have hncells:(new.toList.drop (o0+off*P.cellsOf kb.el)).take ((kb.rows.drop off++rows).length*P.cellsOf kb.el)=olds++us:=by
       apply List.ext_getElem?
       intro m
       rw[List.getElem?_take,List.getElem?_drop,Array.getElem?_toList,hnget]
       have hl1:(kb.rows.drop off++rows).length*P.cellsOf kb.el=len*P.cellsOf kb.el+us.length:=by rw[List.length_append,hdl,Nat.add_mul,hC.len]
       rw[hl1]
       by_cases hm:m < len*P.cellsOf kb.el
       ·rw[if_pos (by omega),if_neg (by omega),List.getElem?_append_left (by omega)]
        simp only[olds]
        rw[List.getElem?_take,if_pos hm,List.getElem?_drop,Array.getElem?_toList]
       ·rw[List.getElem?_append_right (by omega),holdl]
        by_cases hm2:m < len*P.cellsOf kb.el+us.length
        ·rw[if_pos hm2,if_pos (by omega)]
         congr 1;omega
        ·rw[if_neg hm2,List.getElem?_eq_none (by omega)]
      have hrl:∀q∈kb.rows.drop off++rows,q.length=P.cellsOf kb.el:=fun q hq=>by
       rcases List.mem_append.1 hq with hq|hq
       ·exact hund q hq
       ·exact hun q hq
      let b2:Blk:=⟨false,true,kb.cl&&cl,kb.el,kb.rows.drop off++rows⟩
      have hokm:∀g',okS s1 ρ w g'→okS ((s1.kill ib).setB id b2) (upd ρ id (some (.blk g (o0+off*P.cellsOf kb.el) (c0 - off) (P.cellsOf kb.el)))) (w.setRow g new) g':=fun g' hg'=>⟨fun ht=>hg'.1 (Zmd hid hkb hown hρ g' ht),by simpa using hg'.2⟩
      have hrdm:∀{u:Value} {x:V},Rd w (okS s1 ρ w) u x→Rd (w.setRow g new) (okS ((s1.kill ib).setB id b2) (upd ρ id (some (.blk g (o0+off*P.cellsOf kb.el) (c0 - off) (P.cellsOf kb.el)))) (w.setRow g new)) u x:=fun hu=>
       hu.mono (fun g' hg' _=>hother g' (fun e=>hg'.1 (e▸htop))) hokm
      have hgr:g ∉ r:=fun hm=>hgfl (List.mem_append_left _ hm)
      have hrel:∃F'',Rel P B io (w.setRow g new) a.tmps ((s1.kill ib).setB id b2) (upd ρ id (some (.blk g (o0+off*P.cellsOf kb.el) (c0 - off) (P.cellsOf kb.el)))) F'' fl∧Left B io w (w.setRow g new):=by
       cases hcc:(kb.cl&&cl) with
       | true=>
        have hcc':=hcc
        simp only[Bool.and_eq_true] at hcc'
        obtain⟨f1,hO,hs⟩:=hown1 hcc'.1
        have hO2:=hC.own hcc'.2
        have hf1:∀k'∈f1,k'∈fp:=fun k' hk'=>hs.subset hk'
        have hgf1:g ∉ f1:=fun hm=>(List.nodup_cons.1 hFno).1 (hs.subset hm)
        have hOO:=(hO.append hO2).frame (w':=w.setRow g new) (fun k' hk'=>hother k' (by
         rintro rfl
         rcases List.mem_append.1 hk' with h1|h1
         ·exact hgf1 h1
         ·exact hgr h1))
        refine⟨_,hR.over (b':=b2) (f':=f1++r) (new:=new) hid (by rw[heps];exact hep) hkb hown hρ ⟨fp,hFe⟩ (fun k' hk'=>?_) (List.nodup_cons.2 ⟨fun hm=>?_,List.nodup_append.2 ⟨(List.nodup_cons.1 hFno).2.sublist hs,(List.nodup_append.1 hR.flOnce).1,fun x hx y hy e=>?_⟩⟩) (by omega)
         (.mkRow rfl rfl rfl (setRow_heap w g cur new _ _ hg) (by simp[b2];omega) (by omega) hrl (by rw[hnews];show o0+off*P.cellsOf kb.el+(c0 - off)*P.cellsOf kb.el=cur.size;omega) rfl (fun _=>?_) (fun hf=>by simp[b2,hcc] at hf))⟩
        ·rcases List.mem_append.1 hk' with h1|h1
         ·exact .inl (by rw[hFe];exact List.mem_cons_of_mem _ (hf1 k' h1))
         ·exact .inr h1
        ·rcases List.mem_append.1 hm with h1|h1
         ·exact hgf1 h1
         ·exact hgr h1
        ·subst e
         exact hR.flApart ib kb hkb hown x (by rw[hFe];exact List.mem_cons_of_mem _ (hf1 x hx)) (List.mem_append_left _ hy)
        ·show OwL (w.setRow g new) ((new.toList.drop (o0+off*P.cellsOf kb.el)).take ((kb.rows.drop off++rows).length*P.cellsOf kb.el)) (kb.rows.drop off++rows).flatten (f1++r)
         rw[hncells,List.flatten_append]
         exact hOO
       | false=>
        refine⟨_,hR.over (b':=b2) (f':=[]) (new:=new) hid (by rw[heps];exact hep) hkb hown hρ ⟨fp,hFe⟩ (fun k' hk'=>by simp at hk') (by simp) (by omega)
         (.mkRow rfl rfl rfl (setRow_heap w g cur new _ _ hg) (by simp[b2];omega) (by omega) hrl (by rw[hnews];show o0+off*P.cellsOf kb.el+(c0 - off)*P.cellsOf kb.el=cur.size;omega) rfl (fun hf=>by simp[b2,hcc] at hf) (fun _=>⟨rfl,fun j x hj=>?_⟩))⟩
        have hj':((kb.rows.drop off).flatten++rows.flatten)[j]?=some x:=by rw[←List.flatten_append];exact hj
        have hdf:(kb.rows.drop off).flatten.length=len*P.cellsOf kb.el:=by rw[Xr hund,hdl]
        by_cases hjl:j < len*P.cellsOf kb.el
        ·rw[List.getElem?_append_left (by omega)] at hj'
         obtain⟨v,hv,hr⟩:=hrdo j x hj'
         exact⟨v,by rw[hnget,if_neg (by omega)];exact hoget j v hv,hrdm hr⟩
        ·rw[List.getElem?_append_right (by omega),hdf] at hj'
         obtain⟨v,hv,hr⟩:=hrdn hC _ x hj'
         have hlt:=(List.getElem?_eq_some_iff.1 hv).1
         refine⟨v,?_,hrdm hr⟩
         rw[hnget,if_pos (by omega),←hv]
         congr 1;omega
      obtain⟨F'',hrel,hleft⟩:=hrel
      refine .value (Qd ho hrun) ⟨henv,heps,hleft,_,_,hrel,?_,Xs hid,Zj6 hep hk⟩
      have:=En.sl (w:=w.setRow g new) (ok:=okS ((s1.kill ib).setB id b2) (upd ρ id (some (.blk g (o0+off*P.cellsOf kb.el) (c0 - off) (P.cellsOf kb.el)))) (w.setRow g new)) (off:=0) (len:=len+rows.length) (Zg ρ id (some (.blk g (o0+off*P.cellsOf kb.el) (c0 - off) (P.cellsOf kb.el)))) (by omega)
      simpa using this
     ·
      have hR2:=hR.float hkb hown
      have hsup:len+rows.length≤9223372036854775807:=by omega
      have hrun:=run_append_grow (P:=P) (w:=w) t o.type kb.el i z ht hi hz ⟨g,o0+off*P.cellsOf kb.el,none⟩ len (c0 - off) olds (by rw[holdl,hisz]) hocell ad rows.length c us (by rw[hC.len,hisz]) hcells (by omega) (by omega) (growslice_fits (by omega) (by rw[hiby];exact hby))
      rw[←hq,←hv] at hrun
      have hrl:∀q∈kb.rows.drop off++rows,q.length=P.cellsOf kb.el:=fun q hq=>by
       rcases List.mem_append.1 hq with hq|hq
       ·exact hund q hq
       ·exact hun q hq
      have hlen2:(olds++us).length=(kb.rows.drop off++rows).length*P.cellsOf kb.el:=by rw[List.length_append,List.length_append,hdl,Nat.add_mul,hC.len,holdl]
      have harr:olds.toArray++us.toArray=(olds++us).toArray:=by simp
      rw[harr] at hrun
      cases hcc:(kb.cl&&cl) with
      | true=>
       have hcc':=hcc
       simp only[Bool.and_eq_true] at hcc'
       obtain⟨f1,hO,hs⟩:=hown1 hcc'.1
       have hsl:((f1++r)++fl).Sublist (F ib++(r++fl)):=by
        rw[hFe,List.append_assoc]
        exact List.Sublist.append (hs.trans (List.sublist_cons_self _ _)) (List.Sublist.refl _)
       have hO3:OwL w (olds++us) (kb.rows.drop off++rows).flatten (f1++r):=by rw[List.flatten_append];exact hO.append (hC.own hcc'.2)
       refine .value (Qd ho hrun) ?_
       exact Zlb (s:=s) (k:=k) (s1:=s1.kill ib) (r:=f1++r) (hR2.less hsl) henv heps hid hep hk hzs (by rw[List.length_append,hdl]) (by unfold maxLen;omega) hrl hlen2 (fun _=>hO3) (fun h=>by cases h)
      | false=>
       refine .value (Qd ho hrun) ?_
       refine Zlb (s:=s) (k:=k) (s1:=s1.kill ib) (r:=[]) (fl:=fl) ((hR.less (List.sublist_append_right _ _)).kill ib) henv heps hid hep hk hzs (by rw[List.length_append,hdl]) (by unfold maxLen;omega) hrl hlen2 (fun h=>by cases h) (fun _=>⟨rfl,fun j x hj=>?_⟩)
       have hj':((kb.rows.drop off).flatten++rows.flatten)[j]?=some x:=by rw[←List.flatten_append];exact hj
       have hdf:(kb.rows.drop off).flatten.length=len*P.cellsOf kb.el:=by rw[Xr hund,hdl]
       by_cases hjl:j < len*P.cellsOf kb.el
       ·rw[List.getElem?_append_left (by omega)] at hj'
        obtain⟨v,hv,hr⟩:=hrdo j x hj'
        exact⟨v,by rw[List.getElem?_append_left (by omega)];exact hv,hr.mono (fun _ _ _=>rfl) (fun g hg=>Zlf hg)⟩
       ·rw[List.getElem?_append_right (by omega),hdf] at hj'
        obtain⟨v,hv,hr⟩:=hrdn hC _ x hj'
        exact⟨v,by rw[List.getElem?_append_right (by omega),holdl];exact hv,hr.mono (fun _ _ _=>rfl) (fun g hg=>Zlf hg)⟩
 ·cases he
end
section
variable {P:Program} {B:Nat} {io:Nat→Prop} {w:World} {a:Act} {s:St} {ρ:Rho} {F:Id→List Nat} {fl:List Nat} {k:Nat} {o:Oper} {v:V}
theorem Ybd {t e:TypeId} (h:P.underlying t=some (.slice e)):P.elem t=e:=by simp[Program.elem,h]
theorem Z7z {t e:TypeId} (ht:P.underlying t=some (.slice e)) (hz:Zf P e≠0) (A:Option Addr) (len cap:Nat) (lo hi:Option Value) (l h:Nat)
  (hl:(lo=none∧l=0)∨∃kd,lo=some (.int kd l)) (hh:(hi=none∧h=len)∨∃kd,hi=some (.int kd h)) (h1:l≤h) (h2:h≤len) (h3:len≤cap):
  (Instr.sliceAt t (.slice A len cap) lo hi none).run P w=.ok (sliced A l h cap (P.cellsOf e)) w:=by
 have he:=Ybd ht
 have ht':P.underlying t=some (.slice (P.elem t)):=by rw[he];exact ht
 rw[run_sliceAt_slice w t _ _ _ _ ht']
 obtain⟨ti,hti,hsz⟩:∃ti,P.info? e=some ti∧ti.size=P.cellsOf e:=by
  unfold Zf Program.cellsOf at hz;unfold Program.cellsOf
  cases hq:P.info? e with
  | none=>rw[hq] at hz;simp at hz
  | some ti=>exact⟨ti,rfl,rfl⟩
 have hs:((sizeOf (P.elem t)).run P w)=.ok (P.cellsOf e) w:=by rw[he];simp[sizeOf,typeInfo,hti,hsz]
 rcases hl with⟨rfl,rfl⟩|⟨kl,rfl⟩<;>rcases hh with⟨rfl,rfl⟩|⟨kh,rfl⟩
 ·rw[run_slice_all w t A _ cap ht',hs];rfl
 ·rw[run_slice_h w t A len cap ht' kh h (by omega) (by omega),hs];rfl
 ·rw[run_slice_l w t A _ cap ht' kl l (by omega) (by omega),hs];rfl
 ·rw[run_slice_lh w t A len cap ht' kl kh l h (by omega) (by omega) (by omega),hs];rfl
theorem Rd.slice {ok:Nat→Prop} {u:Value} {rows:List (List V)} {l h sz:Nat} (hr:Rd w ok u (.tr rows)) (hh:h≤rows.length) (hl:l≤h) (hs:∀r∈rows,r.length=sz):
  ∃A len cap,u=.slice A len cap∧len=rows.length∧len≤cap∧Rd w ok (sliced A l h cap sz) (.tr ((rows.drop l).take (h - l))):=by
 cases hr with
 | @emp A c=>
  have h0:h=0:=by simpa using hh
  have l0:l=0:=by omega
  subst h0;subst l0
  exact⟨A,0,c,rfl,rfl,Nat.zero_le _,by simp only[sliced];exact .emp⟩
 | @tr g o n c sz' _ uf hn hc hm hs' hg hu hr'=>
  refine⟨_,n,c,rfl,hn.symm,hc,?_⟩
  by_cases he:(rows.drop l).take (h - l)=[]
  ·have:h - l=0:=by
    have:=congrArg List.length he
    simp at this;omega
   rw[he]
   simp only[sliced,this]
   exact .emp
  ·have hlt:l < h:=by
    rcases Nat.lt_or_ge l h with h'|h'
    ·exact h'
    ·exact absurd (by rw[show h - l=0 by omega];rfl) he
   have hsz:sz'=sz:=by
    have hx:rows[l]?=some (rows[l]'(by omega)):=List.getElem?_eq_getElem (by omega)
    rw[←hs' _ (List.mem_of_getElem? hx),hs _ (List.mem_of_getElem? hx)]
   subst hsz
   have hcl:c≠l:=by omega
   simp only[sliced,if_neg hcl,Option.map_some]
   have hadd:(⟨g,o,none⟩:Addr).add (l*sz')=⟨g,o+l*sz',none⟩:=by unfold Addr.add;split<;>simp_all
   rw[hadd]
   have cell:∀(k:Nat) (x:V),((rows.drop l).take (h - l)).flatten[k]?=some x→rows.flatten[l*sz'+k]?=some x:=by
    intro k x hk
    have hd:∀r∈rows.drop l,r.length=sz':=fun r hr=>hs' r (List.mem_of_mem_drop hr)
    rw[←Zkw (h - l) hd,←Zct l hs',List.getElem?_take] at hk
    split at hk
    ·rwa [List.getElem?_drop] at hk
    ·cases hk
   refine .tr (u:=fun k=>uf (l*sz'+k)) (by simp;omega) (by omega) (by omega) (fun r hr=>hs' r (List.mem_of_mem_drop (List.mem_of_mem_take hr))) hg (fun k x hk=>?_) (fun k x hk=>hr' _ x (cell k x hk))
   rw[Nat.add_assoc]
   exact hu _ x (cell k x hk)
theorem Zs1 (h:Rel P B io w a.tmps s ρ F fl) {t:TypeId} {x:Operand} {lo hi:Option Operand} (ho:o.op=.slice t x lo hi none)
  (he:Zfj P s t (s.opV x) (lo.map s.opV) (hi.map s.opV)=some v):OpR P o a w (Stp P B io w a.tmps s ρ fl k v s):=by
 unfold Zfj at he
 obtain⟨e,hte,he⟩:=Option.bind_eq_some_iff.1 he
 obtain⟨rows,hrows,he⟩:=Option.bind_eq_some_iff.1 he
 obtain⟨l,hl,he⟩:=Option.bind_eq_some_iff.1 he
 obtain⟨hh,hhi,he⟩:=Option.bind_eq_some_iff.1 he
 have ht:=Q3 hte
 split at he
 case isFalse=>cases he
 rename_i hc
 obtain⟨h1,h2,hall,hz⟩:=hc
 have hz':P.cellsOf e≠0:=hz
 have hun:∀r∈rows,r.length=P.cellsOf e:=fun r hr=>by
  have:=List.all_eq_true.1 hall r hr
  simpa [Zf] using this
 have hlo:(lo.map a.eval=none∧l=0)∨∃kd,lo.map a.eval=some (.int kd l):=by
  cases lo with
  | none=>simp at hl;exact .inl ⟨rfl,hl.symm⟩
  | some lo=>
   obtain⟨kd,hk⟩:=Zld (h.opV lo) hl
   exact .inr ⟨kd,by simp[hk]⟩
 have hhi':∀len,len=rows.length→(hi.map a.eval=none∧hh=len)∨∃kd,hi.map a.eval=some (.int kd hh):=by
  intro len hlen
  cases hi with
  | none=>simp at hhi;exact .inl ⟨rfl,by omega⟩
  | some hi=>
   obtain⟨kd,hk⟩:=Zld (h.opV hi) hhi
   exact .inr ⟨kd,by simp[hk]⟩
 have fin:∀(A:Option Addr) (len cap:Nat),a.eval x=.slice A len cap→len=rows.length→len≤cap→En w (okS s ρ w) ρ (sliced A l hh cap (P.cellsOf e)) v→OpR P o a w (Stp P B io w a.tmps s ρ fl k v s):=by
  intro A len cap hq hlen hcap hv
  have hrun:=Z7z (w:=w) ht hz A len cap _ _ l hh hlo (hhi' len hlen) h1 (by omega) hcap
  refine .value (v:=sliced A l hh cap (P.cellsOf e)) ?_ (.same h hv)
  rw[←hq] at hrun
  simp[execOp,ho,hrun]
 have hx:=h.opV x
 have tree:∀{u:Value},a.eval x=u→Rd w (okS s ρ w) u (.tr rows)→(Rd w (okS s ρ w) (sliced (match u with|.slice A _ _=>A|_=>none) l hh (match u with|.slice _ _ c=>c|_=>0) (P.cellsOf e)) (.tr ((rows.drop l).take (hh - l)))→En w (okS s ρ w) ρ (sliced (match u with|.slice A _ _=>A|_=>none) l hh (match u with|.slice _ _ c=>c|_=>0) (P.cellsOf e)) v)→
   OpR P o a w (Stp P B io w a.tmps s ρ fl k v s):=by
  intro u hu hr hen
  obtain⟨A,len,cap,rfl,hlen,hcap,hr2⟩:=hr.slice h2 h1 hun
  exact fin A len cap hu hlen hcap (hen hr2)
 generalize hq:a.eval x=q at hx
 split at he
 ·rename_i id off len hxo
  simp only[Option.some.injEq] at he
  subst he
  rw[hxo] at hx hrows
  have hlen:rows.length=len:=by
   simp only[St.rowsOf] at hrows
   obtain⟨b,hb,hrows⟩:=Option.bind_eq_some_iff.1 hrows
   split at hrows
   ·rename_i hc
    simp only[Option.some.injEq] at hrows
    rw[←hrows];simp;omega
   ·cases hrows
  cases hx with
  | @sle _ A _ hρ=>
   have e0:hh=0:=by omega
   have e1:l=0:=by omega
   subst e0;subst e1
   refine fin A 0 0 hq hlen.symm (Nat.le_refl _) ?_
   simp only[sliced,if_true,Nat.sub_zero]
   exact .sle hρ
  | @sl _ g o0 c sz _ _ hρ hoc=>
   refine fin _ len (c - off) hq hlen.symm (by omega) ?_
   by_cases hcl:c - off=l
   ·have:hh - l=0:=by omega
    simp only[sliced,if_pos hcl,this,hcl,Nat.sub_self]
    exact .sle (by rw[hρ];rfl)
   ·by_cases hnil:rows=[]
    ·subst hnil
     have e0:hh=0:=by simpa using h2
     have e1:l=0:=by omega
     subst e0;subst e1
     simp only[sliced,if_neg hcl,Option.map_some,Nat.zero_mul,Nat.sub_zero,Qv,Nat.add_zero]
     exact .sl hρ (by omega)
    ·have hsz:sz=P.cellsOf e:=by
      simp only[St.rowsOf] at hrows
      obtain⟨b,hb,hrows⟩:=Option.bind_eq_some_iff.1 hrows
      split at hrows
      ·rename_i hc
       simp only[Option.some.injEq] at hrows
       have hB:=h.heap id b hb
       rw[hρ] at hB
       have hbs:∀r∈b.rows,r.length=sz:=by
        unfold BlkR at hB
        rw[hc.1] at hB
        generalize b.own=ow at hB
        cases ow with
        | true=>
         rcases hB with⟨hi',_⟩|⟨g',o'',c',cur,hi',hg,hl',hm,hu',hz',fp,hFe,h1,h2⟩
         ·cases hi'
         ·cases hi';exact hu'
        | false=>
         obtain⟨_,hB⟩:=hB
         rcases hB with⟨hi',_⟩|⟨g',o'',c',sz',hi',hu',hr⟩
         ·cases hi'
         ·cases hi';exact hu'
       obtain⟨r0,hr0⟩:=List.exists_mem_of_ne_nil rows hnil
       have hrb:r0∈b.rows:=by rw[←hrows] at hr0;exact List.mem_of_mem_drop (List.mem_of_mem_take hr0)
       rw[←hbs r0 hrb,hun r0 hr0]
      ·cases hrows
     subst hsz
     simp only[sliced,if_neg hcl,Option.map_some,Qv]
     have:=En.sl (w:=w) (ok:=okS s ρ w) (off:=off+l) (len:=hh - l) hρ (by omega)
     rw[Nat.add_mul,←Nat.add_assoc] at this
     rw[show c - off - l=c - (off+l) by omega]
     exact this
 ·rename_i rows' hxo
  simp only[Option.some.injEq] at he
  subst he
  rw[hxo] at hx hrows
  simp only[St.rowsOf,Option.some.injEq] at hrows
  subst hrows
  cases hx with|tr hr=>exact tree hq hr (fun h=>.tr h)
 ·rename_i rows' hxo
  simp only[Option.some.injEq] at he
  subst he
  rw[hxo] at hx hrows
  simp only[St.rowsOf,Option.some.injEq] at hrows
  subst hrows
  cases hx with|vw hr=>exact tree hq hr (fun h=>.vw h)
 ·cases he
end
theorem Zy2 {off:Nat}:∀(l:List Value) (k:Nat) (cs:Array Value),off+k+l.length≤cs.size→
  ((l.zipIdx k).foldl (fun cs (p:Value×Nat)=>cs.setIfInBounds (off+p.2) p.1) cs).size=cs.size∧
  ∀j,((l.zipIdx k).foldl (fun cs (p:Value×Nat)=>cs.setIfInBounds (off+p.2) p.1) cs)[j]?=if off+k≤j∧j < off+k+l.length then l[j - (off+k)]? else cs[j]?:=by
 intro l
 induction l with
 | nil=>intro k cs _;refine⟨rfl,fun j=>?_⟩;rw[if_neg (fun hc=>by have:=hc.2;simp only[List.length_nil] at this;omega)];rfl
 | cons v l ih=>
  intro k cs h
  simp only[List.length_cons] at h
  obtain⟨h1,h2⟩:=ih (k+1) (cs.setIfInBounds (off+k) v) (by simp;omega)
  refine⟨by simpa using h1,fun j=>?_⟩
  have:=h2 j
  simp only[List.zipIdx_cons,List.foldl_cons]
  rw[this]
  by_cases hj:j=off+k
  ·subst hj
   rw[if_neg (by omega),if_pos (by simp),Array.getElem?_setIfInBounds,if_pos rfl,if_pos (by omega)]
   simp
  ·by_cases hc:off+(k+1)≤j∧j < off+(k+1)+l.length
   ·rw[if_pos hc,if_pos (by simp;omega)]
    obtain⟨m,hm⟩:∃m,j - (off+k)=m+1:=⟨j - (off+k) - 1,by omega⟩
    rw[hm,List.getElem?_cons_succ]
    congr 1;omega
   ·rw[if_neg hc,if_neg (by simp;omega),Array.getElem?_setIfInBounds,if_neg (by omega)]
theorem Z84 {off:Nat} (vs cs:Array Value) (h:off+vs.size≤cs.size):
  (vs.zipIdx.foldl (fun cs (c,j)=>cs.setIfInBounds (off+j) c) cs).size=cs.size∧
  ∀j,(vs.zipIdx.foldl (fun cs (c,j)=>cs.setIfInBounds (off+j) c) cs)[j]?=if off≤j∧j < off+vs.size then vs[j - off]? else cs[j]?:=by
 have h0:=Zy2 (off:=off) vs.toList 0 cs (by simpa using h)
 have e:vs.zipIdx.foldl (fun cs (c,j)=>cs.setIfInBounds (off+j) c) cs=(vs.toList.zipIdx 0).foldl (fun cs (p:Value×Nat)=>cs.setIfInBounds (off+p.2) p.1) cs:=by
  rw[←Array.foldl_toList]
  simp
 rw[e]
 refine⟨h0.1,fun j=>?_⟩
 rw[h0.2 j]
 simp
section
variable {P:Program} {w:World} {ok:Nat→Prop} {ρ:Rho}
theorem Z3p (place:Nat→Option (Nat×Nat)):∀(ps:List (Nat×Value×V)) (C:Array Value) (X X':List V),C.size=X.length→
  (∀(j:Nat) (u:Value) (x:V),C[j]?=some u→X[j]?=some x→En w ok ρ u x)→(∀x∈X,cellish x=true)→(∀p∈ps,En w ok ρ p.2.1 p.2.2)→
  Zfr P place X (ps.map fun p=>(p.1,p.2.2))=some X'→
  ∃C',Instr.fill place C (ps.map fun p=>(p.1,p.2.1))=some C'∧C'.size=X'.length∧X'.length=X.length∧(∀(j:Nat) (u:Value) (x:V),C'[j]?=some u→X'[j]?=some x→En w ok ρ u x)∧∀x∈X',cellish x=true:=by
 intro ps
 induction ps with
 | nil=>
  intro C X X' hs hR hc _ hf
  simp only[List.map_nil,Zfr,Option.some.injEq] at hf
  subst hf
  exact⟨C,rfl,hs,rfl,hR,hc⟩
 | cons p ps ih=>
  intro C X X' hs hR hc hp hf
  obtain⟨i,u,x⟩:=p
  simp only[List.map_cons,Zfr] at hf
  obtain⟨⟨off,sz⟩,hpl,hf⟩:=Option.bind_eq_some_iff.1 hf
  obtain⟨cs,hcs,hf⟩:=Option.bind_eq_some_iff.1 hf
  split at hf
  case isFalse=>cases hf
  rename_i hcond
  obtain⟨hc1,hc2⟩:=hcond
  have hc1:cs.length=sz:=hc1
  have hc2:off+sz≤X.length:=hc2
  simp only at hf
  obtain⟨h1,h2,h3⟩:=Zmi (show En w ok ρ u x from hp (i,u,x) List.mem_cons_self) hcs
  have hpf:=Z84 (off:=off) u.cells C (by omega)
  obtain⟨C',hC',r1,r2,r3,r4⟩:=ih (u.cells.zipIdx.foldl (fun cs (c,j)=>cs.setIfInBounds (off+j) c) C) (Xx X off cs) X' (by rw[hpf.1,Zcm (by omega),hs]) (fun j v y hv hy=>by
   rw[hpf.2 j] at hv
   rcases Zlz (by omega) hy with⟨g1,g2,g3⟩|⟨g1,g2⟩
   ·rw[if_pos (by omega)] at hv
    exact h3 _ v y hv g3
   ·rw[if_neg (by omega)] at hv
    exact hR j v y hv g2) (fun y hy=>by
   obtain⟨m,hm⟩:=List.getElem?_of_mem hy
   rcases Zlz (by omega) hm with⟨_,_,g3⟩|⟨_,g2⟩
   ·exact h2 y (List.mem_of_getElem? g3)
   ·exact hc y (List.mem_of_getElem? g2)) (fun q hq=>hp q (List.mem_cons_of_mem _ hq)) hf
  refine⟨C',?_,r1,by rw[r2,Zcm (by omega)],r3,r4⟩
  simp only[List.map_cons,Instr.fill,hpl]
  rw[if_neg]
  ·exact hC'
  ·simp only[Bool.or_eq_true,decide_eq_true_eq,ne_eq]
   omega
end
section
variable {P:Program} {B:Nat} {io:Nat→Prop} {w:World} {a:Act} {s:St} {ρ:Rho} {F:Id→List Nat} {fl:List Nat} {k:Nat} {o:Oper} {v:V}
theorem Zjo {t:TypeId} {z:List V} (h:K8 P t=some z):∃ti zv,P.info? t=some ti∧ti.zero=some zv∧z=zv.cells.toList.map .lit∧∀u∈zv.cells.toList,Wx u=true:=by
 unfold K8 at h
 obtain⟨zv,hzv,hz⟩:=Option.bind_eq_some_iff.1 h
 obtain⟨ti,hti,hz0⟩:=Option.bind_eq_some_iff.1 hzv
 split at hz
 ·rename_i hall
  simp only[Option.some.injEq] at hz
  exact⟨ti,zv,hti,hz0,hz.symm,fun u hu=>List.all_eq_true.1 hall u hu⟩
 ·cases hz
theorem Z3t {ok:Nat→Prop} {C:Array Value} (hs:∀u∈C.toList,Wx u=true):∀(j:Nat) (u:Value) (x:V),C[j]?=some u→(C.toList.map V.lit)[j]?=some x→En w ok ρ u x:=by
 intro j u x hu hx
 simp only[List.getElem?_map,Option.map_eq_some_iff] at hx
 obtain⟨y,hy,rfl⟩:=hx
 have:u=y:=by
  have h1:C.toList[j]?=some u:=by simpa using hu
  rw[h1] at hy;injection hy
 subst this
 exact .lit (hs u (List.mem_of_getElem? hy))
theorem Z1u:∀(fs:List Field),fs.all (fun f=>(P.info? f.type).isSome)=true→fs.mapM (fun f=>(P.info? f.type).map fun i=>(f.offset,i.size))=some (fs.map fun f=>(f.offset,P.cellsOf f.type)):=by
 intro fs
 induction fs with
 | nil=>intro _;rfl
 | cons f fs ih=>
  intro h
  simp only[List.all_cons,Bool.and_eq_true] at h
  obtain⟨i,hi⟩:=Option.isSome_iff_exists.1 h.1
  simp[List.mapM_cons,hi,ih h.2,Program.cellsOf]
theorem Z8y (h:Rel P B io w a.tmps s ρ F fl) {t:TypeId} {parts:Array (Nat×Operand)} {fs:Array Field} {z cs:List V} (ho:o.op=.build t parts) (hz:K8 P t=some z) (hu:P.underlying t=some (.struct fs))
  (hall:fs.toList.all (fun f=>(P.info? f.type).isSome)=true)
  (hf:Zfr P (fun i=>(fs[i]?).map fun f=>(f.offset,P.cellsOf f.type)) z (parts.toList.map fun p=>(p.1,s.opV p.2))=some cs):OpR P o a w (Stp P B io w a.tmps s ρ fl k (.agg cs) s):=by
 obtain⟨ti,zv,hti,hzv,rfl,hsc⟩:=Zjo hz
 obtain⟨C',hC',r1,r2,r3,r4⟩:=Z3p (P:=P) (w:=w) (ok:=okS s ρ w) (ρ:=ρ) (fun i=>(fs[i]?).map fun f=>(f.offset,P.cellsOf f.type)) (parts.toList.map fun p=>(p.1,a.eval p.2,s.opV p.2)) zv.cells (zv.cells.toList.map .lit) cs (by simp)
  (Z3t hsc) (fun x hx=>by obtain⟨u,_,rfl⟩:=List.mem_map.1 hx;rfl) (fun p hp=>by obtain⟨q,_,rfl⟩:=List.mem_map.1 hp;exact h.opV q.2) (by simpa [Function.comp_def] using hf)
 have hb:P.built t (parts.map fun (i,x)=>(i,a.eval x)).toList=some C':=by
  unfold Program.built
  simp only[hti,hu,hzv,Z1u fs.toList hall]
  rw[←hC']
  congr 1
  ·funext i;simp
  ·simp[Function.comp_def]
 refine .value (v:=.agg C') ?_ (.same h (.agg r1 r4 r3))
 have:=run_build (P:=P) w t _ C' hb
 simp[execOp,ho,this]
end
theorem Z4x {sz:Nat}:∀(n:Nat) (l:List V),l.length=n*sz→(Zf1 sz n l).flatten=l∧(∀r∈Zf1 sz n l,r.length=sz)∧(Zf1 sz n l).length=n:=by
 intro n
 induction n with
 | zero=>
      intro l h;have:l=[]:=List.eq_nil_of_length_eq_zero (by omega)
      subst this;exact⟨rfl,by simp[Zf1],rfl⟩
 | succ n ih=>
  intro l h
  rw[Nat.succ_mul] at h
  obtain⟨h1,h2,h3⟩:=ih (l.drop sz) (by simp;omega)
  refine⟨by simp[Zf1,h1],fun r hr=>?_,by simp[Zf1,h3]⟩
  simp only[Zf1,List.mem_cons] at hr
  rcases hr with rfl|hr
  ·simp;omega
  ·exact h2 r hr
theorem Zwa {α:Type} {l:List α} {n k:Nat} (hk:k < n*l.length):(List.replicate n l).flatten[k]?=l[k % l.length]?:=by
 have hl:0 < l.length:=by
  rcases Nat.eq_zero_or_pos l.length with h|h
  ·rw[h] at hk;simp at hk
  ·exact h
 have hi:k / l.length < n:=(Nat.div_lt_iff_lt_mul hl).2 hk
 have hm:=Nat.mod_lt k hl
 have h1:l[k % l.length]?=some (l[k % l.length]'hm):=List.getElem?_eq_getElem hm
 have:=Zbi (sz:=l.length) (rows:=List.replicate n l) (i:=k / l.length) (j:=k % l.length) (fun r hr=>by rw[(List.mem_replicate.1 hr).2]) (by rw[List.getElem?_replicate,if_pos hi]) h1
 rw[Nat.mul_comm,Nat.div_add_mod] at this
 rw[this,h1]
theorem Ze8 (z:Array Value) (n:Nat):(madeCells z (n*z.size)).toList=(List.replicate n z.toList).flatten:=by
 apply List.ext_getElem?
 intro k
 by_cases hk:k < n*z.size
 ·rw[Zwa (by simpa using hk)]
  have hz:0 < z.size:=by
   rcases Nat.eq_zero_or_pos z.size with h|h
   ·rw[h] at hk;simp at hk
   ·exact h
  have hm:=Nat.mod_lt k hz
  simp[madeCells,hk,hm]
 ·have h1:(List.replicate n z.toList).flatten.length=n*z.size:=by
   rw[Xr (sz:=z.size) (fun r hr=>by rw[(List.mem_replicate.1 hr).2];simp)];simp
  rw[List.getElem?_eq_none (by simp[madeCells];omega),List.getElem?_eq_none (by rw[h1];omega)]
theorem OwL.zeros {w:World}:∀(l:List Value),(∀u∈l,Wx u=true)→OwL w l ((l.map V.lit).map W0) []:=by
 intro l
 induction l with
 | nil=>intro _;exact .nil
 | cons u l ih=>
  intro h
  have h1:Ow w u (W0 (.lit u)) []:=by
   unfold W0
   split
   ·rename_i he;injection he with he;subst he;exact .emp
   ·exact .lit (h u List.mem_cons_self)
  have:=OwL.cons h1 (ih fun u hu=>h u (List.mem_cons_of_mem _ hu))
  simpa using this
theorem OwL.zerosRep {w:World} {l:List Value} (h:∀u∈l,Wx u=true) (n:Nat):OwL w (List.replicate n l).flatten (List.replicate n ((l.map V.lit).map W0)).flatten []:=by
 induction n with
 | zero=>exact .nil
 | succ n ih=>
  have:=(OwL.zeros (w:=w) l h).append ih
  simpa [List.replicate_succ] using this
section
variable {P:Program} {B:Nat} {io:Nat→Prop} {w w':World} {a:Act} {tmps:Array Value} {s s':St} {ρ ρ':Rho} {F F':Id→List Nat} {fl fl':List Nat} {k:Nat} {o:Oper} {v:V}
theorem Z1j:∀(rows:List (List V)) {us:List Value} {s:St} {fl:List Nat} {rows':List (List V)} {c:Bool} {s':St},Rel P B io w tmps s ρ F fl→us.length=rows.flatten.length→
  (∀(k:Nat) (u:Value) (x:V),us[k]?=some u→rows.flatten[k]?=some x→En w (okS s ρ w) ρ u x)→s.sinkRows rows=some (rows',c,s')→
  ∃fp,Rel P B io w tmps s' ρ F (fp++fl)∧rows'.length=rows.length∧(∀sz,(∀r∈rows,r.length=sz)→∀r∈rows',r.length=sz)∧us.length=rows'.flatten.length∧(c=true→OwL w us rows'.flatten fp)∧
   (∀(k:Nat) (u:Value) (y:V),us[k]?=some u→rows'.flatten[k]?=some y→Rd w (okS s' ρ w) u y)∧
   s'.env=s.env∧s'.ep=s.ep∧(∀id b,s'.heap id=some b→s.heap id=some b)∧(∀g,okS s ρ w g→okS s' ρ w g):=by
 intro rows
 induction rows with
 | nil=>
  intro us s fl rows' c s' h hl hen hs
  simp only[St.sinkRows,Option.some.injEq,Prod.mk.injEq] at hs
  obtain⟨rfl,rfl,rfl⟩:=hs
  have:us=[]:=List.eq_nil_of_length_eq_zero (by simpa using hl)
  subst this
  exact⟨[],h,rfl,fun _ _ r hr=>by simp at hr,rfl,fun _=>.nil,fun k u y hu=>by simp at hu,rfl,rfl,fun _ _ h=>h,fun _ h=>h⟩
 | cons row rows ih=>
  intro us s fl rows' c s' h hl hen hs
  simp only[St.sinkRows] at hs
  obtain⟨⟨ys,c1,s1⟩,hs1,hs⟩:=Option.bind_eq_some_iff.1 hs
  obtain⟨⟨zs,c2,s2⟩,hs2,hs⟩:=Option.map_eq_some_iff.1 hs
  simp only[Prod.mk.injEq] at hs
  obtain⟨rfl,rfl,rfl⟩:=hs
  simp only at hs2
  simp only[List.flatten_cons,List.length_append] at hl
  have hl1:(us.take row.length).length=row.length:=by simp;omega
  have hl2:(us.drop row.length).length=rows.flatten.length:=by rw[List.length_drop];omega
  have hus:us.take row.length++us.drop row.length=us:=List.take_append_drop _ _
  obtain⟨f1,g1,g2,g3,g4,g5,g6,g7,g8⟩:=Z3v row h hl1 (fun j u x hu hx=>hen j u x (by
    rw[List.getElem?_take] at hu
    split at hu
    ·exact hu
    ·cases hu) (by
    rw[List.flatten_cons,List.getElem?_append_left (List.getElem?_eq_some_iff.1 hx).1];exact hx)) hs1
  obtain⟨f2,k1,k2,k3,k4,k5,k6,k7,k8,k9,k10⟩:=ih g1 hl2 (fun j u x hu hx=>by
    rw[List.getElem?_drop] at hu
    have:=hen (row.length+j) u x hu (by rw[List.flatten_cons,List.getElem?_append_right (by omega)];simpa using hx)
    exact (show En w (fun g=>(¬tops s ρ g)∧g < w.heap.size) ρ u x from this).keep (.same (fun g ht=>by
     obtain⟨id',b,o,c,sz,hb,ho,hρ⟩:=ht
     exact⟨id',b,o,c,sz,g7 id' b hb,ho,hρ⟩)) (fun _ _ h=>h)) hs2
  refine⟨f1++f2,k1.perm ?_,by simp[k2],fun sz hsz r hr=>?_,by rw[List.flatten_cons,List.length_append,←g2,←k4,hl1,hl2];exact hl,fun hc=>?_,fun j u y hu hy=>?_,k7.trans g5,k8.trans g6,fun id b hb=>g7 id b (k9 id b hb),fun g hg=>k10 g (g8 g hg)⟩
  ·rw[List.append_assoc]
   exact (List.perm_append_comm_assoc _ _ _)
  ·rcases List.mem_cons.1 hr with rfl|hr
   ·rw[←g2,hl1];exact hsz row List.mem_cons_self
   ·exact k3 sz (fun r hr=>hsz r (List.mem_cons_of_mem _ hr)) r hr
  ·rw[Bool.and_eq_true] at hc
   have:=(g3 hc.1).append (k5 hc.2)
   rw[hus] at this
   exact this
  ·rw[List.flatten_cons] at hy
   by_cases hj:j < ys.length
   ·rw[List.getElem?_append_left hj] at hy
    have:=g4 j u y (by rw[List.getElem?_take,if_pos (by omega)];exact hu) hy
    exact this.mono (fun _ _ _=>rfl) k10
   ·rw[List.getElem?_append_right (by omega)] at hy
    exact k6 (j - ys.length) u y (by rw[List.getElem?_drop,show row.length+(j - ys.length)=j by omega];exact hu) hy
theorem Zof {r:List Nat} {s1:St} (h:Rel P B io w a.tmps s1 ρ F (r++fl)) (henv:s1.env=s.env) (heps:s1.ep=s.ep) {id:Id} (hid:ρ id=none) (hep:id.1=s.ep) (hk:id.2 / 1024=k) {C:Array Value} {rows:List (List V)} {e:TypeId} {cl:Bool} {n:Nat}
  (hn:rows.length=n) (hm:n≤maxLen) (hu:∀q∈rows,q.length=P.cellsOf e)
  (hlen:C.size=rows.length*P.cellsOf e) (h1:cl=true→OwL w C.toList rows.flatten r) (h2:cl=false→r=[]∧∀(k:Nat) (x:V),rows.flatten[k]?=some x→∃v,C.toList[k]?=some v∧Rd w (okS s1 ρ w) v x):
  Stp P B io w a.tmps s ρ fl k (.sl id 0 n) (s1.setB id ⟨false,true,cl,e,rows⟩) (.slice (some ⟨w.heap.size,0,none⟩) n n) (w.alloc (.cells C e)):=by
 subst hn
 have hR:=h.grown (w':=w.alloc (.cells C e)) (c:=rows.length) (us:=C.toList) (zs:=[]) (e:=e) (cl:=cl) hid (by rw[heps];exact hep) (Zf0 w _) (fun g hg=>Below.heap_alloc w _ g hg) (by
  have:=Zso w (.cells C e)
  simpa using this) (Nat.le_refl _) hm hu (by simpa using hlen) (by simpa using hlen) h1 h2
 refine⟨henv,heps,(Left.refl B io w).alloc h.base _,_,_,hR,?_,Xs hid,Zj6 hep hk⟩
 have:=En.sl (w:=w.alloc (.cells C e)) (ok:=okS (s1.setB id ⟨false,true,cl,e,rows⟩) (upd ρ id (some (.blk w.heap.size 0 rows.length (P.cellsOf e)))) (w.alloc (.cells C e)))
  (off:=0) (len:=rows.length) (Zg ρ id (some (.blk w.heap.size 0 rows.length (P.cellsOf e)))) (by omega)
 simpa using this
theorem Zxu (h:Rel P B io w a.tmps s ρ F fl) {t e:TypeId} {n:Nat} {parts:Array (Nat×Operand)} {z cs:List V} {rows:List (List V)} {c:Bool} {s1:St} (ho:o.op=.buildSlice t n parts) (hte:Yk P t=some e) (hz:(if n*Zf P e=0 then some [] else K8 P e)=some z)
  (hsz:Zf P e≠0) (hle:n*Zf P e≤1048576) (hzo:Zfz P e=true) (hf:Zfr P (fun i=>some (i*Zf P e,Zf P e)) (List.replicate n z).flatten (parts.toList.map fun p=>(p.1,s.opV p.2))=some cs)
  (hs:s.sinkRows (Zf1 (Zf P e) n cs)=some (rows,c,s1)) {id:Id} (hid:ρ id=none) (hep:id.1=s.ep) (hk:id.2 / 1024=k):
  OpR P o a w (Stp P B io w a.tmps s ρ fl k (.sl id 0 n) (s1.setB id ⟨false,true,c,e,rows⟩)):=by
 have ht:=Q3 hte
 have hzc:n≠0→K8 P e=some z:=fun hn=>by
  split at hz
  ·rename_i h0;exact absurd h0 (Nat.mul_ne_zero hn hsz)
  ·exact hz
 simp only[Zf] at hsz hle hf hs
 have key:∃C',(Instr.buildSlice t n (parts.map fun (i,x)=>(i,a.eval x))).run P w=.ok (.slice (some ⟨w.heap.size,0,none⟩) n n) (w.alloc (.cells C' e))∧C'.size=cs.length∧cs.length=n*P.cellsOf e∧
   (∀(j:Nat) (u:Value) (x:V),C'[j]?=some u→cs[j]?=some x→En w (okS s ρ w) ρ u x):=by
  obtain⟨ti,hti,hsi⟩:∃ti,P.info? e=some ti∧ti.size=P.cellsOf e:=by
   unfold Program.cellsOf at hsz ⊢
   cases hq:P.info? e with
   | none=>rw[hq] at hsz;simp at hsz
   | some ti=>exact⟨ti,rfl,rfl⟩
  by_cases hn:n=0
  ·subst hn
   have hpe:(List.replicate 0 z).flatten=[]:=rfl
   rw[hpe] at hf
   have hnil:parts.toList=[]∧cs=[]:=by
    cases hp:parts.toList with
    | nil=>rw[hp] at hf;simp[Zfr] at hf;exact⟨rfl,hf⟩
    | cons p ps=>
     rw[hp] at hf
     simp only[List.map_cons,Zfr,Option.bind_some] at hf
     obtain⟨cs',_,hf⟩:=Option.bind_eq_some_iff.1 hf
     split at hf
     ·rename_i hc;simp only[List.length_nil] at hc;omega
     ·cases hf
   obtain⟨hp,rfl⟩:=hnil
   refine⟨#[],?_,rfl,by simp,fun j u x hu=>by simp at hu⟩
   have hpa:parts=#[]:=by apply Array.ext';simpa using hp
   subst hpa
   simp[Instr.buildSlice,run_underlying ht,sizeOf,typeInfo,hti,hsi,Instr.fill,newRow,Array.range_zero']
  ·have hnz:n*P.cellsOf e≠0:=Nat.mul_ne_zero hn hsz
   obtain⟨ti',zv,hti',hzv,rfl,hsc⟩:=Zjo (hzc hn)
   rw[hti] at hti';injection hti' with hti';subst hti'
   have hzs:zv.cells.size=P.cellsOf e:=by
    unfold Zfz at hzo
    rw[hti] at hzo
    simp only[Option.bind_some,hzv] at hzo
    simpa using hzo
   have hflen:(List.replicate n (zv.cells.toList.map V.lit)).flatten.length=n*P.cellsOf e:=by
    rw[Xr (sz:=P.cellsOf e) (fun r hr=>by rw[(List.mem_replicate.1 hr).2];simp[hzs])];simp
   obtain⟨C',hC',r1,r2,r3,r4⟩:=Z3p (P:=P) (w:=w) (ok:=okS s ρ w) (ρ:=ρ) (fun i=>some (i*P.cellsOf e,P.cellsOf e)) (parts.toList.map fun p=>(p.1,a.eval p.2,s.opV p.2)) (madeCells zv.cells (n*zv.cells.size)) _ cs (by rw[size_madeCells,hflen,hzs])
    (fun j u x hu hx=>by
     have hlt:=(List.getElem?_eq_some_iff.1 hx).1
     rw[hflen] at hlt
     have hu':(madeCells zv.cells (n*zv.cells.size)).toList[j]?=some u:=by simpa using hu
     rw[Ze8,Zwa (by simpa [hzs] using hlt)] at hu'
     rw[Zwa (by simpa [hzs] using hlt)] at hx
     simp only[List.length_map] at hx
     have:=Z3t (w:=w) (ok:=okS s ρ w) (ρ:=ρ) hsc (j % zv.cells.toList.length) u x (by simpa using hu') hx
     exact this) (fun x hx=>by
     obtain⟨r,hr,hx⟩:=List.mem_flatten.1 hx
     rw[(List.mem_replicate.1 hr).2] at hx
     obtain⟨u,_,rfl⟩:=List.mem_map.1 hx;rfl) (fun p hp=>by obtain⟨q,_,rfl⟩:=List.mem_map.1 hp;exact h.opV q.2) (by simpa [Function.comp_def] using hf)
   refine⟨C',?_,r1,by rw[r2,hflen],r3⟩
   refine run_buildSlice w t e n _ C' ti zv ht hti hzv (by rw[hsi];omega) (by rw[hsi];exact hnz) ?_
   rw[←hC',hsi,←hzs]
   congr 1
   simp[Function.comp_def]
 obtain⟨C',hrun,hCs,hcl,hen⟩:=key
 obtain⟨c1,c2,c3⟩:=Z4x n cs hcl
 obtain⟨fp,k1,k2,k3,k4,k5,k6,k7,k8,k9,k10⟩:=Z1j (us:=C'.toList) _ h (by rw[c1];simpa using hCs) (fun j u x hu hx=>hen j u x (by simpa using hu) (by rw[c1] at hx;exact hx)) hs
 have hrl:rows.length=n:=by rw[k2,c3]
 refine .value (v:=.slice (some ⟨w.heap.size,0,none⟩) n n) (w':=w.alloc (.cells C' e)) (by simp[execOp,ho,hrun]) ?_
 have hmx:n≤maxLen:=by
  have:n≤n*P.cellsOf e:=Nat.le_mul_of_pos_right _ (Nat.pos_of_ne_zero hsz)
  unfold maxLen;omega
 cases c with
 | true=>exact Zof k1 k7 k8 hid hep hk hrl hmx (k3 _ c2) (by rw[hrl,hCs,hcl]) (fun _=>k5 rfl) (fun hf=>by cases hf)
 | false=>
  refine Zof (r:=[]) (k1.less (List.sublist_append_right _ _)) k7 k8 hid hep hk hrl hmx (k3 _ c2) (by rw[hrl,hCs,hcl]) (fun hf=>by cases hf) (fun _=>⟨rfl,fun j x hx=>?_⟩)
  have hlt:=(List.getElem?_eq_some_iff.1 hx).1
  have hu:C'.toList[j]?=some (C'.toList[j]'(by omega)):=List.getElem?_eq_getElem (by omega)
  exact⟨_,hu,k6 j _ x hu hx⟩
theorem Z0x (h:Rel P B io w a.tmps s ρ F fl) {t e:TypeId} {l c:Operand} {n:Nat} {z:List V} (ho:o.op=.makeSlice t l c) (hte:Yk P t=some e) (hz:K8 P e=some z) (hl:Yf (s.opV l)=some n) (hc:Yf (s.opV c)=some n)
  (hby:n*P.bytesOf e≤70368744177664) (h63:n≤9223372036854775807) (hzl:z.length=Zf P e) (hsz:Zf P e≠0) {id:Id} (hid:ρ id=none) (hep:id.1=s.ep) (hk:id.2 / 1024=k):
  OpR P o a w (Stp P B io w a.tmps s ρ fl k (.sl id 0 n) (s.setB id ⟨false,true,true,e,List.replicate n (z.map W0)⟩)):=by
 have ht:=Q3 hte
 obtain⟨ti,zv,hti,hzv,rfl,hsc⟩:=Zjo hz
 simp only[Zf] at hzl hsz
 have hzs:zv.cells.size=P.cellsOf e:=by simpa using hzl
 have hsi:ti.size=P.cellsOf e:=by simp[Program.cellsOf,hti]
 have hbi:ti.bytes=P.bytesOf e:=by simp[Program.bytesOf,hti]
 obtain⟨kl,hl⟩:=Zld (h.opV l) hl
 obtain⟨kc,hc⟩:=Zld (h.opV c) hc
 have hb2:(ti.bytes:Int)*(n:Int)≤281474976710656:=by
  rw[hbi]
  have h1:=Nat.mul_comm n (P.bytesOf e)
  have h2:((P.bytesOf e*n:Nat):Int)≤281474976710656:=by omega
  rwa [Int.natCast_mul] at h2
 have hrun:=run_make (P:=P) w t e ti zv ht hti hzv kl kc n n (by omega) (Int.le_refl _) hb2 (by omega)
 simp only[Int.toNat_natCast] at hrun
 refine .value (v:=.slice (some ⟨w.heap.size,0,none⟩) n n) (w':=w.alloc (.cells (madeCells zv.cells (n*ti.size)) e)) (by simp[execOp,ho,hl,hc,hrun]) ?_
 have hcl:(madeCells zv.cells (n*ti.size)).toList=(List.replicate n zv.cells.toList).flatten:=by rw[hsi,←hzs];exact Ze8 _ _
 exact Zof (r:=[]) h rfl rfl hid hep hk (by simp) (by unfold maxLen;omega) (fun q hq=>by rw[(List.mem_replicate.1 hq).2];simp[hzs]) (by rw[size_madeCells];simp[hsi]) (fun _=>by rw[hcl];exact OwL.zerosRep hsc n) (fun hf=>by cases hf)
end
section
variable {P:Program} {B:Nat} {io:Nat→Prop} {w w':World} {a:Act} {tmps:Array Value} {s s':St} {ρ ρ':Rho} {F F':Id→List Nat} {fl fl':List Nat} {k:Nat} {o:Oper} {v:V}
theorem Z56 {u:Value} (h:Wx u=true):u.oneCell'=true:=by
 cases u<;>simp_all [Wx,Value.oneCell']
theorem Z6t {id:Id} {b:Blk} (h:s.heap id=some b):s.setB id b=s:=by
 unfold St.setB
 congr 1
 funext x
 unfold upd
 split
 ·rename_i e;rw[e,h]
 ·rfl
theorem Z85 (h:Rel P B io w a.tmps s ρ F fl) {t e:TypeId} {x:Operand} {id:Id} {off n:Nat} {b:Blk} {z:List V} (ho:o.op=.call {callee:=.builtin .clear,args:=#[x],argTypes:=#[t]}) (hte:Yk P t=some e) (hz:K8 P e=some z) (hx:s.opV x=.sl id off n)
  (hb:s.heap id=some b) (hown:b.own=true) (hbox:b.box=false) (hlen:off+n≤b.rows.length) (hel:b.el=e) (hzl:z.length=Zf P e) (hsz:Zf P e≠0):
  OpR P o a w (Stp P B io w a.tmps s ρ fl k (.tup []) (s.setB id {b with rows:=b.rows.take off++List.replicate n (z.map W0)++b.rows.drop (off+n)})):=by
 have ht:=Q3 hte
 obtain⟨ti,zv,hti,hzv,rfl,hsc⟩:=Zjo hz
 simp only[Zf] at hzl hsz
 have hzs:zv.cells.size=P.cellsOf e:=by simpa using hzl
 have hx':=h.opV x
 rw[hx] at hx'
 generalize hq:a.eval x=q at hx'
 have Zu:n=0→(∃A c,q=.slice A 0 c)→OpR P o a w (Stp P B io w a.tmps s ρ fl k (.tup []) (s.setB id {b with rows:=b.rows.take off++List.replicate n (zv.cells.toList.map V.lit |>.map W0)++b.rows.drop (off+n)})):=by
  rintro rfl ⟨A,c,rfl⟩
  have hsame:({b with rows:=b.rows.take off++List.replicate 0 (zv.cells.toList.map V.lit |>.map W0)++b.rows.drop (off+0)}:Blk)=b:=by simp
  rw[hsame,Z6t hb]
  refine .value (v:=.tuple #[]) (w':=w) ?_ (.same h (.tup (by simp) (fun k v x hv=>by simp at hv)))
  cases A<;>simp[execOp,ho,resolve,invoke,builtin,hq,Builtin.clear_,run_underlying ht]
 cases hx' with
 | @sle _ A _ hρ=>exact Zu rfl ⟨A,0,rfl⟩
 | @sl _ g o0 c sz _ _ hρ hoc=>
  by_cases hn:n=0
  ·subst hn;exact Zu rfl ⟨_,_,rfl⟩
  have hB:=h.heap id b hb
  rw[hρ] at hB
  unfold BlkR at hB
  rw[hbox,hown] at hB
  rcases hB with⟨hi',_⟩|⟨g',o',c',cur,hi',hg,hl,hm,hun,hzc,fp,hFe,h1,h2⟩
  ·cases hi'
  ·cases hi'
   subst hel
   let us:=(List.replicate n zv.cells.toList).flatten
   let ys:=(List.replicate n ((zv.cells.toList.map V.lit).map W0)).flatten
   have husd:us=(List.replicate n zv.cells.toList).flatten:=rfl
   have hysd:ys=(List.replicate n ((zv.cells.toList.map V.lit).map W0)).flatten:=rfl
   have hul:us.length=n*P.cellsOf b.el:=by rw[husd,Xr (sz:=P.cellsOf b.el) (fun r hr=>by rw[(List.mem_replicate.1 hr).2];simp[hzs])];simp
   have hyl:ys.length=n*P.cellsOf b.el:=by rw[hysd,Xr (sz:=P.cellsOf b.el) (fun r hr=>by rw[(List.mem_replicate.1 hr).2];simp[hzs])];simp
   have hO0:∀{w:World},OwL w us ys []:=OwL.zerosRep hsc n
   have hone:∀u∈us,u.oneCell'=true:=fun u hu=>by
    obtain⟨r,hr,hu⟩:=List.mem_flatten.1 hu
    rw[(List.mem_replicate.1 hr).2] at hu
    exact Z56 (hsc u hu)
   have hrc:b.rows.length*P.cellsOf b.el≤c*P.cellsOf b.el:=Nat.mul_le_mul_right _ hl
   have hon:(off+n)*P.cellsOf b.el≤b.rows.length*P.cellsOf b.el:=Nat.mul_le_mul_right _ hlen
   rw[Nat.add_mul] at hon
   have hst:=run_storeCells_at P g (o0+off*P.cellsOf b.el) b.el us 0 cur w hg (by omega) hone
   simp only[Nat.add_zero] at hst
   generalize hnew:(cur.toList.take (o0+off*P.cellsOf b.el)++us++cur.toList.drop (o0+off*P.cellsOf b.el+us.length)).toArray=new at hst
   have hrun:(execOp a.eval o).run P w=.ok (.value (.tuple #[])) (w.setRow g new):=by
    have hzt:(Builtin.zeroCells zv.cells n).toList=us:=by rw[husd];exact Ze8 zv.cells n
    have hnn:n≠0:=hn
    cases n with
    | zero=>exact absurd rfl hn
    | succ n=>simp[execOp,ho,resolve,invoke,builtin,hq,Builtin.clear_,run_underlying ht,zeroValue,typeInfo,hti,hzv,hzt,hst]
   have hnews:new.size=cur.size:=by rw[←hnew];simp;omega
   have hother:∀k',k'≠g→(w.setRow g new).heap[k']?=w.heap[k']?:=fun k' hk'=>setRow_other w g k' _ hk'
   have hget:∀m,new[o0+m]?=if off*P.cellsOf b.el≤m∧m < off*P.cellsOf b.el+us.length then us[m - off*P.cellsOf b.el]? else cur[o0+m]?:=by
    intro m
    rw[←hnew]
    have:=Qn (cur:=cur.toList) (n:=o0+off*P.cellsOf b.el) (vs:=us) (by simp;omega) (j:=o0+m)
    rw[List.getElem?_toArray,this]
    by_cases hc:off*P.cellsOf b.el≤m∧m < off*P.cellsOf b.el+us.length
    ·rw[if_pos (by omega),if_pos hc];congr 1;omega
    ·rw[if_neg (by omega),if_neg hc];simp
   have hfl0:=Xr hun
   have hflat:(b.rows.take off++List.replicate n ((zv.cells.toList.map V.lit).map W0)++b.rows.drop (off+n)).flatten=b.rows.flatten.take (off*P.cellsOf b.el)++ys++b.rows.flatten.drop (off*P.cellsOf b.el+ys.length):=by
    rw[List.flatten_append,List.flatten_append,Zkw off hun,hyl,←Nat.add_mul,Zct (off+n) hun]
   have hrows':∀r'∈b.rows.take off++List.replicate n ((zv.cells.toList.map V.lit).map W0)++b.rows.drop (off+n),r'.length=P.cellsOf b.el:=fun r' hr'=>by
    rcases List.mem_append.1 hr' with h4|h4
    ·rcases List.mem_append.1 h4 with h4|h4
     ·exact hun r' (List.mem_of_mem_take h4)
     ·rw[(List.mem_replicate.1 h4).2];simp[hzs]
    ·exact hun r' (List.mem_of_mem_drop h4)
   have hlen':(b.rows.take off++List.replicate n ((zv.cells.toList.map V.lit).map W0)++b.rows.drop (off+n)).length=b.rows.length:=by simp;omega
   have hcells:(new.toList.drop o0).take (b.rows.length*P.cellsOf b.el)=((cur.toList.drop o0).take (b.rows.length*P.cellsOf b.el)).take (off*P.cellsOf b.el)++us++((cur.toList.drop o0).take (b.rows.length*P.cellsOf b.el)).drop (off*P.cellsOf b.el+us.length):=by
    apply List.ext_getElem?
    intro m
    rw[Qn (by simp;omega),List.getElem?_take,List.getElem?_take,List.getElem?_drop,List.getElem?_drop]
    have hm:=hget m
    simp only[Array.getElem?_toList]
    rw[hm]
    by_cases hc:off*P.cellsOf b.el≤m∧m < off*P.cellsOf b.el+us.length
    ·rw[if_pos hc,if_pos hc,if_pos (by omega)]
    ·rw[if_neg hc,if_neg hc]
   have hgr:g ∉ fp:=by
    have:=h.once id b hb hown
    rw[hFe] at this
    exact (List.nodup_cons.1 this).1
   let b':Blk:={b with rows:=b.rows.take off++List.replicate n ((zv.cells.toList.map V.lit).map W0)++b.rows.drop (off+n)}
   have htop:tops s ρ g:=⟨id,b,_,_,_,hb,hown,hρ⟩
   have hrd:∀{u:Value} {z:V},Rd w (okS s ρ w) u z→Rd (w.setRow g new) (okS (s.setB id b') ρ (w.setRow g new)) u z:=fun hu=>
    hu.mono (fun g' hg' _=>hother g' (fun e=>hg'.1 (e▸htop))) (fun g' hg'=>⟨fun ht=>hg'.1 ((Zmf (b':=b') hb rfl g').1 ht),by simpa using hg'.2⟩)
   have fin:∀(Fs:List Nat),(∃r',Fs=g::r')→(∀k'∈Fs,k'∈F id)→Fs.Nodup→
     BlkR P (w.setRow g new) (okS (s.setB id b') ρ (w.setRow g new)) ρ (some (.blk g o0 c (P.cellsOf b.el))) Fs b'→
     OpR P o a w (Stp P B io w a.tmps s ρ fl k (.tup []) (s.setB id b')):=by
    intro Fs hFs hFm hno hBlk
    obtain⟨w1,w2,w3⟩:=h.write (b':=b') (Fs:=Fs) (fl':=fl) (new:=new) hb hown hown hρ hg ⟨fp,hFe⟩ hFs (fun k hk=>.inl (hFm k hk)) hno (fun _ h=>h) h.flOnce (fun k' hk'=>h.flApart id b hb hown k' (hFm k' hk')) (by omega) hBlk
    exact .value hrun ⟨rfl,rfl,w2,ρ,upd F id Fs,w1,.tup (by simp) (fun k v x hv=>by simp at hv),fun _ _ h=>h,fun _ h=>.inl h⟩
   show OpR P o a w (Stp P B io w a.tmps s ρ fl k (.tup []) (s.setB id b'))
   cases hcl:b.cl with
   | true=>
    have hO1:=(h1 hcl).frame (w':=w.setRow g new) (fun k' hk'=>hother k' (fun e=>hgr (e▸hk')))
    obtain⟨f',hO,hf1,hf2⟩:=hO1.put (hO0 (w:=w.setRow g new)) (off*P.cellsOf b.el)
    rw[←hcells,show us.length=ys.length by omega,←hflat] at hO
    have hno:=h.once id b hb hown
    rw[hFe] at hno
    have hf1':∀k'∈f',k'∈fp:=fun k' hk'=>by
     rcases hf1 k' hk' with h4|h4
     ·exact h4
     ·simp at h4
    refine fin (g::f') ⟨f',rfl⟩ (fun k' hk'=>?_) (List.nodup_cons.2 ⟨fun hf=>hgr (hf1' g hf),hf2 (by simpa using (List.nodup_cons.1 hno).2)⟩) (.mkRow (fp:=f') hbox hown rfl (setRow_heap w g cur new _ _ hg) (by show (b'.rows).length≤c;simp only[b'];rw[hlen'];exact hl) hm hrows' (by rw[hnews];exact hzc) rfl (fun _=>by simp only[b'];rw[hlen'];exact hO) (fun hf=>by simp[b',hcl] at hf))
    rw[hFe]
    rcases List.mem_cons.1 hk' with rfl|hk'
    ·exact List.mem_cons_self
    ·exact List.mem_cons_of_mem _ (hf1' k' hk')
   | false=>
    refine fin [g] ⟨[],rfl⟩ (fun k' hk'=>by rw[List.mem_singleton.1 hk',hFe];exact List.mem_cons_self) (by simp) (.mkRow (fp:=[]) hbox hown rfl (setRow_heap w g cur new _ _ hg) (by show (b'.rows).length≤c;simp only[b'];rw[hlen'];exact hl) hm hrows' (by rw[hnews];exact hzc) rfl (fun hf=>by simp[b',hcl] at hf) (fun _=>⟨rfl,fun m z hmz=>?_⟩))
    simp only[b'] at hmz
    rw[hflat,Qn (by rw[hfl0];omega)] at hmz
    rw[hget m,show us.length=ys.length by omega]
    split at hmz
    ·rename_i hc
     rw[if_pos hc]
     obtain⟨u,hu,hr⟩:=(hO0 (w:=w)).rd (ok:=okS s ρ w) (fun g hg=>by simp at hg) hmz
     exact⟨u,hu,hrd hr⟩
    ·rename_i hc
     rw[if_neg hc]
     obtain⟨u,hu,hr⟩:=(h2 hcl).2 m z hmz
     exact⟨u,hu,hrd hr⟩
theorem Z1s:∀{rows:List (List V)} {bs:List UInt8},Zh5 rows=some bs→∃ns:List Int,rows=ns.map (fun n=>[V.lit (.int .u8 n)])∧bs=ns.map fun n=>UInt8.ofNat n.toNat:=by
 intro rows
 induction rows with
 | nil=>intro bs h;simp only[Zh5,List.map_nil,Zj9,Option.some.injEq] at h;subst h;exact⟨[],rfl,rfl⟩
 | cons r rows ih=>
  intro bs h
  simp only[Zh5,List.map_cons] at h
  split at h
  ·rename_i n
   simp only[Zj9] at h
   obtain⟨bs',hb,rfl⟩:=Option.map_eq_some_iff.1 h
   obtain⟨ns,h1,h2⟩:=ih hb
   exact⟨n::ns,by rw[h1];rfl,by rw[h2];rfl⟩
  ·simp[Zj9] at h
theorem Z77 (ns:List Int) (s:ByteArray):ns.foldl (fun r n=>r.push (UInt8.ofNat n.toNat)) s=⟨s.data++(ns.map fun n=>UInt8.ofNat n.toNat).toArray⟩:=by
 induction ns generalizing s with
 | nil=>simp
 | cons n ns ih=>
  rw[List.foldl_cons,ih]
  congr 1
  apply Array.ext'
  simp[ByteArray.push]
theorem Z9f (h:Rel P B io w a.tmps s ρ F fl) {src dst e:TypeId} {x:Operand} {rows:List (List V)} {bs:List UInt8} (ho:o.op=.convert src dst x) (hs:P.underlying src=some (.slice e)) (hd:P.underlying dst=some .string) (he:P.underlying e=some (.int .u8))
  (hr:s.rowsOf (s.opV x)=some rows) (hb:Zh5 rows=some bs):OpR P o a w (Stp P B io w a.tmps s ρ fl k (.lit (.string ⟨bs.toArray⟩)) s):=by
 obtain⟨ns,hrows,hbs⟩:=Z1s hb
 have hrun:(Conv.bytesToString (a.eval x)).run P w=.ok (.string ⟨bs.toArray⟩) w:=by
  have hu:=h.opV x
  generalize a.eval x=u at hu
  rcases Zo3 h hu hr (sz:=1) (fun q hq=>by
   rw[hrows] at hq
   obtain⟨n,_,rfl⟩:=List.mem_map.1 hq;rfl) with⟨rfl,A,c,rfl⟩|⟨us,hC⟩
  ·have:ns=[]:=by cases ns with|nil=>rfl|cons n ns=>simp at hrows
   subst this
   simp only[List.map_nil] at hbs
   subst hbs
   cases A with
   | none=>simp[Conv.bytesToString];rfl
   | some ad=>
    have:=run_bytesToString (P:=P) w ad 0 c [] (by simp[loadCells,loadCellsFrom])
    rw[List.foldl_nil] at this
    exact this
  ·obtain⟨ad,c,rfl,hc⟩:=hC.val
   have husn:us=ns.map (Value.int .u8):=by
    apply List.ext_getElem?
    intro j
    have hlen:us.length=ns.length:=by have:=hC.len;rw[hrows] at this;simpa using this
    by_cases hj:j < ns.length
    ·have h1:rows.flatten[j]?=some (V.lit (.int .u8 ns[j])):=by
      rw[hrows]
      have:=Zbi (sz:=1) (rows:=ns.map fun n=>[V.lit (.int .u8 n)]) (i:=j) (j:=0) (x:=V.lit (.int .u8 ns[j])) (fun r hr=>by obtain⟨n,_,rfl⟩:=List.mem_map.1 hr;rfl) (by rw[List.getElem?_map,List.getElem?_eq_getElem hj];rfl) rfl
      simpa using this
     have hsee:∃v,us[j]?=some v∧Rd w (okS s ρ w) v (V.lit (.int .u8 ns[j])):=by
      cases hcl:We rows with
      | true=>exact (hC.own hcl).rd (fun g hg=>by simp at hg) h1
      | false=>exact (hC.see hcl).2 j _ h1
     obtain⟨v,hv,hr⟩:=hsee
     cases hr
     rw[hv,List.getElem?_map,List.getElem?_eq_getElem hj];rfl
    ·rw[List.getElem?_eq_none (by omega),List.getElem?_eq_none (by simp;omega)]
   have hld:(loadCells ad rows.length).run P w=.ok (ns.map (Value.int .u8)).toArray w:=by
    have:=run_loadCells_list (P:=P) (w:=w) ad us (fun j u hj=>hc j u hj)
    rw[husn] at this
    rw[hrows]
    simpa using this
   have:=run_bytesToString (P:=P) w ad rows.length c ns hld
   rw[this,Z77,hbs]
   simp
 refine .value (v:=.string ⟨bs.toArray⟩) (w':=w) ?_ (.same h (.lit rfl))
 have hsh:∃A n c,a.eval x=.slice A n c:=by
  have hu:=h.opV x
  generalize a.eval x=u at hu
  rcases Zo3 h hu hr (sz:=1) (fun q hq=>by
   rw[hrows] at hq
   obtain⟨n,_,rfl⟩:=List.mem_map.1 hq;rfl) with⟨_,A,c,rfl⟩|⟨us,hC⟩
  ·exact⟨_,_,_,rfl⟩
  ·obtain⟨ad,c,rfl,_⟩:=hC.val;exact⟨_,_,_,rfl⟩
 obtain⟨A,n,c,hq⟩:=hsh
 rw[hq] at hrun
 simp[execOp,ho,hq,convert,run_underlying hs,run_underlying hd,run_underlying he,hrun]
def Zyc:BinOp→Bool|.neq=>true|_=>false
theorem Zlv (h:Rel P B io w a.tmps s ρ F fl) {op:BinOp} {t yt e:TypeId} {x y z:Operand} {rows:List (List V)} {r:List V} (ho:o.op=.binOp op t x y yt) (hte:Yk P t=some e) (hop:op=.eql∨op=.neq)
  (hz:(z=x∧s.opV y=.lit (.slice none 0 0))∨(z=y∧s.opV x=.lit (.slice none 0 0))) (hr:s.rowsOf (s.opV z)=some (r::rows)) (he:v=.lit (.bool (Zyc op))):
  OpR P o a w (Stp P B io w a.tmps s ρ fl k v s):=by
 have ht:=Q3 hte
 have hzv:∃ad n c,a.eval z=.slice (some ad) n c:=by
  have hR:=h.rowsOf (ok':=fun g=>g < w.heap.size) (h.opV z) hr (fun g hg=>hg.2) (fun _ _ _ _ _ _ _ _ _ _ _ _ hg _=>hg)
  generalize a.eval z=q at hR
  cases hR with
  | tr=>exact⟨_,_,_,rfl⟩
 obtain⟨ad,n,c,hzv⟩:=hzv
 have hnil:∀{y:Operand},s.opV y=.lit (.slice none 0 0)→a.eval y=.slice none 0 0:=fun {y} hy=>by
  have:=h.opV y
  rw[hy] at this
  generalize a.eval y=q at this
  cases this;rfl
 subst he
 refine .value (v:=.bool (Zyc op)) (w':=w) ?_ (.same h (.lit rfl))
 have g1:∀d (u v:Value),(u=.slice (some ad) n c∧v=.slice none 0 0)∨(u=.slice none 0 0∧v=.slice (some ad) n c)→(Op.equalIn (d+1) t u v).run P w=.ok false w:=by
  rintro d u v (⟨rfl,rfl⟩|⟨rfl,rfl⟩)<;>simp[Op.equalIn,run_underlying ht]
 have g2:∀(u v:Value),(u=.slice (some ad) n c∧v=.slice none 0 0)∨(u=.slice none 0 0∧v=.slice (some ad) n c)→(Op.equal t u v).run P w=.ok false w:=fun u v h=>g1 9999 u v h
 have g3:∀(u v:Value) (x y:Operand),(u=.slice (some ad) n c∧v=.slice none 0 0)∨(u=.slice none 0 0∧v=.slice (some ad) n c)→(eqGuard op t x y u v).run P w=.ok () w:=by
  rintro u v x y (⟨rfl,rfl⟩|⟨rfl,rfl⟩)<;>rcases hop with rfl|rfl<;>simp[eqGuard]
 have g4:∀(u v:Value),(u=.slice (some ad) n c∧v=.slice none 0 0)∨(u=.slice none 0 0∧v=.slice (some ad) n c)→(binOp op t u v).run P w=.ok (.bool (Zyc op)) w:=by
  intro u v h
  have:=g2 u v h
  rcases h with⟨rfl,rfl⟩|⟨rfl,rfl⟩<;>rcases hop with rfl|rfl<;>simp[binOp,this,Zyc]
 rcases hz with⟨rfl,hy⟩|⟨rfl,hx⟩
 ·have hh:(a.eval z=.slice (some ad) n c∧a.eval y=.slice none 0 0)∨(a.eval z=.slice none 0 0∧a.eval y=.slice (some ad) n c):=.inl ⟨hzv,hnil hy⟩
  simp only[execOp,ho,Sem.run_bind,Sem.run_pure,Result.andThen_ok,g3 _ _ _ _ hh,g4 _ _ hh]
 ·have hh:(a.eval x=.slice (some ad) n c∧a.eval z=.slice none 0 0)∨(a.eval x=.slice none 0 0∧a.eval z=.slice (some ad) n c):=.inr ⟨hnil hx,hzv⟩
  simp only[execOp,ho,Sem.run_bind,Sem.run_pure,Result.andThen_ok,g3 _ _ _ _ hh,g4 _ _ hh]
end
def OpW (P:Program) (o:Oper) (a:Act) (w:World) (Post:Value→World→Prop):Prop:=∀(K:Act→World→Prop) (Q:Exit→Act→World→Prop),(∀v w',Post v w'→K (a.put o.dst v) w')→o.wp P a w K Q
theorem OpR.toW {P:Program} {o:Oper} {a:Act} {w:World} {Post:Value→World→Prop} (h:OpR P o a w Post):OpW P o a w Post:=fun _ _ hK=>h.wp hK
theorem Zjr {α:Type} {a:Array α} {x:α} (h:a.toList=[x]):a=#[x]:=by apply Array.ext';simpa using h
theorem Zt3 {α:Type} {a:Array α} {x y:α} (h:a.toList=[x,y]):a=#[x,y]:=by apply Array.ext';simpa using h
def Ztx (P:Program) (B:Nat) (io:Nat→Prop) (w:World) (tmps:Array Value) (s:St) (ρ:Rho) (fl:List Nat) (k:Nat) (v:V) (s':St) (M:Hints) (C:Yw):Prop:=
 ∀(g:FuncId) (args:List V) (us:Array Value),us.size=args.length→(∀(j:Nat) (u:Value) (x:V),us[j]?=some u→args[j]?=some x→En w (okS s ρ w) ρ u x)→Zeq P M C s k g args=some (v,s')→
  ∃fn,P.funcs[g]?=some fn∧fn.body.isSome=true∧(fn.name == "runtime.NumGoroutine")=false∧Calls P g us w (fun e w'=>∃val,e=.returned val∧Stp P B io w tmps s ρ fl k v s' val w')
section
variable {P:Program} {B:Nat} {io:Nat→Prop} {w w':World} {a:Act} {s s':St} {ρ:Rho} {F:Id→List Nat} {fl:List Nat} {k:Nat} {o:Oper} {v:V} {M:Hints} {C:Yw}
theorem Yav (h:Rel P B io w a.tmps s ρ F fl) {f:Operand} {ars:Array Operand} {ts:Array TypeId} {g:FuncId} {caps:List V} (ho:o.op=.call {callee:=.value f,args:=ars,argTypes:=ts}) (hf:s.opV f=.fn g caps)
  (he:Zeq P M C s k g (ars.toList.map s.opV++caps)=some (v,s')) (hcall:Ztx P B io w a.tmps s ρ fl k v s' M C):OpW P o a w (Stp P B io w a.tmps s ρ fl k v s'):=by
 have hfv:=h.opV f
 rw[hf] at hfv
 generalize hq:a.eval f=q at hfv
 have key:∀(vs:Array Value),q=.func (.func g) #[] vs→vs.size=caps.length→(∀(j:Nat) (u:Value) (x:V),vs[j]?=some u→caps[j]?=some x→En w (okS s ρ w) ρ u x)→OpW P o a w (Stp P B io w a.tmps s ρ fl k v s'):=by
  rintro vs rfl hl hr
  obtain⟨fn,h1,h2,h3,h4⟩:=hcall g _ (ars.map a.eval++vs) (by simp[hl]) (fun j u x hu hx=>by
   by_cases hj:j < ars.size
   ·rw[Array.getElem?_append_left (by simpa using hj)] at hu
    rw[List.getElem?_append_left (by simpa using hj)] at hx
    simp only[Array.getElem?_map,List.getElem?_map,Option.map_eq_some_iff] at hu hx
    obtain⟨y,hy,rfl⟩:=hu
    obtain⟨z,hz,rfl⟩:=hx
    have:y=z:=by
     have h1:ars.toList[j]?=some y:=by simpa using hy
     rw[h1] at hz;injection hz
    subst this
    exact h.opV y
   ·rw[Array.getElem?_append_right (by simp;omega)] at hu
    rw[List.getElem?_append_right (by simp;omega)] at hx
    simp only[Array.size_map,List.length_map,Array.length_toList] at hu hx
    exact hr _ u x hu hx) he
  have hb:fn.body.isNone=false:=by cases hbb:fn.body with
   | none=>rw[hbb] at h2;cases h2
   | some c=>rfl
  have hrun:(execOp a.eval o).run P w=.ok (.enter g (ars.map a.eval++vs)) w:=by
   have h3':¬fn.name = "runtime.NumGoroutine" := by simpa using h3
   have hb':¬fn.body=none:=fun hh=>by rw[hh] at h2;cases h2
   simp[execOp,ho,resolve,hq,Deferred.ofValue,invoke,callFunc,h1,h3',hb']
  intro K Q hK
  unfold Oper.wp
  rw[hrun,Oper.upon_enter]
  refine h4.mono ?_
  rintro e w'' ⟨val,rfl,hp⟩
  exact hK _ _ hp
 cases hfv with
 | fn hl hr=>exact key _ rfl hl hr
theorem Yaw (h:Rel P B io w a.tmps s ρ F fl) (he:evOp P M C s k o=some (v,s')) (hnew:∀id:Id,id.1=s.ep→id.2 / 1024=k→ρ id=none) (hcall:Ztx P B io w a.tmps s ρ fl k v s' M C):
  OpW P o a w (Stp P B io w a.tmps s ρ fl k v s'):=by
 have hid:ρ (s.ep,1024*k)=none:=hnew _ rfl (by simp)
 have hkk:(s.ep,1024*k).2 / 1024=k:=by simp
 have sc:∀{x:Option V},x=Ye P s.opV o→(x.map fun y=>(y,s))=some (v,s')→OpW P o a w (Stp P B io w a.tmps s ρ fl k v s'):=by
  rintro _ rfl hx
  obtain⟨y,hy,he⟩:=Option.map_eq_some_iff.1 hx
  simp only[Prod.mk.injEq] at he
  obtain⟨rfl,rfl⟩:=he
  exact (Z7k h hy).toW
 unfold evOp Zq at he
 simp only at he
 split at he
 ·rename_i x ho
  split at he
  ·cases he
  ·simp only[Option.some.injEq,Prod.mk.injEq] at he
   obtain⟨hv,rfl⟩:=he
   exact (Z3s h (.inl ho) hv).toW
 ·rename_i x ho
  split at he
  ·cases he
  ·simp only[Option.some.injEq,Prod.mk.injEq] at he
   obtain⟨hv,rfl⟩:=he
   exact (Z3s h (.inr ho) hv).toW
 ·rename_i c x y ho
  split at he
  ·rename_i t hc
   simp only[Option.some.injEq,Prod.mk.injEq] at he
   obtain⟨hv,rfl⟩:=he
   exact (Yak h ho hc hv).toW
  ·cases he
 ·rename_i t i ho
  split at he
  ·rename_i vs ht
   obtain⟨y,hy,he⟩:=Option.map_eq_some_iff.1 he
   simp only[Prod.mk.injEq] at he
   obtain⟨rfl,rfl⟩:=he
   exact (Z57 h ho ht hy).toW
  ·cases he
 ·rename_i x ho
  split at he
  ·rename_i i j n hx
   simp only[Option.some.injEq,Prod.mk.injEq] at he
   obtain⟨rfl,rfl⟩:=he
   exact (Zm8 h ho hx (.inl ⟨_,_,_,rfl⟩)).toW
  ·rename_i b r n hx
   simp only[Option.some.injEq,Prod.mk.injEq] at he
   obtain⟨rfl,rfl⟩:=he
   exact (Zm8 h ho hx (.inr (.inl ⟨_,_,_,rfl⟩))).toW
  ·rename_i f cs hx
   simp only[Option.some.injEq,Prod.mk.injEq] at he
   obtain⟨rfl,rfl⟩:=he
   exact (Zm8 h ho hx (.inr (.inr ⟨_,_,rfl⟩))).toW
  ·cases he
 ·rename_i t ho
  obtain⟨z,hz,he⟩:=Option.map_eq_some_iff.1 he
  simp only[Prod.mk.injEq] at he
  obtain⟨rfl,rfl⟩:=he
  exact (Z9y h ho hz hid rfl hkk).toW
 ·rename_i t x ho
  obtain⟨cs,hcs,he⟩:=Option.bind_eq_some_iff.1 he
  split at he
  ·simp only[Option.some.injEq,Prod.mk.injEq] at he
   obtain⟨rfl,rfl⟩:=he
   exact (box_ok h ho hcs hid rfl hkk).toW
  ·cases he
 ·rename_i t parts ho
  obtain⟨z,hz,he⟩:=Option.bind_eq_some_iff.1 he
  split at he
  ·rename_i fs hu
   split at he
   ·cases he
   ·rename_i hall
    obtain⟨cs,hcs,he⟩:=Option.map_eq_some_iff.1 he
    simp only[Prod.mk.injEq] at he
    obtain⟨rfl,rfl⟩:=he
    exact (Z8y h ho hz hu (by cases hh:fs.toList.all (fun f=>(P.info? f.type).isSome) with|true=>rfl|false=>exact absurd hh hall) hcs).toW
  ·cases he
 ·rename_i t n parts ho
  obtain⟨e,hte,he⟩:=Option.bind_eq_some_iff.1 he
  obtain⟨z,hz,he⟩:=Option.bind_eq_some_iff.1 he
  split at he
  ·cases he
  ·rename_i hc
   obtain⟨cs,hcs,he⟩:=Option.bind_eq_some_iff.1 he
   obtain⟨⟨rows,c,s1⟩,hs,he⟩:=Option.map_eq_some_iff.1 he
   simp only[Prod.mk.injEq] at he
   obtain⟨rfl,rfl⟩:=he
   have hc1:Zf P e≠0:=fun hh=>hc (.inl hh)
   have hc2:n*Zf P e≤1048576:=by
    rcases Nat.lt_or_ge 1048576 (n*Zf P e) with hh|hh
    ·exact absurd (.inr (.inl hh)) hc
    ·exact hh
   have hc3:Zfz P e=true:=by
    cases hh:Zfz P e with
    | true=>rfl
    | false=>exact absurd (.inr (.inr hh)) hc
   exact (Zxu h ho hte hz hc1 hc2 hc3 hcs hs hid rfl hkk).toW
 ·rename_i t x ho
  split at he
  ·rename_i i j n hx
   obtain⟨b,hb,he⟩:=Option.bind_eq_some_iff.1 he
   obtain⟨row,hrow,he⟩:=Option.bind_eq_some_iff.1 he
   split at he
   ·rename_i hlen
    obtain⟨y,hy,he⟩:=Option.map_eq_some_iff.1 he
    simp only[Prod.mk.injEq] at he
    obtain⟨rfl,rfl⟩:=he
    exact (Z3r h ho (.inl ⟨i,j,n,b,row,hx,hb,hrow,hlen,hy⟩)).toW
   ·cases he
  ·rename_i sh row n hx
   split at he
   ·rename_i hlen
    obtain⟨y,hy,he⟩:=Option.map_eq_some_iff.1 he
    simp only[Prod.mk.injEq] at he
    obtain⟨rfl,rfl⟩:=he
    exact (Z3r h ho (.inr ⟨sh,row,n,hx,hlen,hy⟩)).toW
   ·cases he
  ·cases he
 ·rename_i t x y ho
  split at he
  ·rename_i i j n hx
   obtain⟨b,hb,he⟩:=Option.bind_eq_some_iff.1 he
   obtain⟨row,hrow,he⟩:=Option.bind_eq_some_iff.1 he
   obtain⟨cs,hcs,he⟩:=Option.bind_eq_some_iff.1 he
   split at he
   ·rename_i hc
    obtain⟨h1,h2,h3,h4⟩:=hc
    split at he
    ·rename_i hbox
     simp only[Option.some.injEq,Prod.mk.injEq] at he
     obtain⟨rfl,rfl⟩:=he
     exact (Z2i h ho hx hb hrow hcs h1 hbox h2 h3 h4).toW
    ·rename_i hbox
     obtain⟨⟨ys,c,s1⟩,hs,he⟩:=Option.bind_eq_some_iff.1 he
     simp only at he
     split at he
     ·rename_i b1 hb1
      simp only[Option.some.injEq,Prod.mk.injEq] at he
      obtain⟨rfl,rfl⟩:=he
      exact (Z28 h ho hx hb hrow hcs h1 (by simpa using hbox) h2 h3 h4 hs hb1).toW
     ·cases he
   ·cases he
  ·cases he
 ·rename_i t x f ho
  obtain⟨off,hoff,he⟩:=Option.bind_eq_some_iff.1 he
  split at he
  ·rename_i i j n hx
   simp only[Option.some.injEq,Prod.mk.injEq] at he
   obtain⟨rfl,rfl⟩:=he
   exact (Zqc h ho hoff (.inl ⟨_,_,_,hx,rfl⟩)).toW
  ·rename_i b r n hx
   simp only[Option.some.injEq,Prod.mk.injEq] at he
   obtain⟨rfl,rfl⟩:=he
   exact (Zqc h ho hoff (.inr ⟨_,_,_,hx,rfl⟩)).toW
  ·cases he
 ·rename_i t x ix ho
  obtain⟨e,hte,he⟩:=Option.bind_eq_some_iff.1 he
  split at he
  ·cases he
  ·rename_i hz
   obtain⟨n,hn,he⟩:=Option.bind_eq_some_iff.1 he
   split at he
   ·rename_i i off len hx
    split at he
    ·rename_i hlt
     obtain⟨b,hb,he⟩:=Option.bind_eq_some_iff.1 he
     obtain⟨row,hrow,he⟩:=Option.bind_eq_some_iff.1 he
     split at he
     ·rename_i hrl
      simp only[Option.some.injEq,Prod.mk.injEq] at he
      obtain⟨rfl,rfl⟩:=he
      exact (Zk8 h ho hte hn (.inl ⟨i,off,len,b,row,hx,hlt,hb,hrow,hrl,rfl⟩) hz).toW
     ·cases he
    ·cases he
   ·rename_i rows hx
    obtain⟨row,hrow,he⟩:=Option.bind_eq_some_iff.1 he
    split at he
    ·rename_i hrl
     simp only[Option.some.injEq,Prod.mk.injEq] at he
     obtain⟨rfl,rfl⟩:=he
     exact (Zk8 h ho hte hn (.inr ⟨true,rows,row,.inl hx,hrow,hrl,rfl⟩) hz).toW
    ·cases he
   ·rename_i rows hx
    obtain⟨row,hrow,he⟩:=Option.bind_eq_some_iff.1 he
    split at he
    ·rename_i hrl
     simp only[Option.some.injEq,Prod.mk.injEq] at he
     obtain⟨rfl,rfl⟩:=he
     exact (Zk8 h ho hte hn (.inr ⟨false,rows,row,.inr hx,hrow,hrl,rfl⟩) hz).toW
    ·cases he
   ·cases he
 ·rename_i t x lo hi ho
  split at he
  ·obtain⟨y,hy,he⟩:=Option.map_eq_some_iff.1 he
   simp only[Prod.mk.injEq] at he
   obtain⟨rfl,rfl⟩:=he
   exact (Zs1 h ho hy).toW
  ·obtain⟨y,hy,he⟩:=Option.map_eq_some_iff.1 he
   simp only[Prod.mk.injEq] at he
   obtain⟨rfl,rfl⟩:=he
   exact (Zs1 h ho hy).toW
  ·obtain⟨y,hy,he⟩:=Option.map_eq_some_iff.1 he
   simp only[Prod.mk.injEq] at he
   obtain⟨rfl,rfl⟩:=he
   exact (Zs1 h ho hy).toW
  ·exact sc rfl he
 ·rename_i t l c ho
  obtain⟨e,hte,he⟩:=Option.bind_eq_some_iff.1 he
  obtain⟨z,hz,he⟩:=Option.bind_eq_some_iff.1 he
  obtain⟨n,hn,he⟩:=Option.bind_eq_some_iff.1 he
  obtain⟨m,hm,he⟩:=Option.bind_eq_some_iff.1 he
  split at he
  ·rename_i hc
   obtain⟨rfl,h2,h3,h4,h5⟩:=hc
   simp only[Option.some.injEq,Prod.mk.injEq] at he
   obtain⟨rfl,rfl⟩:=he
   exact (Z0x h ho hte hz hn hm h2 h3 h4 h5 hid rfl hkk).toW
  ·cases he
 ·rename_i f first caps ho
  split at he
  ·rename_i hf
   simp only[Option.some.injEq,Prod.mk.injEq] at he
   obtain⟨rfl,rfl⟩:=he
   have:first=#[]:=Array.eq_empty_of_size_eq_zero hf
   subst this
   exact (Z3e h ho rfl).toW
  ·cases he
 ·rename_i src dst x ho
  split at he
  ·exact sc rfl he
  ·split at he
   ·rename_i e hs hd
    split at he
    ·rename_i hu
     obtain⟨rows,hr,he⟩:=Option.bind_eq_some_iff.1 he
     obtain⟨bs,hb,he⟩:=Option.map_eq_some_iff.1 he
     simp only[Prod.mk.injEq] at he
     obtain⟨rfl,rfl⟩:=he
     exact (Z9f h ho hs hd hu hr hb).toW
    ·cases he
   ·cases he
   ·cases he
 ·rename_i c ho
  obtain⟨callee,ars,ts⟩:=c
  simp only at he
  split at he
  ·split at he
   ·rename_i b x t t' ha ht
    split at he
    ·rename_i htt
     subst htt
     have:=Zt3 ha
     subst this
     have:=Zt3 ht
     subst this
     exact (Z74 h ho he hid rfl hkk).toW
    ·cases he
   ·cases he
  ·split at he
   ·rename_i x t ha ht
    have:=Zjr ha
    subst this
    have:=Zjr ht
    subst this
    split at he
    ·rename_i i off n hx
     split at he
     ·rename_i hte
      simp only[Option.some.injEq,Prod.mk.injEq] at he
      obtain⟨rfl,rfl⟩:=he
      exact (Zz2 h ho hte (.inl ⟨i,off,hx⟩) rfl).toW
     ·cases he
    ·rename_i rows hx
     split at he
     ·rename_i hte
      simp only[Option.some.injEq,Prod.mk.injEq] at he
      obtain⟨rfl,rfl⟩:=he
      exact (Zz2 h ho hte (.inr ⟨rows,.inl hx,rfl⟩) rfl).toW
     ·cases he
    ·rename_i rows hx
     split at he
     ·rename_i hte
      simp only[Option.some.injEq,Prod.mk.injEq] at he
      obtain⟨rfl,rfl⟩:=he
      exact (Zz2 h ho hte (.inr ⟨rows,.inr hx,rfl⟩) rfl).toW
     ·cases he
    ·exact sc rfl he
   ·cases he
  ·split at he
   ·rename_i x t ha ht
    have:=Zjr ha
    subst this
    have:=Zjr ht
    subst this
    obtain⟨e,hte,he⟩:=Option.bind_eq_some_iff.1 he
    obtain⟨z,hz,he⟩:=Option.bind_eq_some_iff.1 he
    split at he
    ·rename_i i off n hx
     obtain⟨b,hb,he⟩:=Option.bind_eq_some_iff.1 he
     split at he
     ·rename_i hc
      obtain⟨h1,h2,h3,h4,h5,h6⟩:=hc
      simp only[Option.some.injEq,Prod.mk.injEq] at he
      obtain⟨rfl,rfl⟩:=he
      exact (Z85 h ho hte hz hx hb h1 h2 h3 h4 h5 h6).toW
     ·cases he
    ·cases he
   ·cases he
  ·exact sc rfl he
  ·split at he
   ·rename_i f g caps hf
    exact Yav h ho hf he hcall
   ·cases he
  ·cases he
 ·rename_i op t x y yt ho
  split at he
  ·exact sc rfl he
  ·exact sc rfl he
  ·exact sc rfl he
  ·rename_i z1 z2 hx hy
   split at he
   ·cases he
   ·rename_i hte
    obtain⟨e,hte⟩:=Option.isSome_iff_exists.1 (show (Yk P t).isSome=true by cases hh:(Yk P t).isSome with|true=>rfl|false=>exact absurd hh hte)
    split at he
    ·rename_i r rows hr
     simp only[Option.some.injEq,Prod.mk.injEq] at he
     obtain⟨rfl,rfl⟩:=he
     exact (Zlv h ho hte (.inl rfl) (.inl ⟨rfl,by assumption⟩) hr rfl).toW
    ·rename_i r rows hr
     simp only[Option.some.injEq,Prod.mk.injEq] at he
     obtain⟨rfl,rfl⟩:=he
     exact (Zlv h ho hte (.inr rfl) (.inl ⟨rfl,by assumption⟩) hr rfl).toW
    ·cases he
  ·rename_i z1 z2 hx hy
   split at he
   ·cases he
   ·rename_i hte
    obtain⟨e,hte⟩:=Option.isSome_iff_exists.1 (show (Yk P t).isSome=true by cases hh:(Yk P t).isSome with|true=>rfl|false=>exact absurd hh hte)
    split at he
    ·rename_i r rows hr
     simp only[Option.some.injEq,Prod.mk.injEq] at he
     obtain⟨rfl,rfl⟩:=he
     exact (Zlv h ho hte (.inl rfl) (.inr ⟨rfl,by assumption⟩) hr rfl).toW
    ·rename_i r rows hr
     simp only[Option.some.injEq,Prod.mk.injEq] at he
     obtain⟨rfl,rfl⟩:=he
     exact (Zlv h ho hte (.inr rfl) (.inr ⟨rfl,by assumption⟩) hr rfl).toW
    ·cases he
  ·cases he
 ·exact sc rfl he
end
theorem Rd.okm {w:World} {ok ok':Nat→Prop} {v:Value} {x:V} (h:Rd w ok v x) (hok:∀g,ok g→ok' g):Rd w ok' v x:=h.mono (fun _ _ _=>rfl) hok
theorem En.ext {w:World} {ok ok':Nat→Prop} {ρ ρ':Rho} {v:Value} {x:V} (h:En w ok ρ v x) (hok:∀g,ok g→ok' g) (hρ:∀id i,ρ id=some i→ρ' id=some i):En w ok' ρ' v x:=by
 induction h with
 | undef=>exact .undef
 | lit h=>exact .lit h
 | tr h=>exact .tr (h.okm hok)
 | vw h=>exact .vw (h.okm hok)
 | rp h=>exact .rp (h.okm hok)
 | ptr h=>exact .ptr (hρ _ _ h)
 | sl h hc=>exact .sl (hρ _ _ h) hc
 | sle h=>
  obtain⟨i,hi⟩:=Option.isSome_iff_exists.1 h
  exact .sle (by rw[hρ _ _ hi];rfl)
 | fn hl hr ih=>exact .fn hl ih
 | agg hl hc hr ih=>exact .agg hl hc ih
 | tup hl hr ih=>exact .tup hl ih
theorem En.world {w w':World} {ok:Nat→Prop} {ρ:Rho} {v:Value} {x:V} (h:En w ok ρ v x) (hw:∀g,ok g→w'.heap[g]?=w.heap[g]?):En w' ok ρ v x:=by
 induction h with
 | undef=>exact .undef
 | lit h=>exact .lit h
 | tr h=>exact .tr (h.mono (fun g hg _=>hw g hg) (fun _ h=>h))
 | vw h=>exact .vw (h.mono (fun g hg _=>hw g hg) (fun _ h=>h))
 | rp h=>exact .rp (h.mono (fun g hg _=>hw g hg) (fun _ h=>h))
 | ptr h=>exact .ptr h
 | sl h hc=>exact .sl h hc
 | sle h=>exact .sle h
 | fn hl hr ih=>exact .fn hl ih
 | agg hl hc hr ih=>exact .agg hl hc ih
 | tup hl hr ih=>exact .tup hl ih
theorem BlkR.ext {P:Program} {w:World} {ok ok':Nat→Prop} {ρ ρ':Rho} {i:Option Info} {F:List Nat} {b:Blk} (h:BlkR P w ok ρ i F b) (hok:∀g,ok g→ok' g) (hρ:∀id i,ρ id=some i→ρ' id=some i):BlkR P w ok' ρ' i F b:=by
 unfold BlkR at h ⊢
 split at h
 ·obtain⟨h1,g,cur,e,row,hi,hg,hr,hs,he,h1c,rfl⟩:=h
  exact⟨h1,g,cur,e,row,hi,hg,hr,hs,fun k v x hv hx=>(he k v x hv hx).ext hok hρ,h1c,rfl⟩
 ·rcases h with h|⟨g,o,c,cur,hi,hg,hl,hm,hu,hz,fp,rfl,h1,h2⟩
  ·exact .inl h
  ·refine .inr ⟨g,o,c,cur,hi,hg,hl,hm,hu,hz,fp,rfl,h1,fun hc=>⟨(h2 hc).1,fun k x hx=>?_⟩⟩
   obtain⟨v,hv,hr⟩:=(h2 hc).2 k x hx
   exact⟨v,hv,hr.okm hok⟩
 ·obtain⟨h0,h⟩:=h
  refine⟨h0,?_⟩
  rcases h with h|⟨g,o,c,sz,hi,hu,hr⟩
  ·exact .inl h
  ·exact .inr ⟨g,o,c,sz,hi,hu,hr.okm hok⟩
theorem BlkR.world {P:Program} {w w':World} {ok:Nat→Prop} {ρ:Rho} {i:Option Info} {F:List Nat} {b:Blk} (h:BlkR P w ok ρ i F b) (hw:∀g,ok g→w'.heap[g]?=w.heap[g]?) (hF:∀g∈F,w'.heap[g]?=w.heap[g]?):BlkR P w' ok ρ i F b:=by
 unfold BlkR at h ⊢
 split at h
 ·obtain⟨h1,g,cur,e,row,hi,hg,hr,hs,he,h1c,rfl⟩:=h
  exact⟨h1,g,cur,e,row,hi,by rw[hF g List.mem_cons_self];exact hg,hr,hs,fun k v x hv hx=>(he k v x hv hx).world hw,h1c,rfl⟩
 ·rcases h with h|⟨g,o,c,cur,hi,hg,hl,hm,hu,hz,fp,rfl,h1,h2⟩
  ·exact .inl h
  ·refine .inr ⟨g,o,c,cur,hi,by rw[hF g List.mem_cons_self];exact hg,hl,hm,hu,hz,fp,rfl,fun hc=>(h1 hc).frame fun k hk=>hF k (List.mem_cons_of_mem _ hk),fun hc=>⟨(h2 hc).1,fun k x hx=>?_⟩⟩
   obtain⟨v,hv,hr⟩:=(h2 hc).2 k x hx
   exact⟨v,hv,hr.mono (fun g hg _=>hw g hg) (fun _ h=>h)⟩
 ·obtain⟨h0,h⟩:=h
  refine⟨h0,?_⟩
  rcases h with h|⟨g,o,c,sz,hi,hu,hr⟩
  ·exact .inl h
  ·exact .inr ⟨g,o,c,sz,hi,hu,hr.mono (fun g hg _=>hw g hg) (fun _ h=>h)⟩
structure RelG (P:Program) (B:Nat) (io:Nat→Prop) (w:World) (tmps:Array Value) (s:St) (ρ:Rho) (F:Id→List Nat) (fl:List Nat) (ok:Nat→Prop):Prop where
 env:∀(t:Nat) (v:Value),tmps[t]?=some v→En w ok ρ v (s.env t)
 out:∀t,tmps.size≤t→s.env t=.undef
 heap:∀id b,s.heap id=some b→BlkR P w ok ρ (ρ id) (F id) b
 mine:∀id b,s.heap id=some b→b.own=true→∀g∈F id,g < w.heap.size
 top:∀id b,s.heap id=some b→b.own=true→Zkg (ρ id)→∀g,(F id).head?=some g→io g∨B≤g
 apart:∀id id' b b',s.heap id=some b→b.own=true→s.heap id'=some b'→b'.own=true→id≠id'→∀g∈F id,g ∉ F id'
 once:∀id b,s.heap id=some b→b.own=true→(F id).Nodup
 dom:∀id,(ρ id).isSome=true→id.1≤s.ep
 base0:BaseR B io w
 flMine:∀g∈fl,g < w.heap.size
 flApart:∀id b,s.heap id=some b→b.own=true→∀g∈F id,g ∉ fl
 flOnce:fl.Nodup
inductive Giv (P:Program) (w:World) (ok top:Nat→Prop):Value→V→List Nat→Prop
 | lit {v:Value} (h:Wx v=true):Giv P w ok top v (.lit v) []
 | tr {v:Value} {rows:List (List V)} (h:Rd w ok v (.tr rows)):Giv P w ok top v (.tr rows) []
 | own {v:Value} {e:TypeId} {rows:List (List V)} {fp:List Nat} (h:OwT P w e v rows fp) (ht:∀g,fp.head?=some g→top g):Giv P w ok top v (.own e rows) fp
inductive GivL (P:Program) (w:World) (ok top:Nat→Prop):List Value→List V→List Nat→Prop
 | nil:GivL P w ok top [] [] []
 | cons {v:Value} {x:V} {vs:List Value} {xs:List V} {f1 f2:List Nat} (h:Giv P w ok top v x f1) (hs:GivL P w ok top vs xs f2):GivL P w ok top (v::vs) (x::xs) (f1++f2)
theorem GivL.length {P:Program} {w:World} {ok top:Nat→Prop} {vs:List Value} {xs:List V} {fp:List Nat} (h:GivL P w ok top vs xs fp):vs.length=xs.length:=by
 induction h with
 | nil=>rfl
 | cons _ _ ih=>simp[ih]
def GivO (P:Program) (w:World) (ok top:Nat→Prop) (u:Value):V→List Nat→Prop
 | .agg cs,fp=>∃us:Array Value,u=.agg us∧GivL P w ok top us.toList cs fp
 | .obx cs,fp=>∃g cur e fp',u=.pointer (some ⟨g,0,none⟩)∧w.heap[g]?=some (.cells cur e (0,0))∧GivL P w ok top cur.toList cs fp'∧fp=g::fp'∧top g
 | x,fp=>Giv P w ok top u x fp
section
variable {P:Program} {B:Nat} {io:Nat→Prop} {w w':World} {tmps:Array Value} {s s':St} {ρ ρ':Rho} {F F':Id→List Nat} {fl fl':List Nat} {ok ok' top:Nat→Prop}
theorem RelG.toRel (h:RelG P B io w tmps s ρ F fl ok) (hok:∀g,ok g→okS s ρ w g):Rel P B io w tmps s ρ F fl:=
 {h with
  env:=fun t v hv=>(h.env t v hv).ext hok (fun _ _ h=>h)
  heap:=fun id b hb=>(h.heap id b hb).ext hok (fun _ _ h=>h)}
theorem RelG.less (h:RelG P B io w tmps s ρ F fl ok) (hs:fl'.Sublist fl):RelG P B io w tmps s ρ F fl' ok:=
 {h with
  flMine:=fun g hg=>h.flMine g (hs.subset hg)
  flApart:=fun id b hb ho g hg hg'=>h.flApart id b hb ho g hg (hs.subset hg')
  flOnce:=h.flOnce.sublist hs}
theorem RelG.perm (h:RelG P B io w tmps s ρ F fl ok) (hs:fl'.Perm fl):RelG P B io w tmps s ρ F fl' ok:=
 {h with
  flMine:=fun g hg=>h.flMine g (hs.mem_iff.1 hg)
  flApart:=fun id b hb ho g hg hg'=>h.flApart id b hb ho g hg (hs.mem_iff.1 hg')
  flOnce:=hs.nodup_iff.2 h.flOnce}
theorem RelG.put (h:RelG P B io w tmps s ρ F fl ok) {p:Nat} {x:V} {u:Value} (hp:tmps[p]?=some u) (hx:En w ok ρ u x):RelG P B io w tmps (s.put (some p) x) ρ F fl ok:=
 {h with
  env:=fun t v hv=>by
   simp only[St.put,upd]
   split
   ·rename_i e;subst e;rw[hp] at hv;injection hv with hv;subst hv;exact hx
   ·exact h.env t v hv
  out:=fun t ht=>by
   simp only[St.put,upd]
   split
   ·rename_i e;subst e
    have:=(Array.getElem?_eq_some_iff.1 hp).1
    omega
   ·exact h.out t ht}
theorem RelG.add {fp:List Nat} (h:RelG P B io w tmps s ρ F (fp++fl) ok) {id:Id} (hs:s.heap id=none) (hep:id.1≤s.ep) (hρ:∀id' i,ρ id'=some i→ρ' id'=some i) (hρn:∀id',id'≠id→ρ' id'=ρ id') {b:Blk} (hB:BlkR P w ok ρ' (ρ' id) fp b)
  (htop:Zkg (ρ' id)→∀g,fp.head?=some g→io g∨B≤g):RelG P B io w tmps (s.setB id b) ρ' (upd F id fp) fl ok:=by
 have hno:=List.nodup_append.1 h.flOnce
 refine⟨fun t v hv=>(h.env t v hv).ext (fun _ h=>h) hρ,h.out,fun id' b' hb=>?_,fun id' b' hb ho g hg=>?_,fun id' b' hb ho hcc g hg=>?_,fun id1 id2 b1 b2 hb1 ho1 hb2 ho2 hne g hg1 hg2=>?_,fun id' b' hb ho=>?_,fun id' hi=>?_,h.base0,fun g hg=>h.flMine g (List.mem_append_right _ hg),fun id' b' hb ho g hg hg'=>?_,hno.2.1⟩
 ·by_cases e:id'=id
  ·subst e;rw[Kb] at hb;injection hb with hb;subst hb;rw[Zg];exact hB
  ·rw[Zv e] at hb;rw[hρn id' e,Zy e];exact (h.heap id' b' hb).ext (fun _ h=>h) hρ
 ·by_cases e:id'=id
  ·subst e;rw[Zg] at hg;exact h.flMine g (List.mem_append_left _ hg)
  ·rw[Zv e] at hb;rw[Zy e] at hg;exact h.mine id' b' hb ho g hg
 ·by_cases e:id'=id
  ·subst e;rw[Zg] at hg;exact htop hcc g hg
  ·rw[Zv e] at hb;rw[Zy e] at hg;rw[hρn id' e] at hcc;exact h.top id' b' hb ho hcc g hg
 ·by_cases e1:id1=id
  ·subst e1
   rw[Zg] at hg1
   rw[Zv (Ne.symm hne)] at hb2
   rw[Zy (Ne.symm hne)] at hg2
   exact h.flApart id2 b2 hb2 ho2 g hg2 (List.mem_append_left _ hg1)
  ·rw[Zv e1] at hb1
   rw[Zy e1] at hg1
   by_cases e2:id2=id
   ·subst e2
    rw[Zg] at hg2
    exact h.flApart id1 b1 hb1 ho1 g hg1 (List.mem_append_left _ hg2)
   ·rw[Zv e2] at hb2;rw[Zy e2] at hg2
    exact h.apart id1 id2 b1 b2 hb1 ho1 hb2 ho2 hne g hg1 hg2
 ·by_cases e:id'=id
  ·subst e;rw[Zg];exact hno.1
  ·rw[Zv e] at hb;rw[Zy e];exact h.once id' b' hb ho
 ·by_cases e:id'=id
  ·subst e;exact hep
  ·rw[hρn id' e] at hi;exact h.dom id' hi
 ·by_cases e:id'=id
  ·subst e;rw[Zg] at hg;exact hno.2.2 g hg g hg' rfl
  ·rw[Zv e] at hb;rw[Zy e] at hg;exact h.flApart id' b' hb ho g hg (List.mem_append_right _ hg')
structure Took (P:Program) (B:Nat) (io:Nat→Prop) (w:World) (tmps:Array Value) (s:St) (ρ:Rho) (fl:List Nat) (ok top:Nat→Prop) (J:Id→Prop) (s':St) (ρ':Rho) (F':Id→List Nat):Prop where
 rel:RelG P B io w tmps s' ρ' F' fl ok
 ext:∀id i,ρ id=some i→ρ' id=some i
 dom:∀id,(ρ' id).isSome=true→(ρ id).isSome=true∨J id
 env:s'.env=s.env
 ep:s'.ep=s.ep
 heap:∀id,¬J id→s'.heap id=s.heap id
 tops:∀g,Ev.tops s' ρ' g→Ev.tops s ρ g∨top g
theorem Took.trans {fl1:List Nat} {J K:Id→Prop} {s1 s2:St} {ρ1 ρ2:Rho} {F1 F2:Id→List Nat} (h1:Took P B io w tmps s ρ fl1 ok top J s1 ρ1 F1) (h2:Took P B io w tmps s1 ρ1 fl ok top K s2 ρ2 F2):Took P B io w tmps s ρ fl ok top (fun id=>J id∨K id) s2 ρ2 F2 where
 rel:=h2.rel
 ext:=fun id i h=>h2.ext id i (h1.ext id i h)
 dom:=fun id h=>by
  rcases h2.dom id h with h|h
  ·rcases h1.dom id h with h|h
   ·exact .inl h
   ·exact .inr (.inl h)
  ·exact .inr (.inr h)
 env:=h2.env.trans h1.env
 ep:=h2.ep.trans h1.ep
 heap:=fun id h=>(h2.heap id fun hk=>h (.inr hk)).trans (h1.heap id fun hj=>h (.inl hj))
 tops:=fun g h=>by
  rcases h2.tops g h with h|h
  ·exact h1.tops g h
  ·exact .inr h
theorem Took.mono {J K:Id→Prop} {s1:St} {ρ1:Rho} {F1:Id→List Nat} (h:Took P B io w tmps s ρ fl ok top J s1 ρ1 F1) (hJ:∀id,J id→K id):Took P B io w tmps s ρ fl ok top K s1 ρ1 F1:=
 {h with
  dom:=fun id hi=>(h.dom id hi).imp (fun h=>h) (hJ id)
  heap:=fun id hk=>h.heap id fun hj=>hk (hJ id hj)}
theorem Took.refl (h:RelG P B io w tmps s ρ F fl ok):Took P B io w tmps s ρ fl ok top (fun _=>False) s ρ F:=
 ⟨h,fun _ _ h=>h,fun _ h=>.inl h,rfl,rfl,fun _ _=>rfl,fun _ h=>.inl h⟩
theorem Zke {id:Id} {b:Blk} (hρn:∀id',id'≠id→ρ' id'=ρ id') {g:Nat} (h:tops (s.setB id b) ρ' g):tops s ρ g∨(b.own=true∧∃o c sz,ρ' id=some (.blk g o c sz)):=by
 obtain⟨id',b',o,c,sz,hb,ho,hρ⟩:=h
 by_cases e:id'=id
 ·subst e;rw[Kb] at hb;injection hb with hb;subst hb;exact .inr ⟨ho,o,c,sz,hρ⟩
 ·rw[Zv e] at hb;rw[hρn id' e] at hρ;exact .inl ⟨id',b',o,c,sz,hb,ho,hρ⟩
theorem Z9o {fp:List Nat} (h:RelG P B io w tmps s ρ F (fp++fl) ok) {u:Value} {e:TypeId} {rows:List (List V)} (hO:OwT P w e u rows fp) (ht:∀g,fp.head?=some g→top g) (htop:∀g,top g→io g∨B≤g) {id:Id} (hid:ρ id=none) (hs:s.heap id=none) (hep:id.1≤s.ep):
  ∃ρ' F',Took P B io w tmps s ρ fl ok top (fun id'=>id'=id) (s.setB id ⟨false,true,true,e,rows⟩) ρ' F'∧En w ok ρ' u (.sl id 0 rows.length):=by
 rcases hO with⟨A,rfl,rfl,rfl⟩|⟨g,o,c,cur,fp',rfl,hg,hl,hm,hun,hz,hO,rfl⟩
 ·refine⟨upd ρ id (some .emp),upd F id [],⟨h.add hs hep (Xs hid) (fun id' e=>Zy e) (by rw[Zg];exact .mkEmp rfl rfl rfl rfl rfl) (fun _ g hg=>by simp at hg),Xs hid,fun id' hi=>?_,rfl,rfl,fun id' e=>Zv e,fun g hg=>?_⟩,.sle (by rw[Zg];rfl)⟩
  ·by_cases e:id'=id
   ·exact .inr e
   ·rw[Zy e] at hi;exact .inl hi
  ·rcases Zke (fun id' e=>Zy e) hg with h1|⟨_,o,c,sz,h1⟩
   ·exact .inl h1
   ·rw[Zg] at h1;cases h1
 ·refine⟨upd ρ id (some (.blk g o c (P.cellsOf e))),upd F id (g::fp'),⟨h.add hs hep (Xs hid) (fun id' e=>Zy e) (by
   rw[Zg]
   exact .mkRow rfl rfl rfl hg hl hm hun hz rfl (fun _=>hO) (fun hf=>by cases hf)) (fun _ g' hg'=>htop g' (ht g' hg')),Xs hid,fun id' hi=>?_,rfl,rfl,fun id' e=>Zv e,fun g' hg'=>?_⟩,?_⟩
  ·by_cases e:id'=id
   ·exact .inr e
   ·rw[Zy e] at hi;exact .inl hi
  ·rcases Zke (fun id' e=>Zy e) hg' with h1|⟨_,o',c',sz,h1⟩
   ·exact .inl h1
   ·rw[Zg] at h1
    injection h1 with h1
    injection h1 with h1
    subst h1
    exact .inr (ht _ rfl)
  ·have:=En.sl (w:=w) (ok:=ok) (off:=0) (len:=rows.length) (Zg ρ id (some (.blk g o c (P.cellsOf e)))) (by omega)
   simpa using this
theorem Zsb {fp:List Nat} (h:RelG P B io w tmps s ρ F (fp++fl) ok) {u:Value} {x y:V} (hg:Giv P w ok top u x fp) (htop:∀g,top g→io g∨B≤g) {id:Id} (hid:ρ id=none) (hs:s.heap id=none) (hep:id.1≤s.ep) (ht:s.takeCell id x=some (y,s')):
  ∃ρ' F',Took P B io w tmps s ρ fl ok top (fun id'=>id'=id) s' ρ' F'∧En w ok ρ' u y∧cellish y=true:=by
 cases hg with
 | lit hsc=>
  simp only[St.takeCell,Option.some.injEq,Prod.mk.injEq] at ht
  obtain⟨rfl,rfl⟩:=ht
  exact⟨ρ,F,(Took.refl h).mono (fun _ h=>h.elim),.lit hsc,rfl⟩
 | tr hr=>
  simp only[St.takeCell,Option.some.injEq,Prod.mk.injEq] at ht
  obtain⟨rfl,rfl⟩:=ht
  exact⟨ρ,F,(Took.refl h).mono (fun _ h=>h.elim),.tr hr,rfl⟩
 | own hO htp=>
  simp only[St.takeCell,Option.some.injEq,Prod.mk.injEq] at ht
  obtain⟨rfl,rfl⟩:=ht
  obtain⟨ρ',F',h1,h2⟩:=Z9o h hO htp htop hid hs hep
  exact⟨ρ',F',h1,h2,rfl⟩
theorem Zk5 {e:Nat}:∀(xs:List V) {us:List Value} {k:Nat} {fp fl:List Nat} {s s':St} {ρ:Rho} {F:Id→List Nat} {ys:List V},RelG P B io w tmps s ρ F (fp++fl) ok→GivL P w ok top us xs fp→(∀g,top g→io g∨B≤g)→e≤s.ep→
  (∀j,k≤j→j < k+xs.length→ρ (e,j)=none∧s.heap (e,j)=none)→s.takeCells e k xs=some (ys,s')→
  ∃ρ' F',Took P B io w tmps s ρ fl ok top (fun id=>id.1=e∧k≤id.2∧id.2 < k+xs.length) s' ρ' F'∧us.length=ys.length∧(∀y∈ys,cellish y=true)∧(∀(j:Nat) (u:Value) (y:V),us[j]?=some u→ys[j]?=some y→En w ok ρ' u y):=by
 intro xs
 induction xs with
 | nil=>
  intro us k fp fl s s' ρ F ys h hg htop hep hnew ht
  cases hg
  simp only[St.takeCells,Option.some.injEq,Prod.mk.injEq] at ht
  obtain⟨rfl,rfl⟩:=ht
  exact⟨ρ,F,(Took.refl h).mono (fun _ h=>h.elim),rfl,by simp,fun j u y hu=>by simp at hu⟩
 | cons x xs ih=>
  intro us k fp fl s s' ρ F ys h hg htop hep hnew ht
  cases hg with
  | @cons u _ us _ f1 f2 hg hgs=>
   simp only[St.takeCells] at ht
   obtain⟨⟨y,s1⟩,h1,ht⟩:=Option.bind_eq_some_iff.1 ht
   obtain⟨⟨zs,s2⟩,h2,ht⟩:=Option.map_eq_some_iff.1 ht
   simp only[Prod.mk.injEq] at ht
   obtain⟨rfl,rfl⟩:=ht
   simp only at h2
   obtain⟨hn1,hn2⟩:=hnew k (Nat.le_refl _) (by simp)
   obtain⟨ρ1,F1,t1,e1,c1⟩:=Zsb (fl:=f2++fl) (by rw[←List.append_assoc];exact h) hg htop hn1 hn2 hep h1
   obtain⟨ρ2,F2,t2,l2,c2,e2⟩:=ih t1.rel hgs htop (by rw[t1.ep];exact hep) (fun j hj hlt=>by
    obtain⟨a1,a2⟩:=hnew j (by omega) (by simp only[List.length_cons];omega)
    have hne:¬((e,j):Id)=(e,k):=fun hh=>by injection hh with _ hh;omega
    refine⟨?_,by rw[t1.heap _ hne];exact a2⟩
    cases hr:ρ1 (e,j) with
    | none=>rfl
    | some i=>
     rcases t1.dom (e,j) (by rw[hr];rfl) with hh|hh
     ·rw[a1] at hh;cases hh
     ·exact absurd hh hne) h2
   refine⟨ρ2,F2,(t1.trans t2).mono (fun id hid=>?_),by simp[l2],fun z hz=>?_,fun j u' z hu hz=>?_⟩
   ·rcases hid with rfl|⟨a,b,c⟩
    ·exact⟨rfl,Nat.le_refl _,by simp⟩
    ·exact⟨a,by omega,by simp only[List.length_cons];omega⟩
   ·rcases List.mem_cons.1 hz with rfl|hz
    ·exact c1
    ·exact c2 z hz
   ·cases j with
    | zero=>
     have a1:u=u':=by simpa using hu
     have a2:y=z:=by simpa using hz
     subst a1;subst a2
     exact e1.ext (fun _ h=>h) t2.ext
    | succ j=>exact e2 j u' z (by simpa using hu) (by simpa using hz)
theorem Zn6 {fp:List Nat} (h:RelG P B io w tmps s ρ F (fp++fl) ok) {u:Value} {x y:V} (hg:GivO P w ok top u x fp) (htop:∀g,top g→io g∨B≤g) {e k:Nat} (hep:e≤s.ep) (hnew:∀j,k≤j→j < k+64→ρ (e,j)=none∧s.heap (e,j)=none) (ht:s.takeOne e k x=some (y,s')):
  ∃ρ' F',Took P B io w tmps s ρ fl ok top (fun id=>id.1=e∧k≤id.2∧id.2 < k+64) s' ρ' F'∧En w ok ρ' u y:=by
 have one:∀{x},Giv P w ok top u x fp→s.takeCell (e,k) x=some (y,s')→∃ρ' F',Took P B io w tmps s ρ fl ok top (fun id=>id.1=e∧k≤id.2∧id.2 < k+64) s' ρ' F'∧En w ok ρ' u y:=by
  intro x hg ht
  obtain⟨a1,a2⟩:=hnew k (Nat.le_refl _) (by omega)
  obtain⟨ρ',F',h1,h2,_⟩:=Zsb h hg htop a1 a2 hep ht
  exact⟨ρ',F',h1.mono (fun id hid=>by subst hid;exact⟨rfl,Nat.le_refl _,by omega⟩),h2⟩
 unfold St.takeOne at ht
 split at ht
 ·rename_i cs
  split at ht
  ·rename_i hl
   obtain⟨⟨ys,s1⟩,h1,ht⟩:=Option.map_eq_some_iff.1 ht
   simp only[Prod.mk.injEq] at ht
   obtain⟨rfl,rfl⟩:=ht
   obtain⟨us,rfl,hgl⟩:=hg
   obtain⟨ρ',F',t,l,c,en⟩:=Zk5 cs h hgl htop hep (fun j hj hlt=>hnew j hj (by omega)) h1
   exact⟨ρ',F',t.mono (fun id hid=>⟨hid.1,hid.2.1,by omega⟩),.agg (by simpa using l) c (fun j v z hv hz=>en j v z (by simpa using hv) hz)⟩
  ·cases ht
 ·rename_i cs
  split at ht
  ·rename_i hl
   obtain⟨⟨ys,s1⟩,h1,ht⟩:=Option.map_eq_some_iff.1 ht
   simp only[Prod.mk.injEq] at ht
   obtain⟨rfl,rfl⟩:=ht
   obtain⟨g,cur,e',fp',rfl,hgc,hgl,rfl,htg⟩:=hg
   have hperm:((fp'++([g]++fl)):List Nat).Perm (g::fp'++fl):=by
    exact List.perm_middle
   obtain⟨ρ1,F1,t,l,c,en⟩:=Zk5 cs (fl:=[g]++fl) (h.perm hperm) hgl htop hep (fun j hj hlt=>hnew j hj (by omega)) h1
   obtain⟨n1,n2⟩:=hnew (k+63) (by omega) (by omega)
   have hn1:ρ1 (e,k+63)=none:=by
    cases hr:ρ1 (e,k+63) with
    | none=>rfl
    | some i=>
     rcases t.dom _ (by rw[hr];rfl) with hh|⟨_,_,hh⟩
     ·rw[n1] at hh;cases hh
     ·simp only at hh;omega
   have hn2:s1.heap (e,k+63)=none:=by rw[t.heap _ (fun hh=>by have:=hh.2.2;simp only at this;omega)];exact n2
   have hadd:=t.rel.add (fp:=[g]) (fl:=fl) (id:=(e,k+63)) (ρ':=upd ρ1 (e,k+63) (some (.blk g 0 1 ys.length))) (b:=⟨true,true,true,0,[ys]⟩) hn2 (by rw[t.ep];exact hep) (Xs hn1) (fun id' e=>Zy e) (by
    rw[Zg]
    exact .mkBox rfl rfl rfl hgc rfl (by simpa using l) (fun j v z hv hz=>(en j v z (by simpa using hv) hz).ext (fun _ h=>h) (Xs hn1)) c rfl) (fun _ g' hg'=>by
    have:g=g':=by simpa using hg'
    subst this;exact htop g htg)
   refine⟨_,_,⟨hadd,fun id i hi=>Xs hn1 id i (t.ext id i hi),fun id hi=>?_,t.env,t.ep,fun id hid=>?_,fun g' hg'=>?_⟩,?_⟩
   ·by_cases e1:id=(e,k+63)
    ·subst e1;exact .inr ⟨rfl,by simp,by simp⟩
    ·rw[Zy e1] at hi
     rcases t.dom id hi with hh|hh
     ·exact .inl hh
     ·exact .inr ⟨hh.1,hh.2.1,by omega⟩
   ·rw[Zv (fun hh=>hid (by subst hh;exact⟨rfl,by simp,by simp⟩))]
    exact t.heap id (fun hh=>hid ⟨hh.1,hh.2.1,by omega⟩)
   ·rcases Zke (fun id' e=>Zy e) hg' with h3|⟨_,o,c',sz,h3⟩
    ·exact t.tops g' h3
    ·rw[Zg] at h3
     injection h3 with h3
     injection h3 with h3
     subst h3;exact .inr htg
   ·have:=En.ptr (w:=w) (ok:=ok) (i:=0) (off:=0) (Zg ρ1 (e,k+63) (some (.blk g 0 1 ys.length)))
    simpa using this
  ·cases ht
 ·rename_i h1 h2
  exact one (by
   cases x with
   | agg cs=>exact absurd rfl (h1 cs)
   | obx cs=>exact absurd rfl (h2 cs)
   | _=>exact hg) ht
end
def Wd (s s':St) (ρ:Rho) (F:Id→List Nat) (g:Nat):Prop:=∃id b,s.heap id=some b∧b.own=true∧s'.heap id=none∧(F id).head?=some g∧Zkg (ρ id)
structure Less (s s':St):Prop where
 env:s'.env=s.env
 ep:s'.ep=s.ep
 sub:∀id b,s'.heap id=some b→s.heap id=some b
theorem Less.refl (s:St):Less s s:=⟨rfl,rfl,fun _ _ h=>h⟩
theorem Less.trans {a b c:St} (h:Less a b) (k:Less b c):Less a c:=⟨k.env.trans h.env,k.ep.trans h.ep,fun id x hx=>h.sub id x (k.sub id x hx)⟩
theorem Less.none {a b:St} (h:Less a b) {id:Id} (hn:a.heap id=none):b.heap id=none:=by
 cases hb:b.heap id with
 | none=>rfl
 | some x=>rw[h.sub id x hb] at hn;cases hn
theorem Less.kill (s:St) (id:Id):Less s (s.kill id):=⟨rfl,rfl,fun _ _ h=>Qj h⟩
theorem Wd.left {a b c:St} {ρ:Rho} {F:Id→List Nat} {g:Nat} (h:Wd a b ρ F g) (k:Less b c):Wd a c ρ F g:=by
 obtain⟨id,x,h1,h2,h3,h4⟩:=h
 exact⟨id,x,h1,h2,k.none h3,h4⟩
theorem Wd.right {a b c:St} {ρ:Rho} {F:Id→List Nat} {g:Nat} (h:Wd b c ρ F g) (k:Less a b):Wd a c ρ F g:=by
 obtain⟨id,x,h1,h2,h3,h4⟩:=h
 exact⟨id,x,k.sub id x h1,h2,h3,h4⟩
theorem Giv.top {P:Program} {w:World} {ok top top':Nat→Prop} {v:Value} {x:V} {fp:List Nat} (h:Giv P w ok top v x fp) (ht:∀g,top g→top' g):Giv P w ok top' v x fp:=by
 cases h with
 | lit h=>exact .lit h
 | tr h=>exact .tr h
 | own h k=>exact .own h fun g hg=>ht g (k g hg)
theorem GivL.top {P:Program} {w:World} {ok top top':Nat→Prop} {v:List Value} {x:List V} {fp:List Nat} (h:GivL P w ok top v x fp) (ht:∀g,top g→top' g):GivL P w ok top' v x fp:=by
 induction h with
 | nil=>exact .nil
 | cons h _ ih=>exact .cons (h.top ht) ih
theorem GivO.top {P:Program} {w:World} {ok top top':Nat→Prop} {v:Value} {x:V} {fp:List Nat} (h:GivO P w ok top v x fp) (ht:∀g,top g→top' g):GivO P w ok top' v x fp:=by
 cases x
 case agg cs=>obtain⟨us,h1,h2⟩:=h;exact⟨us,h1,h2.top ht⟩
 case obx cs=>obtain⟨g,cur,e,fp',h1,h2,h3,h4,h5⟩:=h;exact⟨g,cur,e,fp',h1,h2,h3.top ht,h4,ht g h5⟩
 all_goals exact Giv.top h ht
section
variable {P:Program} {B:Nat} {io:Nat→Prop} {w w':World} {tmps:Array Value} {s s' s1:St} {ρ ρ':Rho} {F F':Id→List Nat} {fl fl':List Nat} {ok ok' top:Nat→Prop}
theorem Zkl (h:Less s s') {g:Nat} (hg:okS s ρ w g):okS s' ρ w g:=
 ⟨fun⟨id,b,o,c,sz,h1,h2,h3⟩=>hg.1 ⟨id,b,o,c,sz,h.sub id b h1,h2,h3⟩,hg.2⟩
theorem Rel.head_tops (h:Rel P B io w tmps s ρ F fl) {id:Id} {b:Blk} {g:Nat} (hb:s.heap id=some b) (ho:b.own=true) (hg:(F id).head?=some g):tops s ρ g:=by
 have hB:=h.heap id b hb
 unfold BlkR at hB
 split at hB
 ·obtain⟨_,g',cur,e,row,hi,_,_,_,_,_,hF⟩:=hB
  rw[hF] at hg
  have:g'=g:=by simpa using hg
  subst this
  exact⟨id,b,_,_,_,hb,ho,hi⟩
 ·rcases hB with⟨_,_,hF⟩|⟨g',o',c',cur,hi,_,_,_,_,_,fp,hF,_⟩
  ·rw[hF] at hg;simp at hg
  ·rw[hF] at hg
   have:g'=g:=by simpa using hg
   subst this
   exact⟨id,b,_,_,_,hb,ho,hi⟩
 ·rename_i h2;rw[ho] at h2;cases h2
theorem Zm5 (h:Rel P B io w tmps s ρ F fl) {u:Value} {x y:V} {t:Option TypeId} (hu:En w ok ρ u x) (hok:∀g,ok g→okS s ρ w g) (hg:s.giveCell t x=some (y,s')):
  ∃fp,Rel P B io w tmps s' ρ F (fp++fl)∧Giv P w ok (Wd s s' ρ F) u y fp∧Less s s':=by
 unfold St.giveCell at hg
 split at hg
 ·obtain⟨e,_,he⟩:=Option.map_eq_some_iff.1 hg
  simp only[Prod.mk.injEq] at he
  obtain⟨rfl,rfl⟩:=he
  cases hu
  exact⟨[],h,.own (.inl ⟨none,rfl,rfl,rfl⟩) (fun g hg=>by simp at hg),.refl _⟩
 ·simp only[Option.some.injEq,Prod.mk.injEq] at hg
  obtain⟨rfl,rfl⟩:=hg
  cases hu with|lit hs=>exact⟨[],h,.lit hs,.refl _⟩
 ·simp only[Option.some.injEq,Prod.mk.injEq] at hg
  obtain⟨rfl,rfl⟩:=hg
  cases hu with|tr hr=>exact⟨[],h,.tr hr,.refl _⟩
 ·simp only[Option.some.injEq,Prod.mk.injEq] at hg
  obtain⟨rfl,rfl⟩:=hg
  cases hu with|vw hr=>exact⟨[],h,.tr hr,.refl _⟩
 ·rename_i id off len
  obtain⟨⟨e,rows⟩,hw,he⟩:=Option.map_eq_some_iff.1 hg
  simp only[Prod.mk.injEq] at he
  obtain⟨rfl,rfl⟩:=he
  obtain⟨fp,hR,hO,hh⟩:=h.whole2 (hu.ext hok (fun _ _ h=>h)) hw
  refine⟨fp,hR,.own hO (fun g hg=>?_),.kill s id⟩
  unfold St.whole at hw
  obtain⟨b,hb,hw⟩:=Option.bind_eq_some_iff.1 hw
  split at hw
  ·rename_i hc
   exact⟨id,b,hb,hc.2.1,Y6,(hh g hg).1,(hh g hg).2⟩
  ·cases hw
 ·cases hg
theorem Zp1:∀(xs:List V) {us:List Value} {ts:List (Option TypeId)} {s s':St} {fl:List Nat} {ys:List V},Rel P B io w tmps s ρ F fl→us.length=xs.length→(∀(j:Nat) (u:Value) (x:V),us[j]?=some u→xs[j]?=some x→En w ok ρ u x)→
  (∀g,ok g→okS s ρ w g)→s.giveCells ts xs=some (ys,s')→∃fp,Rel P B io w tmps s' ρ F (fp++fl)∧GivL P w ok (Wd s s' ρ F) us ys fp∧Less s s'∧ys.length=xs.length:=by
 intro xs
 induction xs with
 | nil=>
  intro us ts s s' fl ys h hl hen hok hg
  have:us=[]:=List.eq_nil_of_length_eq_zero (by simpa using hl)
  subst this
  simp only[St.giveCells,Option.some.injEq,Prod.mk.injEq] at hg
  obtain⟨rfl,rfl⟩:=hg
  exact⟨[],h,.nil,.refl _,rfl⟩
 | cons x xs ih=>
  intro us ts s s' fl ys h hl hen hok hg
  match us,hl with
  | u::us,hl=>
   simp only[St.giveCells] at hg
   obtain⟨⟨y,s1⟩,h1,hg⟩:=Option.bind_eq_some_iff.1 hg
   obtain⟨⟨zs,s2⟩,h2,hg⟩:=Option.map_eq_some_iff.1 hg
   simp only[Prod.mk.injEq] at hg
   obtain⟨rfl,rfl⟩:=hg
   simp only at h2
   obtain⟨f1,r1,g1,l1⟩:=Zm5 h (hen 0 u x rfl rfl) hok h1
   obtain⟨f2,r2,g2,l2,l3⟩:=ih r1 (by simpa using hl) (fun j v z hv hz=>hen (j+1) v z (by simpa using hv) (by simpa using hz)) (fun g hg=>Zkl l1 (hok g hg)) h2
   refine⟨f1++f2,r2.perm ?_,.cons (g1.top fun g hg=>hg.left l2) (g2.top fun g hg=>hg.right l1),l1.trans l2,by simp[l3]⟩
   rw[List.append_assoc]
   exact (List.perm_append_comm_assoc _ _ _)
theorem Zn7 (h:Rel P B io w tmps s ρ F fl) {ts:List (Option TypeId)} {u:Value} {x y:V} (hu:En w ok ρ u x) (hok:∀g,ok g→okS s ρ w g) (hg:s.giveArg ts x=some (y,s')):
  ∃fp,Rel P B io w tmps s' ρ F (fp++fl)∧GivO P w ok (Wd s s' ρ F) u y fp∧Less s s':=by
 unfold St.giveArg at hg
 split at hg
 ·rename_i cs
  obtain⟨⟨ys,s1⟩,h1,he⟩:=Option.map_eq_some_iff.1 hg
  simp only[Prod.mk.injEq] at he
  obtain⟨rfl,rfl⟩:=he
  cases hu with
  | @agg vs _ hl hc hr=>
   obtain⟨fp,a,b,c,_⟩:=Zp1 cs (us:=vs.toList) h (by simpa using hl) (fun j v z hv hz=>hr j v z (by simpa using hv) hz) hok h1
   exact⟨fp,a,⟨vs,rfl,b⟩,c⟩
 ·rename_i hne
  obtain⟨fp,a,b,c⟩:=Zm5 h hu hok hg
  refine⟨fp,a,?_,c⟩
  cases b with
  | lit h=>exact .lit h
  | tr h=>exact .tr h
  | own h k=>exact .own h k
theorem Zog (h:Rel P B io w tmps s ρ F fl) {ts:List (Option TypeId)} {u:Value} {id:Id} {ys:List V} (hu:En w ok ρ u (.ptr id 0 0)) (hok:∀g,ok g→okS s ρ w g) (hbx:∀b row,s.heap id=some b→b.rows=[row]→b.box=true→∀(j:Nat) (cur:Array Value) (e:TypeId) (g o c sz:Nat) (v:Value) (x:V),ρ id=some (.blk g o c sz)→w.heap[g]?=some (.cells cur e (0,0))→cur[j]?=some v→row[j]?=some x→En w ok ρ v x)
  (hg:s.giveBox ts id=some (ys,s')):∃fp,Rel P B io w tmps s' ρ F (fp++fl)∧GivO P w ok (Wd s s' ρ F) u (.obx ys) fp∧Less s s'∧∃g,ρ id=some (.blk g 0 1 ys.length):=by
 unfold St.giveBox at hg
 obtain⟨b,hb,hg⟩:=Option.bind_eq_some_iff.1 hg
 split at hg
 ·rename_i hc
  obtain⟨hbox,hown⟩:=hc
  split at hg
  ·rename_i row hr
   have hB:=h.heap id b hb
   unfold BlkR at hB
   rw[hbox] at hB
   obtain⟨_,g,cur,e,row',hi,hgc,hr',hs,he,hce,hF⟩:=hB
   rw[hr] at hr'
   injection hr' with hr' _
   subst hr'
   have hfl:=h.float hb hown
   obtain⟨fp,a,b',c,d⟩:=Zp1 row (us:=cur.toList) hfl (by simpa using hs) (fun j v z hv hz=>hbx b row hb hr hbox j cur e g _ _ _ v z hi hgc (by simpa using hv) hz) (fun g hg=>Zkl (.kill s id) (hok g hg)) hg
   rw[hF] at a
   refine⟨g::fp,a.perm (List.perm_middle (l₁:=fp) (l₂:=fl)).symm,?_,(Less.kill s id).trans c,g,by rw[d];exact hi⟩
   generalize hq:(V.ptr id 0 0)=q at hu
   cases hu<;>cases hq
   rename_i g' o' c' sz hρ
   rw[hi] at hρ
   injection hρ with hρ
   injection hρ with h1 h2 h3 h4
   subst h1;subst h2
   refine⟨g,cur,e,fp,by simp,hgc,b'.top (fun g hg=>hg.right (.kill s id)),rfl,⟨id,b,hb,hown,c.none Y6,by rw[hF];rfl,g,0,1,_,hi,Nat.one_pos⟩⟩
  ·cases hg
 ·cases hg
end
def ArgR (P:Program) (w:World) (ok top:Nat→Prop) (m:Mode) (u:Value) (x:V) (fp:List Nat):Prop:=
 match m with
 | .rd=>(∀ρ,En w ok ρ u x)∧fp=[]
 | .io=>∃cs,x=.agg cs∧GivO P w ok top u (.obx cs) fp
 | .mv|.iov=>(∀cs,x≠.obx cs)∧GivO P w ok top u x fp
inductive ArgsR (P:Program) (w:World) (ok top:Nat→Prop):List Mode→List Value→List V→List Nat→Prop
 | nil {ms:List Mode}:ArgsR P w ok top ms [] [] []
 | cons {ms:List Mode} {u:Value} {us:List Value} {x:V} {xs:List V} {f1 f2:List Nat} (h:ArgR P w ok top (ms.headD .rd) u x f1) (hs:ArgsR P w ok top ms.tail us xs f2):ArgsR P w ok top ms (u::us) (x::xs) (f1++f2)
def ArgP (P:Program) (w:World) (ok top:Nat→Prop) (ρ:Rho) (m:Mode) (u:Value) (x:V) (fp:List Nat):Prop:=
 match m with
 | .rd=>En w ok ρ u x∧fp=[]
 | .io=>∃cs,x=.agg cs∧GivO P w ok top u (.obx cs) fp
 | .mv|.iov=>(∀cs,x≠.obx cs)∧GivO P w ok top u x fp
inductive ArgsP (P:Program) (w:World) (ok top:Nat→Prop) (ρ:Rho):List Mode→List Value→List V→List Nat→Prop
 | nil {ms:List Mode}:ArgsP P w ok top ρ ms [] [] []
 | cons {ms:List Mode} {u:Value} {us:List Value} {x:V} {xs:List V} {f1 f2:List Nat} (h:ArgP P w ok top ρ (ms.headD .rd) u x f1) (hs:ArgsP P w ok top ρ ms.tail us xs f2):ArgsP P w ok top ρ ms (u::us) (x::xs) (f1++f2)
theorem Giv.okm {P:Program} {w:World} {ok ok' top:Nat→Prop} {v:Value} {x:V} {fp:List Nat} (h:Giv P w ok top v x fp) (ht:∀g,ok g→ok' g):Giv P w ok' top v x fp:=by
 cases h with
 | lit h=>exact .lit h
 | tr h=>exact .tr (Rd.okm h ht)
 | own h k=>exact .own h k
theorem GivL.okm {P:Program} {w:World} {ok ok' top:Nat→Prop} {v:List Value} {x:List V} {fp:List Nat} (h:GivL P w ok top v x fp) (ht:∀g,ok g→ok' g):GivL P w ok' top v x fp:=by
 induction h with
 | nil=>exact .nil
 | cons h _ ih=>exact .cons (h.okm ht) ih
theorem GivO.okm {P:Program} {w:World} {ok ok' top:Nat→Prop} {v:Value} {x:V} {fp:List Nat} (h:GivO P w ok top v x fp) (ht:∀g,ok g→ok' g):GivO P w ok' top v x fp:=by
 cases x
 case agg cs=>obtain⟨us,h1,h2⟩:=h;exact⟨us,h1,h2.okm ht⟩
 case obx cs=>obtain⟨g,cur,e,fp',h1,h2,h3,h4,h5⟩:=h;exact⟨g,cur,e,fp',h1,h2,h3.okm ht,h4,h5⟩
 all_goals exact Giv.okm h ht
theorem ArgP.top {P:Program} {w:World} {ok top top':Nat→Prop} {ρ:Rho} {m:Mode} {u:Value} {x:V} {fp:List Nat} (h:ArgP P w ok top ρ m u x fp) (ht:∀g,top g→top' g):ArgP P w ok top' ρ m u x fp:=by
 cases m
 ·exact h
 ·obtain⟨cs,h1,h2⟩:=h;exact⟨cs,h1,h2.top ht⟩
 ·exact⟨h.1,h.2.top ht⟩
 ·exact⟨h.1,h.2.top ht⟩
theorem ArgsP.top {P:Program} {w:World} {ok top top':Nat→Prop} {ρ:Rho} {ms:List Mode} {us:List Value} {xs:List V} {fp:List Nat} (h:ArgsP P w ok top ρ ms us xs fp) (ht:∀g,top g→top' g):ArgsP P w ok top' ρ ms us xs fp:=by
 induction h with
 | nil=>exact .nil
 | cons h _ ih=>exact .cons (h.top ht) ih
section
variable {P:Program} {B:Nat} {io:Nat→Prop} {w w':World} {tmps:Array Value} {s s' s1:St} {ρ ρ':Rho} {F F':Id→List Nat} {fl fl':List Nat} {ok ok' top:Nat→Prop}
theorem Rel.boxCellsEn (h:Rel P B io w tmps s ρ F fl) {id:Id}:∀b row,s.heap id=some b→b.rows=[row]→b.box=true→∀(j:Nat) (cur:Array Value) (e:TypeId) (g o c sz:Nat) (v:Value) (x:V),ρ id=some (.blk g o c sz)→w.heap[g]?=some (.cells cur e (0,0))→cur[j]?=some v→row[j]?=some x→En w (okS s ρ w) ρ v x:=by
 intro b row hb hr hbox j cur e g o c sz v x hρ hg hv hx
 have hB:=h.heap id b hb
 unfold BlkR at hB
 rw[hbox] at hB
 obtain⟨_,g',cur',e',row',hi,hgc,hr',hs,he,hce,hF⟩:=hB
 rw[hr] at hr'
 injection hr' with hr' _
 subst hr'
 rw[hρ] at hi
 injection hi with hi
 injection hi with h1
 subst h1
 rw[hg] at hgc
 injection hgc with hgc
 injection hgc with h1
 subst h1
 exact he j v x hv hx
theorem Zrr {ts:List (Option TypeId)} {x y:V} (h1:s.giveArg ts x=some (y,s')):∀cs,y≠.obx cs:=fun cs e=>by
 subst e
 unfold St.giveArg at h1
 split at h1
 ·obtain⟨_,_,he⟩:=Option.map_eq_some_iff.1 h1;simp at he
 ·unfold St.giveCell at h1
  split at h1<;>simp at h1
theorem En.thin1 {u:Value} {x:V} (h:En w ok ρ u x):En w ok ρ u (Ev.thin1 x):=by
 unfold Ev.thin1
 split
 ·cases h with
  | sl=>exact .tr .emp
  | sle=>exact .tr .emp
 ·exact h
theorem Zxr {x:V} (h:cellish x=true):cellish (thin1 x)=true:=by
 unfold thin1
 split
 ·rfl
 ·exact h
theorem En.thin {u:Value} {x:V} (h:En w ok ρ u x):En w ok ρ u (Ev.thin x):=by
 unfold Ev.thin
 split
 ·rename_i cs
  cases h with
  | agg hl hc hr=>
   refine .agg (by simpa using hl) (fun y hy=>?_) (fun k v y hv hy=>?_)
   ·obtain⟨z,hz,rfl⟩:=List.mem_map.1 hy
    exact Zxr (hc z hz)
   ·rw[List.getElem?_map] at hy
    obtain⟨z,hz,rfl⟩:=Option.map_eq_some_iff.1 hy
    exact (hr k v z hv hz).thin1
 ·exact h.thin1
theorem Z8w (h0:Rel P B io w tmps s ρ F fl):∀(xs:List V) {us:List Value} {ts:List TypeId} {ms:List Mode} {s1 s':St} {fl1:List Nat} {ys:List V},Rel P B io w tmps s1 ρ F fl1→Less s s1→us.length=xs.length→
  (∀(j:Nat) (u:Value) (x:V),us[j]?=some u→xs[j]?=some x→En w (okS s ρ w) ρ u x)→s1.gives P ts ms xs=some (ys,s')→∃fp,Rel P B io w tmps s' ρ F (fp++fl1)∧ArgsP P w (okS s ρ w) (Wd s1 s' ρ F) ρ ms us ys fp∧Less s1 s':=by
 intro xs
 induction xs with
 | nil=>
  intro us ts ms s1 s' fl1 ys h hless hl hen hg
  have:us=[]:=List.eq_nil_of_length_eq_zero (by simpa using hl)
  subst this
  simp only[St.gives,Option.some.injEq,Prod.mk.injEq] at hg
  obtain⟨rfl,rfl⟩:=hg
  exact⟨[],h,.nil,.refl _⟩
 | cons x xs ih=>
  intro us ts ms s1 s' fl1 ys h hless hl hen hg
  match us,hl with
  | u::us,hl=>
   simp only[St.gives] at hg
   obtain⟨⟨y,s2⟩,h1,hg⟩:=Option.bind_eq_some_iff.1 hg
   obtain⟨⟨zs,s3⟩,h2,hg⟩:=Option.map_eq_some_iff.1 hg
   simp only[Prod.mk.injEq] at hg
   obtain⟨rfl,rfl⟩:=hg
   simp only at h2
   have hu:=hen 0 u x rfl rfl
   have hok:∀g,okS s ρ w g→okS s1 ρ w g:=fun g hg=>Zkl hless hg
   have one:∃fp,Rel P B io w tmps s2 ρ F (fp++fl1)∧ArgP P w (okS s ρ w) (Wd s1 s2 ρ F) ρ (ms.headD .rd) u y fp∧Less s1 s2:=by
    unfold St.give at h1
    split at h1
    ·rename_i hm
     simp only[Option.some.injEq,Prod.mk.injEq] at h1
     obtain⟨rfl,rfl⟩:=h1
     rw[hm]
     exact⟨[],h,⟨hu,rfl⟩,.refl _⟩
    ·rename_i hm
     rw[hm]
     split at h1
     ·rename_i bid _
      obtain⟨⟨cs,s4⟩,h3,he⟩:=Option.map_eq_some_iff.1 h1
      simp only[Prod.mk.injEq] at he
      obtain⟨rfl,rfl⟩:=he
      obtain⟨fp,a,b,c,_⟩:=Zog h hu hok (fun b row hb=>h0.boxCellsEn b row (hless.sub bid b hb)) h3
      exact⟨fp,a,⟨cs,rfl,b⟩,c⟩
     ·cases h1
    ·rename_i hm
     rw[hm]
     obtain⟨fp,a,b,c⟩:=Zn7 h hu hok h1
     exact⟨fp,a,⟨Zrr h1,b⟩,c⟩
    ·rename_i hm
     rw[hm]
     obtain⟨fp,a,b,c⟩:=Zn7 h hu.thin hok h1
     exact⟨fp,a,⟨Zrr h1,b⟩,c⟩
   obtain⟨f1,r1,a1,l1⟩:=one
   obtain⟨f2,r2,a2,l2⟩:=ih r1 (hless.trans l1) (by simpa using hl) (fun j v z hv hz=>hen (j+1) v z (by simpa using hv) (by simpa using hz)) h2
   refine⟨f1++f2,r2.perm ?_,.cons (a1.top fun g hg=>hg.left l2) (a2.top fun g hg=>hg.right l1),l1.trans l2⟩
   rw[List.append_assoc]
   exact (List.perm_append_comm_assoc _ _ _)
def Zjq (s1:St) (ρ:Rho) (ok:Nat→Prop):Prop:=∀id b g o c sz,s1.heap id=some b→b.own=true→ρ id=some (.blk g o c sz)→ok g
theorem Zw0 (h:Rel P B io w tmps s ρ F fl) (hl:Less s s1) {u:Value} {x y:V} (hu:En w (okS s ρ w) ρ u x) (hok:∀g,okS s ρ w g→ok' g) (hp:Zii x=true∨Zjq s1 ρ ok') (hr:s1.rdCell x=some y):Rd w ok' u y:=by
 unfold St.rdCell at hr
 split at hr
 ·simp only[Option.some.injEq] at hr;subst hr;cases hu;exact .emp
 ·simp only[Option.some.injEq] at hr;subst hr;cases hu with|lit h=>exact .lit h
 ·simp only[Option.some.injEq] at hr;subst hr;cases hu with|tr h=>exact h.okm hok
 ·simp only[Option.some.injEq] at hr;subst hr;cases hu with|vw h=>exact h.okm hok
 ·rename_i id off len
  obtain⟨rows,hrows,rfl⟩:=Option.map_eq_some_iff.1 hr
  have hal:Zjq s1 ρ ok':=by
   rcases hp with hp|hp
   ·simp[Zii] at hp
   ·exact hp
  have hrows':s.rowsOf (.sl id off len)=some rows:=by
   simp only[St.rowsOf] at hrows ⊢
   obtain⟨b,hb,hh⟩:=Option.bind_eq_some_iff.1 hrows
   rw[hl.sub id b hb];exact hh
  have halive:∃b,s1.heap id=some b:=by
   unfold St.rowsOf at hrows
   obtain⟨b,hb,_⟩:=Option.bind_eq_some_iff.1 hrows
   exact⟨b,hb⟩
  refine h.rowsOf hu hrows' hok (fun id' off' len' b g o c sz e hb ho hρ _ _=>?_)
  cases e
  obtain⟨b',hb'⟩:=halive
  have:=hl.sub id b' hb'
  rw[hb] at this
  injection this with this
  subst this
  exact hal id b g o c sz hb' ho hρ
 ·simp only[Option.some.injEq] at hr
  subst hr
  cases hu with
  | rp h=>
   cases h with
   | rp hg hu hr=>exact (Rd.rp hg hu hr).okm hok
 ·cases hr
theorem Zs3 (h:Rel P B io w tmps s ρ F fl) (hl:Less s s1) (hok:∀g,okS s ρ w g→ok' g):∀(xs:List V) {ys:List V} {us:Nat→Value},(∀(j:Nat) (x:V),xs[j]?=some x→En w (okS s ρ w) ρ (us j) x)→(xs.all Zii=true∨Zjq s1 ρ ok')→s1.rdCells xs=some ys→
  ys.length=xs.length∧∀(j:Nat) (y:V),ys[j]?=some y→Rd w ok' (us j) y:=by
 intro xs
 induction xs with
 | nil=>
  intro ys us _ _ hr
  simp only[St.rdCells,Option.some.injEq] at hr
  subst hr
  exact⟨rfl,fun j y hy=>by simp at hy⟩
 | cons x xs ih=>
  intro ys us hen hp hr
  simp only[St.rdCells] at hr
  obtain⟨y,h1,hr⟩:=Option.bind_eq_some_iff.1 hr
  obtain⟨zs,h2,rfl⟩:=Option.map_eq_some_iff.1 hr
  obtain⟨l,e⟩:=ih (us:=fun j=>us (j+1)) (fun j z hz=>hen (j+1) z (by simpa using hz)) (hp.imp (fun h=>by simp only[List.all_cons,Bool.and_eq_true] at h;exact h.2) (fun h=>h)) h2
  refine⟨by simp[l],fun j z hz=>?_⟩
  cases j with
  | zero=>
   have:y=z:=by simpa using hz
   subst this
   exact Zw0 h hl (hen 0 x rfl) hok (hp.imp (fun h=>by simp only[List.all_cons,Bool.and_eq_true] at h;exact h.1) (fun h=>h)) h1
  | succ j=>exact e j z (by simpa using hz)
theorem Zuw (h:Rel P B io w tmps s ρ F fl) (hl:Less s s1) {u:Value} {x y:V} (hu:En w (okS s ρ w) ρ u x) (hok:∀g,okS s ρ w g→ok' g) (hp:Zii x=true∨Zjq s1 ρ ok') (hr:s1.rdPlace x=some y):Rd w ok' u y:=by
 unfold St.rdPlace at hr
 split at hr
 ·rename_i id i off
  obtain⟨b,hb,hr⟩:=Option.bind_eq_some_iff.1 hr
  split at hr
  case isFalse=>cases hr
  rename_i hown
  obtain⟨row,hrow,hr⟩:=Option.bind_eq_some_iff.1 hr
  obtain⟨cs,hcs,rfl⟩:=Option.map_eq_some_iff.1 hr
  have hal:Zjq s1 ρ ok':=by
   rcases hp with hp|hp
   ·simp[Zii] at hp
   ·exact hp
  have hb0:=hl.sub id b hb
  generalize hq:V.ptr id i off=q at hu
  cases hu<;>cases hq
  rename_i g o c sz hρ
  have hcell:∀(j:Nat) (x:V),row[j]?=some x→∃u,w.cell? ⟨g,o+i*sz+j,none⟩=some u∧En w (okS s ρ w) ρ u x:=fun j x hx=>by
   obtain⟨u,h1,h2,h3⟩:=h.cell hb0 hρ hrow hx
   cases hbox:b.box with
   | true=>exact⟨u,h1,h2 hbox⟩
   | false=>exact⟨u,h1,(h3 hbox).en⟩
  have each:∀j,∃u:Value,∀x,row[j]?=some x→w.cell? ⟨g,o+i*sz+j,none⟩=some u∧En w (okS s ρ w) ρ u x:=fun j=>by
   cases hj:row[j]? with
   | none=>exact⟨undef,fun x hx=>by cases hx⟩
   | some z=>
    obtain⟨u,h1,h2⟩:=hcell j z hj
    exact⟨u,fun x hx=>by injection hx with hx;subst hx;exact⟨h1,h2⟩⟩
  obtain⟨uf,huf⟩:=Classical.axiomOfChoice each
  obtain⟨l,e⟩:=Zs3 h hl hok row (us:=uf) (fun j x hx=>(huf j x hx).2) (.inr hal) hcs
  refine .rp (u:=uf) (hal id b g o c sz hb hown hρ) (fun j y hy=>?_) (fun j y hy=>e j y hy)
  have hlt:=(List.getElem?_eq_some_iff.1 hy).1
  exact (huf j _ (List.getElem?_eq_getElem (by omega))).1
 ·exact Zw0 h hl hu hok hp hr
theorem Z1k (h:Rel P B io w tmps s ρ F fl) (hl:Less s s1) (hok:∀g,okS s ρ w g→ok' g):∀(xs:List V) {ys:List V} {us:Nat→Value},(∀(j:Nat) (x:V),xs[j]?=some x→En w (okS s ρ w) ρ (us j) x)→(xs.all Zii=true∨Zjq s1 ρ ok')→s1.rdPlaces xs=some ys→
  ys.length=xs.length∧∀(j:Nat) (y:V),ys[j]?=some y→Rd w ok' (us j) y:=by
 intro xs
 induction xs with
 | nil=>
  intro ys us _ _ hr
  simp only[St.rdPlaces,Option.some.injEq] at hr
  subst hr
  exact⟨rfl,fun j y hy=>by simp at hy⟩
 | cons x xs ih=>
  intro ys us hen hp hr
  simp only[St.rdPlaces] at hr
  obtain⟨y,h1,hr⟩:=Option.bind_eq_some_iff.1 hr
  obtain⟨zs,h2,rfl⟩:=Option.map_eq_some_iff.1 hr
  obtain⟨l,e⟩:=ih (us:=fun j=>us (j+1)) (fun j z hz=>hen (j+1) z (by simpa using hz)) (hp.imp (fun h=>by simp only[List.all_cons,Bool.and_eq_true] at h;exact h.2) (fun h=>h)) h2
  refine⟨by simp[l],fun j z hz=>?_⟩
  cases j with
  | zero=>
   have:y=z:=by simpa using hz
   subst this
   exact Zuw h hl (hen 0 x rfl) hok (hp.imp (fun h=>by simp only[List.all_cons,Bool.and_eq_true] at h;exact h.1) (fun h=>h)) h1
  | succ j=>exact e j z (by simpa using hz)
theorem Z92 (h:Rel P B io w tmps s ρ F fl) (hl:Less s s1) {u:Value} {x y:V} (hu:En w (okS s ρ w) ρ u x) (hok:∀g,okS s ρ w g→ok' g) (hp:plain x=true∨Zjq s1 ρ ok') (hr:s1.rdArg x=some y) (ρ':Rho):En w ok' ρ' u y:=by
 unfold St.rdArg at hr
 split at hr
 ·rename_i cs
  obtain⟨ys,h1,rfl⟩:=Option.map_eq_some_iff.1 hr
  cases hu with
  | @agg vs _ hlen hc hr=>
   obtain⟨l,e⟩:=Zs3 h hl hok cs (us:=fun j=>vs.getD j undef) (fun j x hx=>by
    have hlt:=(List.getElem?_eq_some_iff.1 hx).1
    have hv:vs[j]?=some vs[j]:=Array.getElem?_eq_getElem (by omega)
    rw[Array.getD_eq_getD_getElem?,hv]
    exact hr j _ x hv hx) hp h1
   refine .agg (by omega) (fun y hy=>?_) (fun j v y hv hy=>?_)
   ·obtain⟨j,hj⟩:=List.getElem?_of_mem hy
    exact (e j y hj).cellish
   ·have:=e j y hy
    rw[Array.getD_eq_getD_getElem?,hv] at this
    exact this.en
 ·rename_i f caps
  obtain⟨ys,h1,rfl⟩:=Option.map_eq_some_iff.1 hr
  cases hu with
  | @fn _ vs _ hlen hr=>
   obtain⟨l,e⟩:=Z1k h hl hok caps (us:=fun j=>vs.getD j undef) (fun j x hx=>by
    have hlt:=(List.getElem?_eq_some_iff.1 hx).1
    have hv:vs[j]?=some vs[j]:=Array.getElem?_eq_getElem (by omega)
    rw[Array.getD_eq_getD_getElem?,hv]
    exact hr j _ x hv hx) hp h1
   refine .fn (by omega) (fun j v y hv hy=>?_)
   have:=e j y hy
   rw[Array.getD_eq_getD_getElem?,hv] at this
   exact this.en
 ·rename_i h1 h2
  refine (Zuw h hl hu hok (hp.imp (fun hp=>?_) (fun h=>h)) hr).en
  cases x<;>first|exact hp|exact absurd rfl (h1 _)|exact absurd rfl (h2 _ _)
theorem Zyr (h:Rel P B io w tmps s ρ F fl) (hl:Less s s1) (hok:∀g,okS s ρ w g→ok' g):∀{ms:List Mode} {us:List Value} {xs ys:List V} {fp:List Nat},ArgsP P w (okS s ρ w) top ρ ms us xs fp→(Zcv ms xs=true∨Zjq s1 ρ ok')→s1.rdAll ms xs=some ys→ArgsR P w ok' top ms us ys fp:=by
 intro ms us xs ys fp ha
 induction ha generalizing ys with
 | nil=>
  intro _ hr
  simp only[St.rdAll,Option.some.injEq] at hr
  subst hr
  exact .nil
 | @cons ms u us x xs f1 f2 hx hxs ih=>
  intro hp hr
  simp only[St.rdAll] at hr
  obtain⟨y,h1,hr⟩:=Option.bind_eq_some_iff.1 hr
  obtain⟨zs,h2,rfl⟩:=Option.map_eq_some_iff.1 hr
  refine .cons ?_ (ih (hp.imp (fun h=>by simp only[Zcv,Bool.and_eq_true] at h;exact h.2) (fun h=>h)) h2)
  have hp1:=hp.imp (fun h=>by simp only[Zcv,Bool.and_eq_true] at h;exact h.1) (fun h:Zjq s1 ρ ok'=>h)
  cases hm:ms.headD .rd with
  | rd=>
   rw[hm] at hx h1 hp1
   simp only[St.rdArgM] at h1
   simp only[Zyk] at hp1
   exact⟨fun ρ'=>Z92 h hl hx.1 hok hp1 h1 ρ',hx.2⟩
  | io=>
   rw[hm] at hx h1
   simp only[St.rdArgM,Option.some.injEq] at h1
   subst h1
   obtain⟨cs,h1,h2⟩:=hx
   exact⟨cs,h1,h2.okm hok⟩
  | mv=>
   rw[hm] at hx h1
   simp only[St.rdArgM,Option.some.injEq] at h1
   subst h1
   exact⟨hx.1,hx.2.okm hok⟩
  | iov=>
   rw[hm] at hx h1
   simp only[St.rdArgM,Option.some.injEq] at h1
   subst h1
   exact⟨hx.1,hx.2.okm hok⟩
end
end Go.Proofs.YtlcfolgfmlgncaaGreatDoor.Ev
