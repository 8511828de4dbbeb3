/- A part of the proof of FnExactSolo: see the text YtagdmghmblplbaaGreatLawFnExactSolo for what is proved and its conditions. Conditions here: those in each line. -/
import Derived.Below
import Derived.Calls
import Derived.Great.BuildSlice
import Derived.Laws.Append
import Derived.Laws.AppendOwn
import Derived.Laws.BytesString
import Derived.Laws.Cells
import Derived.Laws.CopyRow
import Derived.Laws.Entries
import Derived.Laws.MakeOwn
import Derived.Laws.NewBlocks
import Derived.Laws.Rows
import Derived.Laws.Sem
import Derived.Laws.Slices
import Derived.Laws.Tables
import Derived.Orders
import Derived.Test.YtagdmghmblplbaaGreatProg
set_option linter.unusedSimpArgs false
set_option linter.unusedVariables false
set_option linter.unusedSectionVars false
namespace Go.Proofs.YtagdmghmblplbaaGreat.Ev
open Go
abbrev Vaa:=@List.length_cons
abbrev Vab:=@List.mem_cons_self
abbrev Vac:=@List.getElem?_eq_getElem
abbrev Vad:=@List.mem_cons_of_mem
abbrev Vae:=@List.mem_append_left
abbrev Vaf:=@Array.getElem?_eq_getElem
abbrev Vag:=@List.mem_of_getElem?
abbrev Vah:=@List.getElem?_append_right
abbrev Vai:=@List.getElem?_take
abbrev Vaj:=@List.getElem?_append_left
abbrev Vak:=@List.mem_append_right
abbrev Val:=@Option.isSome_iff_exists
abbrev Vam:=@Array.getElem?_eq_some_iff
abbrev Van:=@List.length_pos_iff
abbrev Vao:=@List.getElem_mem
abbrev Vap:=@List.nodup_append
abbrev Vaq:=@List.length_nil
abbrev Var:=@Option.map_some
abbrev Vas:=@List.eq_nil_of_length_eq_zero
abbrev Vat:=@List.mem_append
abbrev Vau:=@List.getElem?_drop
abbrev Vav:=@List.mem_cons
abbrev Vaw:=@Nat.le_refl
abbrev Vax:=@List.getD_eq_getElem?_getD
abbrev Vay:=@List.nodup_cons
abbrev Vaz:=@List.flatten_cons
abbrev Va0:=@Option.getD_some
abbrev Va1:=@List.getElem?_of_mem
abbrev Va2:=@List.drop_eq_getElem_cons
abbrev Va3:=@Nat.add_zero
abbrev Va4:=@List.sublist_append_right
abbrev Va5:=@Bool.not_true
abbrev Va6:=@List.all_cons
abbrev Va7:=@List.map_cons
abbrev Va8:=@List.getElem?_map
abbrev Va9:=@Nat.lt_of_lt_of_le
abbrev Vba:=@List.drop_eq_nil_of_le
abbrev Vbb:=@List.length_append
abbrev Vbc:=@List.getElem?_cons_zero
abbrev Vbd:=@List.mem_map
abbrev Vbe:=@Array.getElem?_setIfInBounds
abbrev Vbf:=@Bool.not_false
abbrev Vbg:=@Array.getD_eq_getD_getElem?
abbrev Vbh:=@List.length_set
abbrev Vbi:=@List.take_of_length_le
abbrev Vbj:=@Nat.zero_le
abbrev Vbk:=@Nat.zero_add
abbrev Vbl:=@List.take_length
abbrev Vbm:=@List.mem_of_mem_drop
abbrev Vbn:=@List.mem_replicate
abbrev Vbo:=@List.perm_append_comm_assoc
abbrev Vbp:=@Nat.add_sub_cancel_left
abbrev Vbq:=@Nat.mul_le_mul_right
abbrev Vbr:=@List.length_take
abbrev Vbs:=@Bool.false_and
abbrev Vbt:=@List.getElem_of_mem
abbrev Vbu:=@List.length_filter_le
abbrev Vbv:=@Nat.succ_mul
abbrev Vbw:=@List.mem_flatten
abbrev Vbx:=@Bool.true_and
abbrev Vby:=@List.mem_of_mem_take
abbrev Vbz:=@List.Sublist.refl
abbrev Vb0:=@Bool.not_eq_true'
abbrev Vb1:=@List.append_nil
abbrev Vb2:=@Bool.or_eq_true
abbrev Vb3:=@List.mem_filter
abbrev Vb4:=@Nat.le_trans
abbrev Vb5:=@Nat.lt_or_ge
abbrev Vb6:=@Array.getElem?_append_left
abbrev Vb7:=@List.getElem?_eq_none
abbrev Vb8:=@Classical.choose_spec
abbrev Vb9:=@List.mem_or_eq_of_mem_set
abbrev Vca:=@Bool.or_eq_false_iff
abbrev Vcb:=@Int.toNat_natCast
abbrev Vcc:=@Bool.and_self
abbrev Vcd:=@List.map_congr_left
abbrev Vce:=@Option.getD_none
abbrev Vcf:=@Option.isSome_some
abbrev Vcg:=@List.length_map
abbrev Vch:=@Bool.and_true
abbrev Vci:=@List.flatMap_cons
abbrev Vcj:=@Int.le_refl
abbrev Vck:=@List.map_nil
abbrev Vcl:=@List.Sublist.append
abbrev Vcm:=@List.any_cons
abbrev Vcn:=@List.map_append
abbrev Vco:=@List.mem_filterMap
abbrev Vcp:=@Int.emod_lt_of_pos
abbrev Vcq:=@List.drop_of_length_le
abbrev Vcr:=@List.ext_getElem?
abbrev Vcs:=@List.getElem?_toArray
abbrev Vct:=@List.perm_append_comm
abbrev Vcu:=@Array.getElem?_toList
abbrev Vcv:=@List.nodup_nil
abbrev Vcw:=@List.length_replicate
abbrev Vcx:=@Option.none_or
abbrev Vcy:=@List.mem_flatMap
abbrev Vcz:=@List.range_eq_range'
abbrev Vc0:=@BitVec.ofInt_natCast
abbrev Vc1:=@Option.map_none
abbrev Vc2:=@List.getElem?_eq_none_iff
abbrev Vc3:=@Int.emod_nonneg
abbrev Vc4:=@List.filter_append
abbrev Vc5:=@Int.mul_comm
abbrev Vc6:=@BitVec.toNat_ofNat
abbrev Vc7:=@List.mem_range
abbrev Vc8:=@Bool.and_false
abbrev Vc9:=@Classical.axiomOfChoice
abbrev Vda:=@Int.eq_ofNat_of_zero_le
abbrev Vdb:=@Function.comp_def
abbrev Vdc:=@Array.size_append
abbrev Vdd:=@List.sum_cons
abbrev Vde:=@Nat.le_of_not_lt
abbrev Vdf:=@List.range'_succ
abbrev Vdg:=@List.cons_ne_nil
abbrev Vdh:=@Nat.mod_eq_of_lt
abbrev Vdi:=@Nat.add_comm
abbrev Vdj:=@Nat.zero_mul
abbrev Vdk:=@Array.ext'
abbrev Vdl:=@List.all_nil
abbrev Vdm:=@Array.size_replicate
abbrev Vdn:=@List.cons.injEq
abbrev Vdo:=@Int.min_comm
abbrev Vdp:=@List.take_succ_cons
abbrev Vdq:=@List.getElem?_range
abbrev Vdr:=@List.set_cons_zero
abbrev Vds:=@List.getElem_range
abbrev Vdt:=@Nat.pos_of_ne_zero
abbrev Vdu:=@Nat.eq_zero_or_pos
abbrev Vdv:=@Bool.or_false
abbrev Vdw:=@Bool.false_or
abbrev Vdx:=@Array.toList_setIfInBounds
abbrev Vdy:=@List.length_range
abbrev Vdz:=@List.all_eq_false
abbrev Vd0:=@List.pairwise_iff_getElem
abbrev Vd1:=@List.cons_append
abbrev Vd2:=@List.length_drop
abbrev Vd3:=@List.perm_middle
abbrev Vd4:=@Array.size_setIfInBounds
abbrev Vd5:=@List.getElem?_cons_succ
abbrev Vd6:=@List.getElem?_replicate
abbrev Vd7:=@List.foldl_cons
abbrev Vd8:=@Array.getElem?_eq_none
abbrev Vd9:=@List.Perm.append_right
abbrev Vea:=@List.sublist_cons_self
abbrev Veb:=@List.filter_eq_nil_iff
abbrev Vec:=@List.getElem?_set_self
abbrev Ved:=@Nat.mul_add
abbrev Vee:=@List.take_append_drop
abbrev Vef:=@List.contains_iff_mem
abbrev Veg:=@List.set_append_right
abbrev Veh:=@Array.mem_of_getElem?
abbrev Vei:=@Int.mul_nonneg
abbrev Vej:=@Nat.sub_self
abbrev Vek:=@List.set_set
abbrev Vel:=@Bool.not_not
theorem ZZa {α β : Type} {a : α} {f : α -> Option β} : (some a).bind f = f a := rfl
theorem ZZb {α β : Type} {x : Option α} {f : α -> Option β} {b : β} : x.bind f = some b ↔ ∃ a, x = some a /\ f a = some b := Option.bind_eq_some_iff
theorem ZZc {α β : Type} {x : Option α} {f : α -> β} {b : β} : x.map f = some b ↔ ∃ a, x = some a /\ f a = b := Option.map_eq_some_iff
theorem ZZd {α : Type} (a b : α) : (some a = some b) = (a = b) := Option.some.injEq a b
theorem ZZf : (false = true) = False := Bool.false_eq_true
theorem ZZg (a b : Bool) : ((a && b) = true) = (a = true /\ b = true) := Bool.and_eq_true a b
theorem ZZh {α : Type} {l : List α} {i : Nat} {a : α} : l[i]? = some a ↔ ∃ h : i < l.length, l[i] = a := List.getElem?_eq_some_iff
theorem ZZi {c : Prop} {h : Decidable c} (hn : ¬c) {α : Type} {t e : α} : ite c t e = e := if_neg hn
theorem ZZj {c : Prop} {h : Decidable c} (hn : c) {α : Type} {t e : α} : ite c t e = t := if_pos hn
theorem ZZk {α : Type} {p : α -> Bool} {l : List α} : l.all p = true ↔ ∀ x, x ∈ l -> p x = true := List.all_eq_true
theorem ZZl {p : Prop} [Decidable p] : (decide p = true) = p := decide_eq_true_eq
theorem ZZe {α β : Type} (a : α) (b : β) (c : α) (d : β) : ((a, b) = (c, d)) = (a = c /\ b = d) := Prod.mk.injEq a b c d
abbrev Id:=Nat×Nat
inductive V where
 | undef
 | lit (v:Value)
 | agg (cs:List V)
 | tup (vs:List V)
 | ptr (id:Id) (i off:Nat)
 | rp (sh:Bool) (row:List V) (off:Nat)
 | sl (id:Id) (off len:Nat)
 | tr (rows:List (List V))
 | vw (rows:List (List V))
 | own (e:TypeId) (rows:List (List V))
 | obx (cs:List V)
 | fn (f:FuncId) (caps:List V)
 deriving Inhabited
structure Blk where
 box:Bool
 own:Bool
 cl:Bool
 el:TypeId
 rows:List (List V)
structure St where
 env:Nat->V
 heap:Id->Option Blk
 ep:Nat
def upd {α β:Type} [DecidableEq α] (f:α->β) (a:α) (b:β):α->β:=λx=>if x=a then b else f x
def St.put (s:St) (dst:Option Tmp) (v:V):St:=match dst with|some d=>{s with env:=upd s.env d v}|none=>s
def St.setB (s:St) (id:Id) (b:Blk):St:={s with heap:=upd s.heap id (some b)}
def St.kill (s:St) (id:Id):St:={s with heap:=upd s.heap id none}
def eval? {α:Type} (P:Program):Sem α->Option α
 | .pure a=>some a
 | .program k=>eval? P (k P)
 | _=>none
def Q8:Value->Bool
 | .bool _|.int _ _|.string _|.float _ _|.pointer none|.slice none 0 0|.nilFunc|.nilIface=>true
 | _=>false
def Zbw:List V->Option (List Value)
 | []=>some []
 | .lit v::r=>(Zbw r).map (v::·)
 | _=>none
def Xu:V->Option Value
 | .lit v=>some v
 | .agg cs=>(Zbw cs).map λl=>.agg l.toArray
 | _=>none
def Zk3:Value->Option V
 | .agg cs=>if cs.toList.all Q8 then some (.agg (cs.toList.map .lit)) else none
 | v=>if Q8 v then some (.lit v) else none
def St.opV (s:St):Operand->V
 | .tmp t=>s.env t
 | .const v=>(Zk3 v).getD .undef
 | .func f=>.fn f []
 | .global _=>.undef
def Z2z {α:Type}:List (Option α)->Option (List α)
 | []=>some []
 | some a::r=>(Z2z r).map (a::·)
 | none::_=>none
def Zj9:Op->Bool
 | .binOp ..|.unOp ..|.convert ..|.index ..|.slice ..|.field ..=>true
 | .call {callee:=.builtin .len,..}|.call {callee:=.builtin .min,..}|.call {callee:=.builtin .max,..}=>true
 | _=>false
def Xd (P:Program) (v:Operand->V) (o:Oper):Option V:=
 if Zj9 o.op&&o.op.operands.toList.all (λx=>(Xu (v x)).isSome) then
  match eval? P (execOp (λx=>(Xu (v x)).getD undef) o) with
  | some (.value v)=>Zk3 v
  | _=>none
 else none
def Zeo (P:Program) (t:TypeId):Bool:=match P.underlying t with|some (.struct _)|some (.array _ _)=>true|_=>false
def Zx (P:Program) (t:TypeId):Nat:=P.cellsOf t
def Zc8 (P:Program) (t:TypeId):Option (List V):=((P.info? t).bind (·.zero)).bind λz=>if z.cells.toList.all Q8 then some (z.cells.toList.map .lit) else none
def Wd (P:Program) (t:TypeId):Option TypeId:=match P.underlying t with|some (.slice e)=>some e|_=>none
def Zu7 (P:Program) (t:TypeId) (k:Nat):Option Nat:=match P.underlying t with|some (.struct fs)=>(fs[k]?).bind λf=>if P.cellsOf f.type=0 then none else some f.offset|_=>none
def Zbv:V->V
 | .lit (.slice none 0 0)=>.tr []
 | x=>x
def Zso:V->Option (List V)
 | .agg cs=>some cs
 | .tup _|.undef|.own _ _|.obx _=>none
 | x=>some [x]
def cellish:V->Bool
 | .lit _|.tr _|.vw _|.rp ..|.ptr ..|.sl ..|.fn ..=>true
 | _=>false
def St.rowsOf (s:St):V->Option (List (List V))
 | .sl id off len=>(s.heap id).bind λb=>if b.box=false/\off+len<=b.rows.length then some ((b.rows.drop off).take len) else none
 | .tr rows|.vw rows=>some rows
 | .lit (.slice none 0 0)=>some []
 | _=>none
def St.whole (s:St) (id:Id) (off len:Nat):Option (TypeId×List (List V)):=
 (s.heap id).bind λb=>if b.box=false/\b.own=true/\b.cl=true/\off+len<=b.rows.length then some (b.el,(b.rows.drop off).take len) else none
def St.sink (s:St):List V->Option (List V×Bool×St)
 | []=>some ([],true,s)
 | x::r=>
  match x with
  | .lit (.slice none 0 0)=>(s.sink r).map λy=>(.tr []::y.1,y.2)
  | .lit v=>(s.sink r).map λy=>(.lit v::y.1,y.2)
  | .tr rows|.vw rows=>(s.sink r).map λy=>(.tr rows::y.1,false,y.2.2)
  | .sl id off len=>match s.whole id off len with
   | some er=>((s.kill id).sink r).map λy=>(.tr er.2::y.1,y.2)
   | none=>match s.heap id with
    | some b=>if b.own=false then (s.rowsOf (.sl id off len)).bind λrows=>(s.sink r).map λy=>(.tr rows::y.1,false,y.2.2) else none
    | none=>none
  | _=>none
def St.sinkRows (s:St):List (List V)->Option (List (List V)×Bool×St)
 | []=>some ([],true,s)
 | row::r=>(s.sink row).bind λy=>(y.2.2.sinkRows r).map λz=>(y.1::z.1,y.2.1&&z.2.1,z.2.2)
def Jt (l:List V) (off:Nat) (vs:List V):List V:=l.take off++vs++l.drop (off+vs.length)
def Zkc (P:Program) (t:TypeId) (cs:List V):Option V:=
 if (P.underlying t).isSome then if Zeo P t then some (.agg cs) else match cs with|[x]=>some x|_=>none else none
def Z84 (P:Program):Nat->TypeId->List (Option TypeId)
 | 0,_=>[]
 | n+1,t=>match P.underlying t with
  | some (.struct fs)=>fs.toList.flatMap λf=>Z84 P n f.type
  | some (.array k e)=>(List.replicate k (Z84 P n e)).flatten
  | some (.slice e)=>[some e]
  | _=>[none]
def Z2d (P:Program) (t:TypeId):List (Option TypeId):=match P.underlying t with|some (.pointer e)=>Z84 P 9 e|_=>Z84 P 9 t
inductive Yh where
 | rd|io|mv|iov
 deriving DecidableEq
def St.rdCell (s:St):V->Option V
 | .lit (.slice none 0 0)=>some (.tr [])
 | .lit v=>some (.lit v)
 | .tr rows|.vw rows=>some (.tr rows)
 | .sl id off len=>(s.rowsOf (.sl id off len)).map .tr
 | .rp _ row off=>some (.rp true row off)
 | _=>none
def St.rdCells (s:St):List V->Option (List V)
 | []=>some []
 | x::r=>(s.rdCell x).bind λy=>(s.rdCells r).map (y::·)
def St.rdPlace (s:St):V->Option V
 | .ptr id i off=>(s.heap id).bind λb=>if b.own=true then (b.rows[i]?).bind λrow=>(s.rdCells row).map λcs=>.rp true cs off else none
 | x=>s.rdCell x
def St.rdPlaces (s:St):List V->Option (List V)
 | []=>some []
 | x::r=>(s.rdPlace x).bind λy=>(s.rdPlaces r).map (y::·)
def St.rdArg (s:St):V->Option V
 | .agg cs=>(s.rdCells cs).map .agg
 | .fn f caps=>(s.rdPlaces caps).map (.fn f)
 | x=>s.rdPlace x
def St.rdArgM (s:St) (m:Yh) (x:V):Option V:=match m with|.rd=>s.rdArg x|_=>some x
def St.rdAll (s:St):List Yh->List V->Option (List V)
 | _,[]=>some []
 | ms,x::r=>(s.rdArgM (ms.headD .rd) x).bind λy=>(s.rdAll ms.tail r).map (y::·)
def St.giveCell (s:St) (t:Option TypeId):V->Option (V×St)
 | .lit (.slice none 0 0)=>t.map λe=>(.own e [],s)
 | .lit v=>some (.lit v,s)
 | .tr rows|.vw rows=>some (.tr rows,s)
 | .sl id off len=>(s.whole id off len).map λer=>(.own er.1 er.2,s.kill id)
 | _=>none
def St.giveCells (s:St):List (Option TypeId)->List V->Option (List V×St)
 | _,[]=>some ([],s)
 | ts,x::r=>(s.giveCell (ts.headD none) x).bind λy=>(y.2.giveCells ts.tail r).map λz=>(y.1::z.1,z.2)
def St.giveArg (s:St) (ts:List (Option TypeId)):V->Option (V×St)
 | .agg cs=>(s.giveCells ts cs).map λy=>(.agg y.1,y.2)
 | x=>s.giveCell (ts.headD none) x
def thin1:V->V
 | .sl _ _ 0=>.tr []
 | x=>x
def thin:V->V
 | .agg cs=>.agg (cs.map thin1)
 | x=>thin1 x
def St.giveBox (s:St) (ts:List (Option TypeId)) (id:Id):Option (List V×St):=
 (s.heap id).bind λb=>if b.box=true/\b.own=true then match b.rows with
  | [row]=>(s.kill id).giveCells ts row
  | _=>none else none
def St.give (s:St) (ts:List (Option TypeId)) (m:Yh) (x:V):Option (V×St):=
 match m with
 | .rd=>some (x,s)
 | .io=>match x with
  | .ptr id 0 0=>(s.giveBox ts id).map λy=>(.agg y.1,y.2)
  | _=>none
 | .mv=>s.giveArg ts x
 | .iov=>s.giveArg ts (thin x)
def St.gives (P:Program) (s:St):List TypeId->List Yh->List V->Option (List V×St)
 | _,_,[]=>some ([],s)
 | ts,ms,x::r=>(s.give (Z2d P (ts.headD 0)) (ms.headD .rd) x).bind λy=>(y.2.gives P ts.tail ms.tail r).map λz=>(y.1::z.1,z.2)
def St.takeCell (s:St) (id:Id):V->Option (V×St)
 | .own e rows=>some (.sl id 0 rows.length,s.setB id ⟨false,true,true,e,rows⟩)
 | .lit v=>some (.lit v,s)
 | .tr rows=>some (.tr rows,s)
 | _=>none
def St.takeCells (s:St) (e:Nat):(k:Nat)->List V->Option (List V×St)
 | _,[]=>some ([],s)
 | k,x::r=>(s.takeCell (e,k) x).bind λy=>(y.2.takeCells e (k+1) r).map λz=>(y.1::z.1,z.2)
def St.takeOne (s:St) (e k:Nat):V->Option (V×St)
 | .agg cs=>if cs.length<=62 then (s.takeCells e k cs).map λy=>(.agg y.1,y.2) else none
 | .obx cs=>if cs.length<=62 then (s.takeCells e k cs).map λy=>(.ptr (e,k+63) 0 0,y.2.setB (e,k+63) ⟨true,true,true,0,[y.1]⟩) else none
 | x=>s.takeCell (e,k) x
def St.takeAll (s:St) (e:Nat):(k:Nat)->List V->Option (List V×St)
 | _,[]=>some ([],s)
 | k,x::r=>(s.takeOne e (64*k) x).bind λy=>(y.2.takeAll e (k+1) r).map λz=>(y.1::z.1,z.2)
def St.takeRes (s:St) (e k:Nat):V->Option (V×St)
 | .tup vs=>if vs.length<=8 then (s.takeAll e k vs).map λy=>(.tup y.1,y.2) else none
 | x=>s.takeOne e (64*k) x
def St.backCells (s:St):List V->List V->Option St
 | [],_=>some s
 | .sl id 0 _::os,.own e rows::ns=>(s.setB id ⟨false,true,true,e,rows⟩).backCells os ns
 | _::os,_::ns=>s.backCells os ns
 | _::_,[]=>none
def St.back (s:St) (m:Yh) (e k:Nat) (x o:V):Option St:=
 match m with
 | .rd|.mv=>some s
 | .io=>match x,o with
  | .ptr id 0 0,.agg cs=>if cs.length<=62 then (s.takeCells e (64*k) cs).map λy=>y.2.setB id ⟨true,true,true,0,[y.1]⟩ else none
  | _,_=>none
 | .iov=>match thin x,o with
  | .agg cs,.agg ns=>s.backCells cs ns
  | x,o=>s.backCells [x] [o]
def St.backs (s:St) (e:Nat):List Yh->(k:Nat)->List V->List V->Option St
 | _,_,[],_=>some s
 | ms,k,x::xs,o::os=>(s.back (ms.headD .rd) e k x o).bind λs=>s.backs e ms.tail (k+1) xs os
 | _,_,_::_,[]=>none
abbrev Qo:=FuncId->List V->Option (V×List V)
def Zjw (n:Nat) (rows:List (List V)):Bool:=rows.all λr=>r.length == n
def Zwq:V->Bool|.lit _=>true|_=>false
def Zaq (rows:List (List V)):Bool:=rows.all λr=>r.all Zwq
def St.moved (s:St) (all:Bool):V->Option (List (List V)×Bool×St)
 | .sl id off len=>match (if id.1=s.ep\/all=true then s.whole id off len else none) with
  | some er=>some (er.2,true,s.kill id)
  | none=>(s.rowsOf (.sl id off len)).map λrows=>(rows,Zaq rows,s)
 | x=>(s.rowsOf x).map λrows=>(rows,Zaq rows,s)
def Zq3 (P:Program) (e:TypeId):Bool:=match (P.info? e).bind (·.zero) with|some z=>z.cells.size == P.cellsOf e|none=>false
def Zmp (P:Program) (all:Bool) (s:St) (id:Id) (t:TypeId) (b x:V):Option (V×St):=
 (Wd P t).bind λe=>
 (s.moved all x).bind λm=>
 if Zjw (Zx P e) m.1=true/\Zx P e≠0/\Zq3 P e=true then
  match b with
  | .lit (.slice none 0 0)=>if m.1.length*P.bytesOf e<=140737488355328/\m.1.length<=9223372036854775807 then some (.sl id 0 m.1.length,m.2.2.setB id ⟨false,true,m.2.1,e,m.1⟩) else none
  | .sl i off len=>(m.2.2.heap i).bind λk=>
   if k.box=false/\k.own=true/\off+len=k.rows.length/\k.el=e/\(len+m.1.length)*P.bytesOf e<=140737488355328/\len+m.1.length<=9223372036854775807 then
    some (.sl id 0 (len+m.1.length),(m.2.2.kill i).setB id ⟨false,true,k.cl&&m.2.1,e,k.rows.drop off++m.1⟩)
   else none
  | _=>none
 else none
def Xq:V->Option Nat
 | .lit (.int _ n)=>if 0<=n then some n.toNat else none
 | _=>none
def Zqd (P:Program) (s:St) (t:TypeId) (x:V) (lo hi:Option V):Option V:=
 (Wd P t).bind λe=>(s.rowsOf x).bind λrows=>
 let l:=match lo with|some v=>Xq v|none=>some 0
 let h:=match hi with|some v=>Xq v|none=>some rows.length
 l.bind λl=>h.bind λh=>if l<=h/\h<=rows.length/\Zjw (Zx P e) rows=true/\Zx P e≠0 then
  match x with
  | .sl id off _=>some (.sl id (off+l) (h - l))
  | .tr rows=>some (.tr ((rows.drop l).take (h - l)))
  | .vw rows=>some (.vw ((rows.drop l).take (h - l)))
  | _=>none
 else none
def Zrd (P:Program) (place:Nat->Option (Nat×Nat)) (cells:List V):List (Nat×V)->Option (List V)
 | []=>some cells
 | (i,v)::rest=>(place i).bind λp=>(Zso v).bind λcs=>
  if cs.length=p.2/\p.1+p.2<=cells.length then Zrd P place (Jt cells p.1 cs) rest else none
def Zsd (sz:Nat):Nat->List V->List (List V)
 | 0,_=>[]
 | n+1,l=>l.take sz::Zsd sz n (l.drop sz)
def Z2a (rows:List (List V)):Option (List UInt8):=Z2z (rows.map λr=>match r with|[.lit (.int .u8 n)]=>some (UInt8.ofNat n.toNat)|_=>none)
def isIntT (P:Program) (t:TypeId):Bool:=match P.underlying t with|some (.int _)=>true|_=>false
structure Yp where
 modes:FuncId->List Yh
 mv:String->Bool
def isTr:V->Bool|.tr _=>true|_=>false
def Zjt:V->Bool|.agg cs|.obx cs=>cs.any isTr|x=>isTr x
def Z4y:V->Bool|.tup vs=>vs.any Zjt|x=>Zjt x
def Zvj:V->Bool
 | .lit _|.tr _|.vw _|.rp ..=>true
 | _=>false
def plain:V->Bool
 | .agg cs|.fn _ cs=>cs.all Zvj
 | x=>Zvj x
def Ymm (m:Yh) (x:V):Bool:=match m with|.rd=>plain x|_=>true
def Zmc:List Yh->List V->Bool
 | _,[]=>true
 | ms,x::r=>Ymm (ms.headD .rd) x&&Zmc ms.tail r
def Zos (P:Program) (M:Yp) (C:Qo) (s:St) (k:Nat) (g:FuncId) (args:List V):Option (V×St):=
 if args.length<=8 then
  (s.gives P (((P.funcs[g]?).map (·.params.toList)).getD []) (M.modes g) args).bind λy=>(y.2.rdAll (M.modes g) y.1).bind λxs=>(C g xs).bind λr=>
   if (Z4y r.1||r.2.any Zjt)&&!Zmc (M.modes g) args then none else
   (y.2.backs s.ep (M.modes g) (16*k+8) args r.2).bind λs'=>s'.takeRes s.ep (16*k) r.1
 else none
def Xb (P:Program) (M:Yp) (C:Qo) (v:Operand->V) (s:St) (k:Nat) (o:Oper):Option (V×St):=
 let pure1 (x:Option V):Option (V×St):=x.map λy=>(y,s)
 let id:Id:=(s.ep,1024*k)
 match o.op with
 | .move x|.assign x=>match v x with|.undef=>none|y=>some (y,s)
 | .pick c a b=>match v c with|.lit (.bool c)=>some (if c then v a else v b,s)|_=>none
 | .extract t i=>match v t with|.tup vs=>pure1 vs[i]?|_=>none
 | .nilCheck x=>match v x with|.ptr i j n=>some (.ptr i j n,s)|.rp b r n=>some (.rp b r n,s)|.fn f cs=>some (.fn f cs,s)|_=>none
 | .alloc t=>(Zc8 P t).map λz=>(.ptr id 0 0,s.setB id ⟨true,true,true,t,[z]⟩)
 | .box t x=>(Zso (v x)).bind λcs=>if cs.length=Zx P t then some (.ptr id 0 0,s.setB id ⟨true,true,true,t,[cs]⟩) else none
 | .build t parts=>(Zc8 P t).bind λz=>match P.underlying t with
  | some (.struct fs)=>if fs.toList.all (λf=>(P.info? f.type).isSome)=false then none else (Zrd P (λi=>(fs[i]?).map λf=>(f.offset,P.cellsOf f.type)) z (parts.toList.map λp=>(p.1,v p.2))).map λcs=>(.agg cs,s)
  | _=>none
 | .buildSlice t n parts=>(Wd P t).bind λe=>
  let sz:=Zx P e
  (if n*sz=0 then some [] else Zc8 P e).bind λz=>
  if sz=0\/n*sz > 1048576\/Zq3 P e=false then none else
  (Zrd P (λi=>some (i*sz,sz)) (List.replicate n z).flatten (parts.toList.map λp=>(p.1,v p.2))).bind λcs=>
   (s.sinkRows (Zsd sz n cs)).map λy=>(.sl id 0 n,y.2.2.setB id ⟨false,true,y.2.1,e,y.1⟩)
 | .load t a=>match v a with
  | .ptr i j n=>(s.heap i).bind λb=>(b.rows[j]?).bind λrow=>if n+Zx P t<=row.length then pure1 (Zkc P t ((row.drop n).take (Zx P t))) else none
  | .rp sh row n=>if n+Zx P t<=row.length then pure1 (Zkc P t ((row.drop n).take (Zx P t))) else none
  | _=>none
 | .store t a x=>match v a with
  | .ptr i j n=>(s.heap i).bind λb=>(b.rows[j]?).bind λrow=>(Zso (v x)).bind λcs=>
   if b.own=true/\cs.length=Zx P t/\n+Zx P t<=row.length/\Zx P t≠0 then
    if b.box then some (.undef,s.setB i {b with rows:=b.rows.set j (Jt row n cs)})
    else (s.sink cs).bind λy=>match y.2.2.heap i with
     | some b=>some (.undef,y.2.2.setB i {b with cl:=b.cl&&y.2.1,rows:=b.rows.set j (Jt row n y.1)})
     | none=>none
   else none
  | _=>none
 | .fieldAddr t x f=>(Zu7 P t f).bind λoff=>match v x with
  | .ptr i j n=>some (.ptr i j (n+off),s)
  | .rp b row n=>some (.rp b row (n+off),s)
  | _=>none
 | .indexAddr t x ix=>(Wd P t).bind λe=>if Zx P e=0 then none else (Xq (v ix)).bind λn=>match v x with
  | .sl i off len=>if n < len then (s.heap i).bind λb=>(b.rows[off+n]?).bind λrow=>if row.length=Zx P e then some (.ptr i (off+n) 0,s) else none else none
  | .tr rows=>(rows[n]?).bind λrow=>if row.length=Zx P e then some (.rp true row 0,s) else none
  | .vw rows=>(rows[n]?).bind λrow=>if row.length=Zx P e then some (.rp false row 0,s) else none
  | _=>none
 | .slice t x lo hi none=>match v x with
  | .sl ..|.tr _|.vw _=>pure1 (Zqd P s t (v x) (lo.map v) (hi.map v))
  | _=>pure1 (Xd P v o)
 | .makeSlice t l c=>(Wd P t).bind λe=>(Zc8 P e).bind λz=>(Xq (v l)).bind λn=>(Xq (v c)).bind λm=>
  if n=m/\n*P.bytesOf e<=70368744177664/\n<=9223372036854775807/\z.length=Zx P e/\Zx P e≠0 then some (.sl id 0 n,s.setB id ⟨false,true,true,e,List.replicate n (z.map Zbv)⟩) else none
 | .makeFunc (.func f) first caps=>if first.size=0 then some (.fn f (caps.toList.map v),s) else none
 | .convert src dst x=>match v x with
  | .lit _=>pure1 (Xd P v o)
  | y=>match P.underlying src,P.underlying dst with
   | some (.slice e),some .string=>match P.underlying e with
    | some (.int .u8)=>(s.rowsOf y).bind λrows=>(Z2a rows).map λbs=>(.lit (.string ⟨bs.toArray⟩),s)
    | _=>none
   | some (.slice _),some (.slice _)=>none
   | _,_=>none
 | .call c=>match c.callee with
  | .builtin .append=>match c.args.toList,c.argTypes.toList with
   | [b,x],[t,t']=>if t=t' then Zmp P (M.mv o.pos) s id t (v b) (v x) else none
   | _,_=>none
  | .builtin .len=>match c.args.toList,c.argTypes.toList with
   | [x],[t]=>match v x with
    | .sl _ _ n=>if (Wd P t).isSome then some (.lit (.int .i64 n),s) else none
    | .tr rows|.vw rows=>if (Wd P t).isSome then some (.lit (.int .i64 rows.length),s) else none
    | _=>pure1 (Xd P v o)
   | _,_=>none
  | .builtin .clear=>match c.args.toList,c.argTypes.toList with
   | [x],[t]=>(Wd P t).bind λe=>(Zc8 P e).bind λz=>match v x with
    | .sl i off n=>(s.heap i).bind λb=>if b.own=true/\b.box=false/\off+n<=b.rows.length/\b.el=e/\z.length=Zx P e/\Zx P e≠0 then
      some (.tup [],s.setB i {b with rows:=b.rows.take off++List.replicate n (z.map Zbv)++b.rows.drop (off+n)}) else none
    | _=>none
   | _,_=>none
  | .builtin _=>pure1 (Xd P v o)
  | .value f=>match v f with
   | .fn g caps=>Zos P M C s k g (c.args.toList.map v++caps)
   | _=>none
  | _=>none
 | .binOp op t x y _=>match v x,v y with
  | .lit _,.lit _|.agg _,_|_,.agg _=>pure1 (Xd P v o)
  | a,.lit (.slice none 0 0)|.lit (.slice none 0 0),a=>if (Wd P t).isSome=false then none else match op,s.rowsOf a with
   | .eql,some (_::_)=>some (.lit (.bool false),s)
   | .neq,some (_::_)=>some (.lit (.bool true),s)
   | _,_=>none
  | _,_=>none
 | _=>pure1 (Xd P v o)
def Zyp (P:Program) (M:Yp) (C:Qo) (s:St) (k:Nat) (o:Oper):Option (V×St):=Xb P M C s.opV s k o
def wanted (s:St) (ops:Array Oper) (o:Oper):Option Bool:=
 match o.guard with
 | none=>some true
 | some (j,b)=>match ((ops[j]?).bind (·.dst)).map s.env with
  | some (.lit (.bool c))=>some (c == b)
  | some (.tup [])=>some false
  | _=>none
def Zg6 (P:Program) (M:Yp) (C:Nat->Qo) (ops:Array Oper) (s:St):(k:Nat)->List Oper->Option St
 | _,[]=>some s
 | k,o::rest=>
  (wanted s ops o).bind λg=>
  if g then (Zyp P M (C k) s k o).bind λy=>Zg6 P M C ops (y.2.put o.dst y.1) (k+1) rest
  else Zg6 P M C ops (s.put o.dst (.tup [])) (k+1) rest
def ids1:V->List Id
 | .sl id _ _|.ptr id _ _=>[id]
 | _=>[]
def ids:V->List Id
 | .agg cs|.fn _ cs=>cs.flatMap ids1
 | x=>ids1 x
def St.deep (s:St) (id:Id):List Id:=match s.heap id with|some b=>if b.box then b.rows.flatMap (λr=>r.flatMap ids) else []|none=>[]
def St.storeT (s:St) (d:List Id):V->List Id
 | .ptr i _ _=>match s.heap i with
  | some b=>match b.box,b.rows with
   | true,[_]=>[i]
   | _,_=>d
  | none=>d
 | _=>d
def touch (s:St) (o:Oper):List Id:=
 let d:=o.op.operands.toList.flatMap λx=>ids (s.opV x)
 match o.op with
 | .store _ a _=>s.storeT d (s.opV a)
 | .load ..|.indexAddr ..|.slice ..|.convert ..|.buildSlice ..|.binOp ..=>d
 | .call {callee:=.value _,..}=>let e:=d.flatMap s.deep;d++e++e.flatMap s.deep
 | .call _=>d
 | _=>[]
def Zmu (M:Yp) (f:Operand->V) (o:Oper):Bool:=
 match o.op with
 | .store ..|.buildSlice ..=>true
 | .call c=>match c.callee with
  | .builtin .append|.builtin .clear=>true
  | .value x=>match f x with|.fn g _=>(M.modes g).any λm=>m != .rd|_=>true
  | _=>false
 | _=>false
structure Rec where
 pre:List Nat
 T:List Id
 w:Bool
def St.only (s:St) (T:List Id):St:={s with heap:=λid=>if T.contains id then s.heap id else none}
def Wf (e k:Nat) (id:Id):Bool:=id.1 == e&&id.2 / 1024 == k
def St.merge (s:St) (k:Nat) (T:List Id) (w:Bool) (y:St):St:={s with heap:=λid=>if Wf s.ep k id||(w&&T.contains id) then y.heap id else s.heap id}
def Zuk (recs:List Rec) (o:Oper):List Nat:=((o.after.toList.filter (Region.binds .any ·)).flatMap λe=>e.on::((recs[e.on]?).map (·.pre)).getD []).eraseDups
def Zob (ops:Array Oper) (e:Nat) (recs:List Rec) (pr:List Nat) (k:Nat) (o:Oper) (T:List Id) (w:Bool):Bool:=
 (o.after.toList.all λa=>!Region.binds .any a||decide (a.on < k))&&T.all (λid=>!(id.1 == e&&decide (k<=id.2 / 1024)))&&
 recs.zipIdx.all λp=>pr.contains p.2||
  (match ops[p.2]? with|some q=>q.apart ops o|none=>false)&&T.all (λid=>!Wf e p.2 id)&&p.1.T.all (λid=>!Wf e k id)&&(!(p.1.w||w)||T.all (λid=>!p.1.T.contains id))
def Zc1 (P:Program) (M:Yp) (C:Nat->Qo) (ops:Array Oper) (s:St) (recs:List Rec):(k:Nat)->List Oper->Option St
 | _,[]=>some s
 | k,o::rest=>
  let pr:=Zuk recs o
  (wanted s ops o).bind λg=>
  if g then
   let T:=touch s o
   let w:=Zmu M s.opV o
   if Zob ops s.ep recs pr k o T w then (Xb P M (C k) s.opV (s.only T) k o).bind λy=>Zc1 P M C ops ((s.merge k T w y.2).put o.dst y.1) (recs++[⟨pr,T,w⟩]) (k+1) rest else none
  else if Zob ops s.ep recs pr k o [] false then Zc1 P M C ops (s.put o.dst (.tup [])) (recs++[⟨pr,[],false⟩]) (k+1) rest else none
inductive Ex where
 | normal|ret|exit (n:Nat)
 deriving DecidableEq
def Zqr (P:Program) (s:St):List ResultVar->Option (List V)
 | []=>some []
 | .tmp t::r=>match s.env t with|.undef=>none|x=>(Zqr P s r).map (x::·)
 | .cell a t::r=>match s.env a with
  | .ptr i j n=>(s.heap i).bind λb=>(b.rows[j]?).bind λrow=>if n+Zx P t<=row.length then (Zkc P t ((row.drop n).take (Zx P t))).bind λx=>(Zqr P s r).map (x::·) else none
  | _=>none
def St.liftOne (s:St) (ts:List (Option TypeId)):V->Option (V×St)
 | .agg cs=>(s.giveCells ts cs).map λy=>(.agg y.1,y.2)
 | .ptr id 0 0=>(s.giveBox ts id).map λy=>(.obx y.1,y.2)
 | x=>s.giveCell (ts.headD none) x
def St.liftAll (P:Program) (s:St):List TypeId->List V->Option (List V×St)
 | _,[]=>some ([],s)
 | ts,x::r=>(s.liftOne (Z2d P (ts.headD 0)) x).bind λy=>(y.2.liftAll P ts.tail r).map λz=>(y.1::z.1,z.2)
def St.enter (s:St) (p:Nat) (m:Yh) (x:V):Option St:=
 if p < 1000 then match m with
 | .rd=>some (s.put (some p) x)
 | .io=>match x with
  | .agg cs=>(s.takeOne 0 (64*p) (.obx cs)).map λy=>y.2.put (some p) y.1
  | _=>none
 | .mv|.iov=>match x with
  | .obx _=>none
  | x=>(s.takeOne 0 (64*p) x).map λy=>y.2.put (some p) y.1
 else none
def St.enters (s:St):(p:Nat)->List Yh->List V->Option St
 | _,_,[]=>some s
 | p,ms,x::r=>(s.enter p (ms.headD .rd) x).bind λs=>s.enters (p+1) ms.tail r
def St.outCells (s:St) (p:Nat):(k:Nat)->List V->Option (List V×St)
 | _,[]=>some ([],s)
 | k,.own e rows::r=>(s.whole (0,64*p+k) 0 rows.length).bind λer=>if er.1=e then ((s.kill (0,64*p+k)).outCells p (k+1) r).map λz=>(.own er.1 er.2::z.1,z.2) else none
 | k,_::r=>(s.outCells p (k+1) r).map λz=>(.undef::z.1,z.2)
def St.out (s:St) (p:Nat) (ts:List (Option TypeId)) (m:Yh) (x:V):Option (V×St):=
 match m with
 | .rd|.mv=>some (.undef,s)
 | .io=>match x with
  | .agg cs=>(s.giveBox ts (0,64*p+63)).bind λy=>if y.1.length=cs.length then some (.agg y.1,y.2) else none
  | _=>none
 | .iov=>match x with
  | .agg cs=>(s.outCells p 0 cs).map λy=>(.agg y.1,y.2)
  | x=>(s.outCells p 0 [x]).bind λy=>(y.1.head?).map λv=>(v,y.2)
def St.outs (P:Program) (s:St):(p:Nat)->List TypeId->List Yh->List V->Option (List V)
 | _,_,_,[]=>some []
 | p,ts,ms,x::r=>(s.out p (Z2d P (ts.headD 0)) (ms.headD .rd) x).bind λy=>(y.2.outs P (p+1) ts.tail ms.tail r).map (y.1::·)
def Z7i:List V->V
 | [x]=>x
 | l=>.tup l
end Go.Proofs.YtagdmghmblplbaaGreat.Ev
namespace Go.Proofs.YtagdmghmblplbaaGreat.Ev
open Go Go.RowKit
inductive Rd (w:World) (ok:Nat->Prop):Value->V->Prop
 | lit {v:Value} (h:Q8 v=true):Rd w ok v (.lit v)
 | emp {A:Option Addr} {c:Nat}:Rd w ok (.slice A 0 c) (.tr [])
 | tr {g o n c sz:Nat} {rows:List (List V)} {u:Nat->Value} (hn:rows.length=n) (hc:n<=c) (hm:c<=maxLen) (hs:∀r∈rows,r.length=sz) (hg:ok g)
   (hu:∀(k:Nat) (x:V),rows.flatten[k]?=some x->w.cell? ⟨g,o+k,none⟩=some (u k)) (hr:∀(k:Nat) (x:V),rows.flatten[k]?=some x->Rd w ok (u k) x):
   Rd w ok (.slice (some ⟨g,o,none⟩) n c) (.tr rows)
 | rp {g o off:Nat} {sh:Bool} {row:List V} {u:Nat->Value} (hg:ok g)
   (hu:∀(k:Nat) (x:V),row[k]?=some x->w.cell? ⟨g,o+k,none⟩=some (u k)) (hr:∀(k:Nat) (x:V),row[k]?=some x->Rd w ok (u k) x):
   Rd w ok (.pointer (some ⟨g,o+off,none⟩)) (.rp sh row off)
 | fn {f:FuncId} {vs:Array Value} {caps:List V} (hl:vs.size=caps.length) (hr:∀(k:Nat) (v:Value) (x:V),vs[k]?=some v->caps[k]?=some x->Rd w ok v x):
   Rd w ok (.func (.func f) #[] vs) (.fn f caps)
theorem Z81 {w:World} {g o:Nat} {v:Value} (h:w.cell? ⟨g,o,none⟩=some v):g < w.heap.size:=by
 unfold World.cell? at h;split at h
 .rename_i c e f hc
  exact (Vam.1 hc).1
 .cases h
theorem Z8z {w w':World} {g o:Nat} (h:w'.heap[g]?=w.heap[g]?):w'.cell? ⟨g,o,none⟩=w.cell? ⟨g,o,none⟩:=by
 unfold World.cell?;rw[h]
theorem Rd.frame {w w':World} {ok ok':Nat->Prop} {v:Value} {x:V} (h:Rd w ok v x) (hw:∀g,ok g->g < w.heap.size->w'.heap[g]?=w.heap[g]?) (Y2:∀g,ok g->g < w.heap.size->ok' g) (Yf:∀g,ok g->g < w.heap.size\/ok' g):Rd w' ok' v x:=by
 induction h with
 | lit h=>exact .lit h
 | emp=>exact .emp
 | @tr g o n c sz rows u hn hc hm hs hg hu hr ih=>
  refine .tr hn hc hm hs ?_ (λk x hk=>?_) ih
  .rcases Yf g hg with h1|h1
   .exact Y2 g hg h1
   .exact h1
  .have:=hu k x hk
   rw[Z8z (hw g hg (Z81 this))];exact this
 | @rp g o off sh row u hg hu hr ih=>
  refine .rp ?_ (λk x hk=>?_) ih
  .rcases Yf g hg with h1|h1
   .exact Y2 g hg h1
   .exact h1
  .have:=hu k x hk
   rw[Z8z (hw g hg (Z81 this))];exact this
 | fn hl hr ih=>exact .fn hl ih
theorem Rd.mono {w w':World} {ok ok':Nat->Prop} {v:Value} {x:V} (h:Rd w ok v x) (hw:∀g,ok g->g < w.heap.size->w'.heap[g]?=w.heap[g]?) (Y2:∀g,ok g->ok' g):Rd w' ok' v x:=
 h.frame hw (λg h _=>Y2 g h) (λg h=>.inr (Y2 g h))
mutual
inductive Ow (w:World):Value->V->List Nat->Prop
 | lit {v:Value} (h:Q8 v=true):Ow w v (.lit v) []
 | emp {A:Option Addr}:Ow w (.slice A 0 0) (.tr []) []
 | tr {g o n c sz:Nat} {cur:Array Value} {e:TypeId} {rows:List (List V)} {fp:List Nat} (hb:w.heap[g]?=some (.cells cur e (0,0))) (hn:rows.length=n) (hc:n<=c) (hm:c<=maxLen) (hs:∀r∈rows,r.length=sz)
   (hz:o+c*sz=cur.size) (hl:OwL w ((cur.toList.drop o).take (n*sz)) rows.flatten fp):Ow w (.slice (some ⟨g,o,none⟩) n c) (.tr rows) (g::fp)
inductive OwL (w:World):List Value->List V->List Nat->Prop
 | nil:OwL w [] [] []
 | cons {v:Value} {x:V} {vs:List Value} {xs:List V} {f1 f2:List Nat} (h:Ow w v x f1) (hs:OwL w vs xs f2):OwL w (v::vs) (x::xs) (f1++f2)
end
theorem Ow.frame {w w':World} {v:Value} {x:V} {fp:List Nat} (h:Ow w v x fp):(∀g∈fp,w'.heap[g]?=w.heap[g]?)->Ow w' v x fp:=by
 apply Ow.rec (motive_1:=λv x fp _=>(∀g∈fp,w'.heap[g]?=w.heap[g]?)->Ow w' v x fp) (motive_2:=λvs xs fp _=>(∀g∈fp,w'.heap[g]?=w.heap[g]?)->OwL w' vs xs fp) ?_ ?_ ?_ ?_ ?_ h
 .intro v h _;exact .lit h
 .intro A _;exact .emp
 .intro g o n c sz cur e rows fp hb hn hc hm hs hz hl ih hw
  exact .tr (by rw[hw g Vab];exact hb) hn hc hm hs hz (ih λk hk=>hw k (Vad _ hk))
 .intro _;exact .nil
 .intro v x vs xs f1 f2 h hs ih1 ih2 hw
  exact .cons (ih1 λk hk=>hw k (Vae _ hk)) (ih2 λk hk=>hw k (Vak _ hk))
theorem OwL.frame {w w':World} {vs:List Value} {xs:List V} {fp:List Nat} (h:OwL w vs xs fp):(∀g∈fp,w'.heap[g]?=w.heap[g]?)->OwL w' vs xs fp:=by
 induction xs generalizing vs fp with
 | nil=>intro _;cases h;exact .nil
 | cons x xs ih=>
  intro hw;cases h with
  | cons h hs=>exact .cons (h.frame λg hg=>hw g (Vae _ hg)) (ih hs λg hg=>hw g (Vak _ hg))
theorem OwL.get {w:World} {vs:List Value} {xs:List V} {fp:List Nat} (h:OwL w vs xs fp):∀(k:Nat) (x:V),xs[k]?=some x->∃v f,vs[k]?=some v/\Ow w v x f/\∀g∈f,g∈fp:=by
 induction xs generalizing vs fp with
 | nil=>intro k x hk;simp at hk
 | cons y ys ih=>
  intro k x hk;cases h with
  | @cons v _ vs _ f1 f2 h hs=>
   cases k with
   | zero=>
    have hxy:y=x:=by simpa using hk
    subst hxy;exact⟨v,f1,rfl,h,λg hg=>Vae _ hg⟩
   | succ k=>
    obtain⟨v',f,h1,h2,h3⟩:=ih hs k x (by simpa using hk);exact⟨v',f,by simpa using h1,h2,λg hg=>Vak _ (h3 g hg)⟩
theorem OwL.length {w:World} {vs:List Value} {xs:List V} {fp:List Nat} (h:OwL w vs xs fp):vs.length=xs.length:=by
 induction xs generalizing vs fp with
 | nil=>cases h;rfl
 | cons y ys ih=>cases h with|cons h hs=>simp[ih hs]
theorem Ow.rd {w:World} {ok:Nat->Prop} {v:Value} {x:V} {fp:List Nat} (h:Ow w v x fp):(∀g∈fp,ok g)->Rd w ok v x:=by
 apply Ow.rec (motive_1:=λv x fp _=>(∀g∈fp,ok g)->Rd w ok v x) (motive_2:=λvs xs fp _=>(∀g∈fp,ok g)->∀(k:Nat) (x:V),xs[k]?=some x->∃v,vs[k]?=some v/\Rd w ok v x) ?_ ?_ ?_ ?_ ?_ h
 .intro v h _;exact .lit h
 .intro A _;exact .emp
 .intro g o n c sz cur e rows fp hb hn hc hm hs hz hl ih hw
  have ih':=ih λk hk=>hw k (Vad _ hk);refine .tr (u:=λk=>((cur.toList.drop o).take (n*sz)).getD k undef) hn hc hm hs (hw g Vab) (λk x hk=>?_) (λk x hk=>?_)
  .obtain⟨v,hv,_⟩:=ih' k x hk
   rw[cell_of_row w g _ cur e (0,0) hb,Vax,hv];rw[Vai] at hv;split at hv
   .simpa using hv
   .cases hv
  .obtain⟨v,hv,hr⟩:=ih' k x hk
   rw[Vax,hv];exact hr
 .intro _ k x hk;simp at hk
 .intro v x vs xs f1 f2 h hs ih1 ih2 hw k y hk
  cases k with
  | zero=>
   have:x=y:=by simpa using hk
   subst this;exact⟨v,rfl,ih1 λg hg=>hw g (Vae _ hg)⟩
  | succ k=>
   obtain⟨v',h1,h2⟩:=ih2 (λg hg=>hw g (Vak _ hg)) k y (by simpa using hk);exact⟨v',by simpa using h1,h2⟩
theorem OwL.rd {w:World} {ok:Nat->Prop} {vs:List Value} {xs:List V} {fp:List Nat} (h:OwL w vs xs fp) (hg:∀g∈fp,ok g) {k:Nat} {x:V} (hk:xs[k]?=some x):∃v,vs[k]?=some v/\Rd w ok v x:=by
 obtain⟨v,f,h1,h2,h3⟩:=h.get k x hk;exact⟨v,h1,h2.rd λg h=>hg g (h3 g h)⟩
theorem Ow.lt {w:World} {v:Value} {x:V} {fp:List Nat} (h:Ow w v x fp):∀g∈fp,g < w.heap.size:=by
 apply Ow.rec (motive_1:=λv x fp _=>∀g∈fp,g < w.heap.size) (motive_2:=λvs xs fp _=>∀g∈fp,g < w.heap.size) ?_ ?_ ?_ ?_ ?_ h
 .intro v h g hg;simp at hg
 .intro A g hg;simp at hg
 .intro g o n c sz cur e rows fp hb hn hc hm hs hz hl ih k hk
  rcases Vav.1 hk with rfl|hk
  .exact (Vam.1 hb).1
  .exact ih k hk
 .intro g hg;simp at hg
 .intro v x vs xs f1 f2 h hs ih1 ih2 g hg
  rcases Vat.1 hg with hg|hg
  .exact ih1 g hg
  .exact ih2 g hg
theorem OwL.lt {w:World} {vs:List Value} {xs:List V} {fp:List Nat} (h:OwL w vs xs fp):∀g∈fp,g < w.heap.size:=by
 induction xs generalizing vs fp with
 | nil=>cases h;intro g hg;simp at hg
 | cons x xs ih=>
  cases h with
  | cons h hs=>
   intro g hg;rcases Vat.1 hg with hg|hg
   .exact h.lt g hg
   .exact ih hs g hg
theorem OwL.append {w:World} {vs us:List Value} {xs ys:List V} {f1 f2:List Nat} (h1:OwL w vs xs f1) (h2:OwL w us ys f2):OwL w (vs++us) (xs++ys) (f1++f2):=by
 induction xs generalizing vs f1 with
 | nil=>cases h1;exact h2
 | cons x xs ih=>
  cases h1 with
  | cons h hs=>rw[List.append_assoc];exact .cons h (ih hs)
theorem Ow.one {w:World} {v:Value} {x:V} {fp:List Nat} (h:Ow w v x fp):v.oneCell'=true:=by
 cases h with
 | lit h=>cases v<;>simp_all [Q8,Value.oneCell']
 | emp=>rfl
 | tr=>rfl
theorem OwL.one {w:World} {vs:List Value} {xs:List V} {fp:List Nat} (h:OwL w vs xs fp):∀u∈vs,u.oneCell'=true:=by
 induction xs generalizing vs fp with
 | nil=>cases h;intro u hu;simp at hu
 | cons x xs ih=>
  cases h with
  | cons h hs=>
   intro u hu;rcases Vav.1 hu with rfl|hu
   .exact h.one
   .exact ih hs u hu
theorem Rd.one {w:World} {ok:Nat->Prop} {v:Value} {x:V} (h:Rd w ok v x):v.oneCell'=true:=by
 cases h with
 | lit h=>cases v<;>simp_all [Q8,Value.oneCell']
 | emp=>rfl
 | tr=>rfl
 | rp=>rfl
 | fn=>rfl
inductive Zq7 where
 | emp
 | blk (g o c sz:Nat)
abbrev Rho:=Id->Option Zq7
inductive En (w:World) (ok:Nat->Prop) (ρ:Rho):Value->V->Prop
 | undef {v:Value}:En w ok ρ v .undef
 | lit {v:Value} (h:Q8 v=true):En w ok ρ v (.lit v)
 | tr {v:Value} {rows:List (List V)} (h:Rd w ok v (.tr rows)):En w ok ρ v (.tr rows)
 | vw {v:Value} {rows:List (List V)} (h:Rd w ok v (.tr rows)):En w ok ρ v (.vw rows)
 | rp {v:Value} {sh:Bool} {row:List V} {off:Nat} (h:Rd w ok v (.rp sh row off)):En w ok ρ v (.rp sh row off)
 | ptr {id:Id} {g o c sz i off:Nat} (h:ρ id=some (.blk g o c sz)):En w ok ρ (.pointer (some ⟨g,o+i*sz+off,none⟩)) (.ptr id i off)
 | sl {id:Id} {g o c sz off len:Nat} (h:ρ id=some (.blk g o c sz)) (hc:off+len<=c):En w ok ρ (.slice (some ⟨g,o+off*sz,none⟩) len (c - off)) (.sl id off len)
 | sle {id:Id} {A:Option Addr} {off:Nat} (h:(ρ id).isSome=true):En w ok ρ (.slice A 0 0) (.sl id off 0)
 | fn {f:FuncId} {vs:Array Value} {caps:List V} (hl:vs.size=caps.length) (hr:∀(k:Nat) (v:Value) (x:V),vs[k]?=some v->caps[k]?=some x->En w ok ρ v x):En w ok ρ (.func (.func f) #[] vs) (.fn f caps)
 | agg {vs:Array Value} {cs:List V} (hl:vs.size=cs.length) (hc:∀x∈cs,cellish x=true) (hr:∀(k:Nat) (v:Value) (x:V),vs[k]?=some v->cs[k]?=some x->En w ok ρ v x):En w ok ρ (.agg vs) (.agg cs)
 | tup {vs:Array Value} {cs:List V} (hl:vs.size=cs.length) (hr:∀(k:Nat) (v:Value) (x:V),vs[k]?=some v->cs[k]?=some x->En w ok ρ v x):En w ok ρ (.tuple vs) (.tup cs)
structure Zse (w w':World) (ok ok':Nat->Prop):Prop where
 heap:∀g,ok g->g < w.heap.size->w'.heap[g]?=w.heap[g]?
 ok_lt:∀g,ok g->g < w.heap.size->ok' g
 size:w.heap.size<=w'.heap.size
theorem Rd.keep {w w':World} {ok ok':Nat->Prop} (hk:Zse w w' ok ok') {v:Value} {x:V} (h:Rd w (λg=>ok g/\g < w.heap.size) v x):Rd w' (λg=>ok' g/\g < w'.heap.size) v x:=
 h.mono (λg hg _=>hk.heap g hg.1 hg.2) (λg hg=>⟨hk.ok_lt g hg.1 hg.2,Va9 hg.2 hk.size⟩)
theorem En.keep {w w':World} {ok ok':Nat->Prop} {ρ ρ':Rho} (hk:Zse w w' ok ok') (hρ:∀id i,ρ id=some i->ρ' id=some i) {v:Value} {x:V} (h:En w (λg=>ok g/\g < w.heap.size) ρ v x):
  En w' (λg=>ok' g/\g < w'.heap.size) ρ' v x:=by
 induction h with
 | undef=>exact .undef
 | lit h=>exact .lit h
 | tr h=>exact .tr (h.keep hk)
 | vw h=>exact .vw (h.keep hk)
 | rp h=>exact .rp (h.keep hk)
 | ptr h=>exact .ptr (hρ _ _ h)
 | sl h hc=>exact .sl (hρ _ _ h) hc
 | sle h=>
  refine .sle ?_;obtain⟨i,hi⟩:=Val.1 h;rw[hρ _ _ hi];rfl
 | fn hl hr ih=>exact .fn hl ih
 | agg hl hc hr ih=>exact .agg hl hc ih
 | tup hl hr ih=>exact .tup hl ih
def tops (s:St) (ρ:Rho) (g:Nat):Prop:=∃id b o c sz,s.heap id=some b/\b.own=true/\ρ id=some (.blk g o c sz)
def okS (s:St) (ρ:Rho) (w:World) (g:Nat):Prop:=¬tops s ρ g/\g < w.heap.size
def Xg (P:Program) (w:World) (ok:Nat->Prop) (ρ:Rho) (i:Option Zq7) (F:List Nat) (b:Blk):Prop:=
 match b.box,b.own with
 | true,_=>b.own=true/\∃g cur e row,i=some (.blk g 0 1 row.length)/\w.heap[g]?=some (.cells cur e (0,0))/\b.rows=[row]/\cur.size=row.length/\
   (∀(k:Nat) (v:Value) (x:V),cur[k]?=some v->row[k]?=some x->En w ok ρ v x)/\(∀x∈row,cellish x=true)/\F=[g]
 | false,true=>(i=some .emp/\b.rows=[]/\F=[])\/
   ∃g o c cur,i=some (.blk g o c (P.cellsOf b.el))/\w.heap[g]?=some (.cells cur b.el (0,0))/\b.rows.length<=c/\c<=maxLen/\(∀r∈b.rows,r.length=P.cellsOf b.el)/\o+c*P.cellsOf b.el=cur.size/\
    ∃fp,F=g::fp/\(b.cl=true->OwL w ((cur.toList.drop o).take (b.rows.length*P.cellsOf b.el)) b.rows.flatten fp)/\
     (b.cl=false->fp=[]/\∀(k:Nat) (x:V),b.rows.flatten[k]?=some x->∃v,cur[o+k]?=some v/\Rd w ok v x)
 | false,false=>F=[]/\((i=some .emp/\b.rows=[])\/∃g o c sz,i=some (.blk g o c sz)/\(∀r∈b.rows,r.length=sz)/\Rd w ok (.slice (some ⟨g,o,none⟩) b.rows.length c) (.tr b.rows))
theorem Xg.mkBox {P:Program} {w:World} {ok:Nat->Prop} {ρ:Rho} {i:Option Zq7} {F:List Nat} {b:Blk} (Xi:b.box=true) (Yc:b.own=true) {g:Nat} {cur:Array Value} {e:TypeId} {row:List V} (hi:i=some (.blk g 0 1 row.length)) (hg:w.heap[g]?=some (.cells cur e (0,0))) (hr:b.rows=[row]) (hs:cur.size=row.length)
  (he:∀(k:Nat) (v:Value) (x:V),cur[k]?=some v->row[k]?=some x->En w ok ρ v x) (hc:∀x∈row,cellish x=true) (hF:F=[g]):Xg P w ok ρ i F b:=by
 unfold Xg;rw[Xi];exact⟨Yc,g,cur,e,row,hi,hg,hr,hs,he,hc,hF⟩
theorem Xg.mkRow {P:Program} {w:World} {ok:Nat->Prop} {ρ:Rho} {i:Option Zq7} {F:List Nat} {b:Blk} (Xi:b.box=false) (Yc:b.own=true) {g o c:Nat} {cur:Array Value} {fp:List Nat} (hi:i=some (.blk g o c (P.cellsOf b.el))) (hg:w.heap[g]?=some (.cells cur b.el (0,0))) (hl:b.rows.length<=c) (hm:c<=maxLen)
  (hu:∀r∈b.rows,r.length=P.cellsOf b.el) (hz:o+c*P.cellsOf b.el=cur.size) (hF:F=g::fp) (h1:b.cl=true->OwL w ((cur.toList.drop o).take (b.rows.length*P.cellsOf b.el)) b.rows.flatten fp)
  (h2:b.cl=false->fp=[]/\∀(k:Nat) (x:V),b.rows.flatten[k]?=some x->∃v,cur[o+k]?=some v/\Rd w ok v x):Xg P w ok ρ i F b:=by
 unfold Xg;rw[Xi,Yc];exact .inr ⟨g,o,c,cur,hi,hg,hl,hm,hu,hz,fp,hF,h1,h2⟩
theorem Xg.mkEmp {P:Program} {w:World} {ok:Nat->Prop} {ρ:Rho} {i:Option Zq7} {F:List Nat} {b:Blk} (Xi:b.box=false) (Yc:b.own=true) (hi:i=some .emp) (hr:b.rows=[]) (hF:F=[]):Xg P w ok ρ i F b:=by
 unfold Xg;rw[Xi,Yc];exact .inl ⟨hi,hr,hF⟩
def Zzm (i:Option Zq7):Prop:=∃g o c sz,i=some (.blk g o c sz)/\0 < c
class Anchor where
 w:World
def Anch [A:Anchor] (w:World) (T:Nat->Prop):Prop:=A.w.heap.size<=w.heap.size/\(∀k,k < A.w.heap.size->w.heap[k]?=A.w.heap[k]?)/\∀g,T g->A.w.heap.size<=g
structure Zxe [Anchor] (B:Nat) (io:Nat->Prop) (w:World):Prop where
 base:B<=w.heap.size
 anch:Anch w (λg=>io g\/B<=g)
variable [Anchor]
structure Rel (P:Program) (B:Nat) (io:Nat->Prop) (w:World) (tmps:Array Value) (s:St) (ρ:Rho) (F:Id->List Nat) (fl:List Nat):Prop where
 env:∀(t:Nat) (v:Value),tmps[t]?=some v->En w (okS s ρ w) ρ v (s.env t)
 out:∀t,tmps.size<=t->s.env t=.undef
 heap:∀id b,s.heap id=some b->Xg P w (okS s ρ w) ρ (ρ id) (F id) b
 mine:∀id b,s.heap id=some b->b.own=true->∀g∈F id,g < w.heap.size
 top:∀id b,s.heap id=some b->b.own=true->Zzm (ρ id)->∀g,(F id).head?=some g->io g\/B<=g
 apart:∀id id' b b',s.heap id=some b->b.own=true->s.heap id'=some b'->b'.own=true->id≠id'->∀g∈F id,g ∉ F id'
 once:∀id b,s.heap id=some b->b.own=true->(F id).Nodup
 dom:∀id,(ρ id).isSome=true->id.1<=s.ep
 base0:Zxe B io w
 flMine:∀g∈fl,g < w.heap.size
 flApart:∀id b,s.heap id=some b->b.own=true->∀g∈F id,g ∉ fl
 flOnce:fl.Nodup
structure Wm (B:Nat) (io:Nat->Prop) (w w':World):Prop where
 os:w'.os=w.os
 tape:w'.tape=w.tape
 output:w'.output=w.output
 size:w.heap.size<=w'.heap.size
 block:∀k,k < B->¬io k->w'.heap[k]?=w.heap[k]?
theorem Zxe.step {B:Nat} {io:Nat->Prop} {w w':World} (h:Zxe B io w) (hs:w.heap.size<=w'.heap.size) (hA:∀k,k < B->¬io k->w'.heap[k]?=w.heap[k]?):Zxe B io w':=
 ⟨Vb4 h.base hs,Vb4 h.anch.1 hs,λk hk=>by
  rw[hA k (by
   refine Nat.lt_of_not_le (λhle=>?_);have:=h.anch.2.2 k (.inr hle);omega) (λhio=>by have:=h.anch.2.2 k (.inl hio);omega)]
  exact h.anch.2.1 k hk,h.anch.2.2⟩
theorem Zxe.left {B:Nat} {io:Nat->Prop} {w w':World} (h:Zxe B io w) (hl:Wm B io w w'):Zxe B io w':=h.step hl.size hl.block
theorem Rel.base {P:Program} {B:Nat} {io:Nat->Prop} {w:World} {tmps:Array Value} {s:St} {ρ:Rho} {F:Id->List Nat} {fl:List Nat} (h:Rel P B io w tmps s ρ F fl):B<=w.heap.size:=h.base0.base
theorem Wm.refl (B:Nat) (io:Nat->Prop) (w:World):Wm B io w w:=⟨rfl,rfl,rfl,Vaw _,λ_ _ _=>rfl⟩
theorem Wm.trans {B:Nat} {io:Nat->Prop} {a b c:World} (h:Wm B io a b) (k:Wm B io b c):Wm B io a c:=
 ⟨k.os.trans h.os,k.tape.trans h.tape,k.output.trans h.output,Vb4 h.size k.size,λi hi hn=>(k.block i hi hn).trans (h.block i hi hn)⟩
theorem Wm.below {B:Nat} {w w':World} (h:Wm B (λ_=>False) w w'):Below B w w':=⟨h.os,h.tape,h.output,h.size,λk hk=>h.block k hk id⟩
theorem Xg.top {P:Program} {w:World} {ok:Nat->Prop} {ρ:Rho} {g o c sz:Nat} {F:List Nat} {b:Blk} (h:Xg P w ok ρ (some (.blk g o c sz)) F b) (ho:b.own=true):g∈F:=by
 unfold Xg at h;split at h
 .obtain⟨_,g',cur,e,row,hi,_,_,_,_,_,hF⟩:=h
  cases hi;rw[hF];exact Vab
 .rcases h with⟨hi,_⟩|⟨g',o',c',cur,hi,_,_,_,_,_,fp,hF,_⟩
  .cases hi
  .cases hi
   rw[hF];exact Vab
 .rename_i h1 h2
  rw[ho] at h2;cases h2
theorem Xg.keep {P:Program} {w w':World} {ok ok':Nat->Prop} {ρ ρ':Rho} {i:Option Zq7} {F:List Nat} {b:Blk} (hk:Zse w w' ok ok') (hρ:∀id i,ρ id=some i->ρ' id=some i)
  (h:Xg P w (λg=>ok g/\g < w.heap.size) ρ i F b) (hF:∀g∈F,w'.heap[g]?=w.heap[g]?):Xg P w' (λg=>ok' g/\g < w'.heap.size) ρ' i F b:=by
 unfold Xg at h ⊢;split at h
 .obtain⟨h1,g,cur,e,row,hi,hg,hr,hs,he,h1c,rfl⟩:=h
  exact⟨h1,g,cur,e,row,hi,by rw[hF g Vab];exact hg,hr,hs,λk v x hv hx=>(he k v x hv hx).keep hk hρ,h1c,rfl⟩
 .rcases h with h|⟨g,o,c,cur,hi,hg,hl,hm,hu,hz,fp,rfl,h1,h2⟩
  .exact .inl h
  .refine .inr ⟨g,o,c,cur,hi,by rw[hF g Vab];exact hg,hl,hm,hu,hz,fp,rfl,λhc=>(h1 hc).frame λk W9=>hF k (Vad _ W9),λhc=>⟨(h2 hc).1,λk x hx=>?_⟩⟩
   obtain⟨v,hv,hr⟩:=(h2 hc).2 k x hx;exact⟨v,hv,hr.keep hk⟩
 .obtain⟨h0,h⟩:=h
  refine⟨h0,?_⟩;rcases h with h|⟨g,o,c,sz,hi,hu,hr⟩
  .exact .inl h
  .exact .inr ⟨g,o,c,sz,hi,hu,hr.keep hk⟩
end Go.Proofs.YtagdmghmblplbaaGreat.Ev
namespace Go.Proofs.YtagdmghmblplbaaGreat.Ev
open Go Go.RowKit
variable [Anchor]
theorem Ymn {α:Type} {P:Program} {x:Sem α} {a:α} (h:eval? P x=some a) (w:World):x.run P w=.ok a w:=by
 induction x with
 | pure b=>simp only[eval?,ZZd] at h;subst h;rfl
 | program k ih=>simp only[eval?] at h;exact ih P h
 | _=>simp[eval?] at h
def OpR (P:Program) (o:Oper) (a:Act) (w:World) (Post:Value->World->Prop):Prop:=
 match (execOp a.eval o).run P w with
 | .ok (.value v) w'=>Post v w'
 | .ok .skip w'=>Post undef w'
 | _=>False
theorem OpR.wp {P:Program} {o:Oper} {a:Act} {w:World} {Post:Value->World->Prop} (h:OpR P o a w Post) {K:Act->World->Prop} {Q:Exit->Act->World->Prop} (hK:∀v w',Post v w'->K (a.put o.dst v) w'):o.wp P a w K Q:=by
 unfold OpR at h;unfold Oper.wp;split at h
 .rename_i heq;rw[heq];exact hK _ _ h
 .rename_i heq;rw[heq];exact hK _ _ h
 .exact h.elim
theorem OpR.value {P:Program} {o:Oper} {a:Act} {w w':World} {v:Value} {Post:Value->World->Prop} (h:(execOp a.eval o).run P w=.ok (.value v) w') (hp:Post v w'):OpR P o a w Post:=by
 unfold OpR;rw[h];exact hp
theorem OpR.skip {P:Program} {o:Oper} {a:Act} {w w':World} {Post:Value->World->Prop} (h:(execOp a.eval o).run P w=.ok .skip w') (hp:Post undef w'):OpR P o a w Post:=by
 unfold OpR;rw[h];exact hp
theorem Ztq {ρ ρ':Operand->Value} {o:Oper} (hp:Zj9 o.op=true) (h:∀x∈o.op.operands.toList,ρ x=ρ' x):execOp ρ o=execOp ρ' o:=by
 obtain⟨dst,op,type,pos,after,guard⟩:=o;cases op<;>simp only[Zj9,ZZf] at hp
 case binOp op t x y yt=>
  have h1:=h x (by simp[Op.operands]);have h2:=h y (by simp[Op.operands]);simp only[execOp,h1,h2]
 case unOp op t x=>
  have h1:=h x (by simp[Op.operands]);simp only[execOp,h1]
 case convert s d x=>
  have h1:=h x (by simp[Op.operands]);simp only[execOp,h1]
 case field t x i=>
  have h1:=h x (by simp[Op.operands]);simp only[execOp,h1]
 case index t x i=>
  have h1:=h x (by simp[Op.operands]);have h2:=h i (by simp[Op.operands]);simp only[execOp,h1,h2]
 case slice t x l hi m=>
  have h1:=h x (by simp[Op.operands]);have h2:l.map ρ=l.map ρ':=by cases l<;>simp;exact h _ (by simp[Op.operands])
  have h3:hi.map ρ=hi.map ρ':=by cases hi<;>simp;exact h _ (by simp[Op.operands])
  have h4:m.map ρ=m.map ρ':=by cases m<;>simp;exact h _ (by simp[Op.operands])
  simp only[execOp,h1,h2,h3,h4]
 case call c=>
  obtain⟨callee,args,ats⟩:=c;have ha:∀b:Builtin,callee=.builtin b->args.map ρ=args.map ρ':=by
   intro b hb;apply Array.map_congr_left;intro x hx;exact h x (by simp[Op.operands,Call.operands,hb];exact hx)
  cases callee with
  | value f=>simp at hp
  | invoke r m=>simp at hp
  | builtin b=>simp only[execOp,resolve,ha b rfl]
theorem Yz4 {w:World} {ok:Nat->Prop} {ρ:Rho} {v v':Value} {x:V} (h:En w ok ρ v x) (ht:Xu x=some v'):v=v':=by
 cases x<;>simp only[Xu] at ht<;>try cases ht
 case lit=>cases h;rfl
 case agg cs=>
  cases h with
  | @agg vs _ hl hc hr=>
   cases hL:Zbw cs with
   | none=>rw[hL] at ht;cases ht
   | some l=>
    rw[hL] at ht;simp only[Var,ZZd] at ht;subst ht
    congr 1
    have key:∀(cs:List V) (l:List Value),Zbw cs=some l->cs=l.map .lit:=by
     intro cs
     induction cs with
     | nil=>intro l h;simp only[Zbw,ZZd] at h;subst h;rfl
     | cons c cs ih=>
      intro l h;cases c<;>simp only[Zbw] at h<;>try cases h
      rename_i v;cases hr:Zbw cs with
      | none=>rw[hr] at h;cases h
      | some l'=>rw[hr] at h;simp only[Var,ZZd] at h;subst h;rw[ih l' hr];rfl
    have Kj:=key cs l hL;subst Kj;apply Array.ext_getElem?;intro k;rw[Vcg] at hl;simp only[Vcs];by_cases hk:k < vs.size
    .have h1:vs[k]?=some vs[k]:=Vaf hk
     have h2:l[k]?=some (l[k]'(by omega)):=Vac (by omega);have h3:=hr k vs[k] (.lit (l[k]'(by omega))) h1 (by rw[Va8,h2];rfl);rw[h1,h2];generalize (l[k]'(by omega))=y at h3;generalize vs[k]=z at h3;cases h3;rfl
    .rw[Vd8 (by omega),Vb7 (by omega)]
theorem Yck {w:World} {ok:Nat->Prop} {ρ:Rho} {v:Value} {x:V} (h:Zk3 v=some x):En w ok ρ v x:=by
 unfold Zk3 at h;split at h
 .split at h
  .rename_i cs hs
   simp only[ZZd] at h;subst h;refine .agg (by simp) (λx hx=>by obtain⟨u,_,rfl⟩:=Vbd.1 hx;rfl) (λk v x hv hx=>?_);simp only[Va8,ZZc] at hx;obtain⟨u,hu,rfl⟩:=hx;have:u=v:=by
    have h1:cs.toList[k]?=some v:=by simpa using hv
    rw[h1] at hu;injection hu with hu;exact hu.symm
   subst this;exact .lit (ZZk.1 hs _ (Vag hu))
  .cases h
 .split at h
  .rename_i hs
   simp only[ZZd] at h;subst h;exact .lit hs
  .cases h
theorem Rel.opV {P:Program} {B:Nat} {io:Nat->Prop} {w:World} {a:Act} {s:St} {ρ:Rho} {F:Id->List Nat} {fl:List Nat} (h:Rel P B io w a.tmps s ρ F fl) (x:Operand):En w (okS s ρ w) ρ (a.eval x) (s.opV x):=by
 cases x with
 | tmp t=>
  simp only[St.opV,Act.eval];by_cases ht:t < a.tmps.size
  .have h1:a.tmps[t]?=some a.tmps[t]:=Vaf ht
   have:=h.env t a.tmps[t] h1;rw[Vbg,h1];exact this
  .rw[h.out t (Vde ht)];exact .undef
 | const v=>
  simp only[St.opV,Act.eval];cases hv:Zk3 v with
  | none=>exact .undef
  | some x=>exact Yck hv
 | global g=>exact .undef
 | func f=>exact .fn rfl (λk v x hv hx=>by simp at hx)
structure Stp (P:Program) (B:Nat) (io:Nat->Prop) (w:World) (tmps:Array Value) (s:St) (ρ:Rho) (fl:List Nat) (k:Nat) (v:V) (s':St) (val:Value) (w':World):Prop where
 env:s'.env=s.env
 ep:s'.ep=s.ep
 left:Wm B io w w'
 ex:∃ρ' F',Rel P B io w' tmps s' ρ' F' fl/\En w' (okS s' ρ' w') ρ' val v/\(∀id i,ρ id=some i->ρ' id=some i)/\(∀id,(ρ' id).isSome=true->(ρ id).isSome=true\/(id.1=s.ep/\id.2 / 1024=k))
theorem Stp.same {P:Program} {B:Nat} {io:Nat->Prop} {w:World} {a:Act} {s:St} {ρ:Rho} {F:Id->List Nat} {fl:List Nat} {k:Nat} {v:V} {val:Value} (h:Rel P B io w a.tmps s ρ F fl) (hv:En w (okS s ρ w) ρ val v):Stp P B io w a.tmps s ρ fl k v s val w:=
 ⟨rfl,rfl,Wm.refl _ _ _,ρ,F,h,hv,λ_ _ h=>h,λ_ h=>.inl h⟩
theorem Ywh {P:Program} {B:Nat} {io:Nat->Prop} {w:World} {a:Act} {s:St} {ρ:Rho} {F:Id->List Nat} {fl:List Nat} {k:Nat} {o:Oper} {v:V} (h:Rel P B io w a.tmps s ρ F fl) (he:Xd P s.opV o=some v):
  OpR P o a w (Stp P B io w a.tmps s ρ fl k v s):=by
 unfold Xd at he;split at he
 .rename_i hc
  rw[ZZg] at hc;obtain⟨hp,Qy⟩:=hc;split at he
  .rename_i val hev
   have hcg:execOp a.eval o=execOp (λx=>(Xu (s.opV x)).getD undef) o:=Ztq hp (λx hx=>by
    have h1:=ZZk.1 Qy x hx;obtain⟨u,hu⟩:=Val.1 h1;rw[hu];exact Yz4 (h.opV x) hu)
   exact .value (by rw[hcg];exact Ymn hev w) (.same h (Yck he))
  .cases he
 .cases he
theorem Zdx {α:Type} {sz:Nat}:∀{rows:List (List α)} {i j:Nat} {row:List α} {x:α},(∀r∈rows,r.length=sz)->rows[i]?=some row->row[j]?=some x->rows.flatten[i*sz+j]?=some x:=by
 intro rows
 induction rows with
 | nil=>intro i j row x _ h;simp at h
 | cons r rs ih=>
  intro i j row x hs hi hj;have hr:r.length=sz:=hs r Vab;cases i with
  | zero=>
   have:r=row:=by simpa using hi
   subst this;rw[Vaz,Vaj (by have:=(ZZh.1 hj).1;omega)];simpa using hj
  | succ i=>
   have h1:=ih (λr h=>hs r (Vad _ h)) (by simpa using hi) hj;rw[Vaz,Vah (by rw[hr,Vbv];omega),hr];rw[show (i+1)*sz+j - sz=i*sz+j by rw[Vbv];omega];exact h1
theorem Rd.en {w:World} {ok:Nat->Prop} {ρ:Rho} {v:Value} {x:V} (h:Rd w ok v x):En w ok ρ v x:=by
 induction h with
 | lit h=>exact .lit h
 | emp=>exact .tr .emp
 | tr hn hc hm hs hg hu hr ih=>exact .tr (.tr hn hc hm hs hg hu hr)
 | rp hg hu hr ih=>exact .rp (.rp hg hu hr)
 | fn hl hr ih=>exact .fn hl ih
theorem Rd.cellish {w:World} {ok:Nat->Prop} {v:Value} {x:V} (h:Rd w ok v x):cellish x=true:=by
 cases h<;>rfl
section
variable {P:Program} {B:Nat} {io:Nat->Prop} {w:World} {a:Act} {tmps:Array Value} {s:St} {ρ:Rho} {F:Id->List Nat} {fl:List Nat}
theorem Rel.cell (h:Rel P B io w tmps s ρ F fl) {id:Id} {b:Blk} {g o c sz i j:Nat} {row:List V} {x:V} (hb:s.heap id=some b) (hρ:ρ id=some (.blk g o c sz)) (hi:b.rows[i]?=some row) (hj:row[j]?=some x):
  ∃u,w.cell? ⟨g,o+i*sz+j,none⟩=some u/\(b.box=true->En w (okS s ρ w) ρ u x)/\(b.box=false->Rd w (okS s ρ w) u x):=by
 have hB:=h.heap id b hb;rw[hρ] at hB;have hF:b.own=true->∀k∈F id,k≠g->okS s ρ w k:=λho k hk Yf=>by
  refine⟨?_,h.mine id b hb ho k hk⟩;rintro⟨id',b',o',c',sz',Yb,Q2,hρ'⟩;have ht:k∈F id':=by
   have:=h.heap id' b' Yb;rw[hρ'] at this;exact this.top Q2
  by_cases e:id'=id
  .subst e
   rw[hρ] at hρ';injection hρ' with hρ';injection hρ' with hg;exact Yf hg.symm
  .exact h.apart id' id b' b Yb Q2 hb ho e k ht hk
 unfold Xg at hB;split at hB
 .rename_i Xi
  obtain⟨_,g',cur,e,row',Yj,hg,hr,hs,he,h1,_⟩:=hB;cases Yj;rw[hr] at hi;have:i=0/\row'=row:=by
   cases i with
   | zero=>exact⟨rfl,by simpa using hi⟩
   | succ i=>simp at hi
  obtain⟨rfl,rfl⟩:=this;have hjl:=(ZZh.1 hj).1;have hc:cur[j]?=some cur[j]:=Vaf (by omega);refine⟨cur[j],?_,λ_=>he j _ x hc hj,λhf=>by rw[Xi] at hf;cases hf⟩;rw[show 0+0*row'.length+j=j by omega,cell_of_row w g j cur e (0,0) hg];exact hc
 .rename_i Xi Yc
  rcases hB with⟨Yj,_⟩|⟨g',o',c',cur,Yj,hg,hl,hm,hu,hz,fp,hFe,h1,h2⟩
  .cases Yj
  .cases Yj
   have hk:=Zdx hu hi hj;cases X8:b.cl with
   | true=>
    have hfp:∀k∈fp,okS s ρ w k:=λk hk=>hF Yc k (by rw[hFe];exact Vad _ hk) (by
     rintro rfl;have:=h.once id b hb Yc;rw[hFe] at this;exact (Vay.1 this).1 hk)
    obtain⟨v,hv,hr⟩:=(h1 X8).rd hfp hk;refine⟨v,?_,λhf=>(by rw[Xi] at hf;cases hf),λ_=>hr⟩;rw[Vai] at hv;split at hv
    .rw[cell_of_row w g _ cur b.el (0,0) hg,Nat.add_assoc]
     simpa using hv
    .cases hv
   | false=>
    obtain⟨v,hv,hr⟩:=(h2 X8).2 _ x hk;refine⟨v,?_,λhf=>(by rw[Xi] at hf;cases hf),λ_=>hr⟩;rw[cell_of_row w g _ cur b.el (0,0) hg,Nat.add_assoc];exact hv
 .rename_i Xi Yc
  obtain⟨_,hB⟩:=hB;rcases hB with⟨Yj,_⟩|⟨g',o',c',sz',Yj,hu,hr⟩
  .cases Yj
  .cases Yj
   have hk:=Zdx hu hi hj;generalize b.rows=rows at hr hi hk hu;generalize hn:rows.length=n at hr;cases hr with
   | emp=>simp at hi
   | @tr _ _ _ _ sz2 _ u hn' hc' hm' hs' Z7 hu' Jx=>
    have:=hu' _ x hk;exact⟨u (i*sz+j),by rw[Nat.add_assoc];exact this,λhf=>(by rw[Xi] at hf;cases hf),λ_=>Jx _ x hk⟩
theorem Rel.boxCells (h:Rel P B io w tmps s ρ F fl) {id:Id} {b:Blk} {j:Nat} {row:List V} (hb:s.heap id=some b) (Xi:b.box=true) (hr:b.rows[j]?=some row):∀x∈row,cellish x=true:=by
 have hB:=h.heap id b hb;unfold Xg at hB;rw[Xi] at hB;obtain⟨_,g,cur,e,row',_,_,hrs,_,_,hc,_⟩:=hB;rw[hrs] at hr;cases j with
 | zero=>
      have:row'=row:=by simpa using hr
      subst this;exact hc
 | succ j=>simp at hr
end
section
variable {P:Program} {B:Nat} {io:Nat->Prop} {w:World} {a:Act} {s:St} {ρ:Rho} {F:Id->List Nat} {fl:List Nat} {k:Nat} {o:Oper} {v:V}
theorem Ysy (h:Rel P B io w a.tmps s ρ F fl) {x:Operand} (ho:o.op=.move x\/o.op=.assign x) (he:s.opV x=v):OpR P o a w (Stp P B io w a.tmps s ρ fl k v s):=by
 subst he;have hr:(execOp a.eval o).run P w=.ok (.value (a.eval x)) w:=by
  rcases ho with ho|ho<;>simp[execOp,ho]
 exact .value hr (.same h (h.opV x))
theorem Y2h (h:Rel P B io w a.tmps s ρ F fl) {c x y:Operand} {t:Bool} (ho:o.op=.pick c x y) (hc:s.opV c=.lit (.bool t)) (he:(if t then s.opV x else s.opV y)=v):OpR P o a w (Stp P B io w a.tmps s ρ fl k v s):=by
 have h1:=h.opV c;rw[hc] at h1;generalize hb:a.eval c=b at h1;cases h1;have hr:(execOp a.eval o).run P w=.ok (.value (if t then a.eval x else a.eval y)) w:=by
  cases t<;>simp[execOp,ho,hb,asBool]
 refine .value hr (.same h ?_);subst he;cases t
 .exact h.opV y
 .exact h.opV x
theorem Yur (h:Rel P B io w a.tmps s ρ F fl) {t:Operand} {i:Nat} {vs:List V} (ho:o.op=.extract t i) (ht:s.opV t=.tup vs) (he:vs[i]?=some v):OpR P o a w (Stp P B io w a.tmps s ρ fl k v s):=by
 have h1:=h.opV t;rw[ht] at h1;generalize hb:a.eval t=b at h1;cases h1 with
 | @tup us _ hl hr=>
  have hi:=(ZZh.1 he).1;have hu:us[i]?=some us[i]:=Vaf (by omega);have Yt:(execOp a.eval o).run P w=.ok (.value us[i]) w:=by
   simp[execOp,ho,hb,Instr.extract,hu]
  exact .value Yt (.same h (hr i _ _ hu he))
theorem Z1g (h:Rel P B io w a.tmps s ρ F fl) {x:Operand} (ho:o.op=.nilCheck x) (hx:s.opV x=v) (hv:(∃i j n,v=.ptr i j n)\/(∃b r n,v=.rp b r n)\/(∃f cs,v=.fn f cs)):OpR P o a w (Stp P B io w a.tmps s ρ fl k v s):=by
 have h1:=h.opV x;rw[hx] at h1;have Yt:(execOp a.eval o).run P w=.ok (.value (a.eval x)) w:=by
  generalize hb:a.eval x=b at h1;rcases hv with⟨i,j,n,rfl⟩|⟨b',r,n,rfl⟩|⟨f,cs,rfl⟩
  .cases h1;simp[execOp,ho,hb]
  .cases h1 with|rp h2=>cases h2;simp[execOp,ho,hb]
  .cases h1;simp[execOp,ho,hb]
 exact .value Yt (.same h h1)
theorem Zah (g o n:Nat):(⟨g,o,none⟩:Addr).add n=⟨g,o+n,none⟩:=by
 unfold Addr.add;split<;>simp_all
theorem Z72 (h:Rel P B io w a.tmps s ρ F fl) {t:TypeId} {x:Operand} {f off:Nat} (ho:o.op=.fieldAddr t x f) (hf:Zu7 P t f=some off)
  (hv:(∃i j n,s.opV x=.ptr i j n/\v=.ptr i j (n+off))\/(∃b r n,s.opV x=.rp b r n/\v=.rp b r (n+off))):OpR P o a w (Stp P B io w a.tmps s ρ fl k v s):=by
 unfold Zu7 at hf;split at hf
 .rename_i fs hu
  obtain⟨fl,Q9,hf⟩:=ZZb.1 hf;split at hf
  .cases hf
  .rename_i Ws
   simp only[ZZd] at hf;subst hf;have Yvr:∃ti,P.info? fl.type=some ti/\ti.size≠0:=by
    unfold Program.cellsOf at Ws;cases hq:P.info? fl.type with
    | none=>rw[hq] at Ws;simp at Ws
    | some ti=>rw[hq] at Ws;exact⟨ti,rfl,by simpa using Ws⟩
   obtain⟨ti,hti,Yf⟩:=Yvr;have run:∀ad:Addr,a.eval x=.pointer (some ad)->(execOp a.eval o).run P w=.ok (.value (.pointer (some (ad.add fl.offset)))) w:=by
    intro ad hb;simp[execOp,ho,hb,Instr.fieldAt,underlying,hu,Q9,Instr.sureAddr,fieldPlace,Go.sizeOf,typeInfo,hti,Yf]
   have h1:=h.opV x;rcases hv with⟨i,j,n,hx,rfl⟩|⟨b',r,n,hx,rfl⟩
   .rw[hx] at h1
    generalize hb:a.eval x=b at h1;cases h1 with
    | @ptr _ g o' c sz _ _ hρ=>
     refine .value (run _ hb) (.same h ?_);rw[Zah,Nat.add_assoc (o'+j*sz)];exact .ptr hρ
   .rw[hx] at h1
    generalize hb:a.eval x=b at h1;cases h1 with
    | rp h2=>
     cases h2 with
     | @rp g o' _ _ _ u hg hu hr=>
      refine .value (run _ hb) (.same h ?_);rw[Zah,Nat.add_assoc o'];exact .rp (.rp hg hu hr)
 .cases hf
theorem Zbi {t e:TypeId} (h:Wd P t=some e):P.underlying t=some (.slice e):=by
 unfold Wd at h;split at h
 .rename_i e' hu;simp only[ZZd] at h;subst h;exact hu
 .cases h
theorem Zxq {w:World} {ok:Nat->Prop} {u:Value} {x:V} {n:Nat} (h:En w ok ρ u x) (hn:Xq x=some n):∃kd,u=.int kd (n:Int):=by
 unfold Xq at hn;split at hn
 .rename_i kd m
  split at hn
  .rename_i h0
   simp only[ZZd] at hn;cases h;exact⟨kd,by rw[<-hn,Int.toNat_of_nonneg h0]⟩
  .cases hn
 .cases hn
theorem Zzc (h:Rel P B io w a.tmps s ρ F fl) {t e:TypeId} {x ix:Operand} {n:Nat} (ho:o.op=.indexAddr t x ix) (ht:Wd P t=some e) (hn:Xq (s.opV ix)=some n)
  (hv:(∃i off len b row,s.opV x=.sl i off len/\n < len/\s.heap i=some b/\b.rows[off+n]?=some row/\row.length=Zx P e/\v=.ptr i (off+n) 0)\/
   (∃sh rows row,(s.opV x=.tr rows\/s.opV x=.vw rows)/\rows[n]?=some row/\row.length=Zx P e/\v=.rp sh row 0)) (hz:Zx P e≠0):OpR P o a w (Stp P B io w a.tmps s ρ fl k v s):=by
 have hu:=Zbi ht;obtain⟨ti,hti,Ws⟩:∃ti,P.info? e=some ti/\ti.size=Zx P e:=by
  unfold Zx Program.cellsOf at hz ⊢;cases hq:P.info? e with
  | none=>rw[hq] at hz;simp at hz
  | some ti=>exact⟨ti,rfl,rfl⟩
 obtain⟨kd,hi⟩:=Zxq (h.opV ix) hn;have run:∀(ad:Addr) (len c:Nat),a.eval x=.slice (some ad) len c->n < len->(execOp a.eval o).run P w=.ok (.value (.pointer (some (ad.add (n*Zx P e))))) w:=by
  intro ad len c hb hl;have h1:(0:Int)<=(n:Int)/\(n:Int) < (len:Int):=⟨by omega,by omega⟩;simp[execOp,ho,hb,hi,Instr.indexAt,asIntOf,underlying,hu,Go.sizeOf,typeInfo,hti,Ws,hl]
 have h1:=h.opV x;rcases hv with⟨i,off,len,b,row,hx,hl,hb,Yx,hrl,rfl⟩|⟨sh,rows,row,hx,Yx,hrl,rfl⟩
 .rw[hx] at h1
  generalize hq:a.eval x=q at h1;cases h1 with
  | @sl _ g o' c sz _ _ hρ hc=>
   have hB:=h.heap i b hb;rw[hρ] at hB;have Y0s:sz=Zx P e:=by
    unfold Xg at hB;split at hB
    .obtain⟨_,g',cur,e',row',Yj,hg,hr,hs,he,h1,_⟩:=hB
     cases Yj;rw[hr] at Yx;cases hcc:off+n with
     | zero=>
          rw[hcc] at Yx;have:row'=row:=by simpa using Yx
          rw[this];exact hrl
     | succ m=>rw[hcc] at Yx;simp at Yx
    .rcases hB with⟨Yj,_⟩|⟨g',o'',c',cur,Yj,hg,hl',hm,hu',hz',fp,hFe,h1,h2⟩
     .cases Yj
     .cases Yj
      rw[<-hu' row (Vag Yx)];exact hrl
    .obtain⟨_,hB⟩:=hB
     rcases hB with⟨Yj,_⟩|⟨g',o'',c',sz',Yj,hu',hr⟩
     .cases Yj
     .cases Yj
      rw[<-hu' row (Vag Yx)];exact hrl
   refine .value (run _ _ _ hq hl) (.same h ?_);rw[Zah,<-Y0s,Nat.add_assoc,<-Nat.add_mul];exact .ptr (off:=0) hρ
  | sle=>omega
 .generalize hq:a.eval x=q at h1
  have h2:Rd w (okS s ρ w) q (.tr rows):=by
   rcases hx with hx|hx
   .rw[hx] at h1;cases h1 with|tr h=>exact h
   .rw[hx] at h1;cases h1 with|vw h=>exact h
  cases h2 with
  | emp=>simp at Yx
  | @tr g o' m c sz _ u hn' hc' hm' hs' Z7 hu' Jx=>
   have hnl:=(ZZh.1 Yx).1;have Y0s:sz=Zx P e:=by rw[<-hs' row (Vag Yx)];exact hrl
   refine .value (run _ _ _ hq (by omega)) (.same h ?_);rw[Zah,<-Y0s];refine .rp (.rp (off:=0) (u:=λj=>u (n*sz+j)) Z7 (λj x hj=>?_) (λj x hj=>Jx _ x (Zdx hs' Yx hj)));have:=hu' _ x (Zdx hs' Yx hj);show w.cell? ⟨g,o'+n*sz+j,none⟩=_;rw[Nat.add_assoc];exact this
end
section
variable {P:Program} {B:Nat} {io:Nat->Prop} {w:World} {a:Act} {s:St} {ρ:Rho} {F:Id->List Nat} {fl:List Nat} {k:Nat} {o:Oper} {v:V}
theorem Ymx {t:TypeId} {x:Operand} {g n:Nat} {us:List Value} {cs:List V} (ho:o.op=.load t x) (hx:a.eval x=.pointer (some ⟨g,n,none⟩)) (hl:us.length=Zx P t) (X8:us.length=cs.length) (hce:∀x∈cs,cellish x=true)
  (hc:∀j u,us[j]?=some u->w.cell? ⟨g,n+j,none⟩=some u) (he:Zkc P t cs=some v) (Xh:∀(j:Nat) (u:Value) (x:V),us[j]?=some u->cs[j]?=some x->En w (okS s ρ w) ρ u x):
  ∃u,(execOp a.eval o).run P w=.ok (.value u) w/\En w (okS s ρ w) ρ u v:=by
 unfold Zkc at he;split at he
 .rename_i Zxi
  obtain⟨d,hu⟩:=Val.1 Zxi;split at he
  .rename_i Zh3
   simp only[ZZd] at he;subst he;obtain⟨ti,hti⟩:∃ti,P.info? t=some ti:=by
    unfold Program.underlying at hu;split at hu
    .rename_i h;exact⟨_,h⟩
    .rename_i h;exact⟨_,h⟩
    .cases hu
   have Ws:ti.size=us.length:=by rw[hl];simp[Zx,Program.cellsOf,hti]
   have Yt:=run_loadCells_list (P:=P) (w:=w) ⟨g,n,none⟩ us (λj u hj=>by rw[Zah];exact hc j u hj);rw[<-Ws] at Yt;refine⟨.agg us.toArray,?_,(.agg (by simpa using X8) hce (λj u x hj hx=>Xh j u x (by simpa using hj) hx))⟩;cases d<;>simp[Zeo,hu] at Zh3<;>simp[execOp,ho,hx,Instr.loadAt,Instr.sureAddr,loadVar,isAgg,underlying,hu,Go.sizeOf,typeInfo,hti,Yt]
  .rename_i Zh3
   split at he
   .rename_i y
    simp only[ZZd] at he;subst he
    match us,X8 with
    | [u],_=>
     refine⟨u,?_,Xh 0 u y rfl rfl⟩;have h0:=hc 0 u rfl;simp only[Va3] at h0;cases d<;>simp[Zeo,hu] at Zh3<;>simp[execOp,ho,hx,Instr.loadAt,Instr.sureAddr,loadVar,isAgg,underlying,hu,load,Sem.run,h0]
   .cases he
 .cases he
theorem Yss (h:Rel P B io w a.tmps s ρ F fl) {t:TypeId} {x:Operand} (ho:o.op=.load t x)
  (hv:(∃i j n b row,s.opV x=.ptr i j n/\s.heap i=some b/\b.rows[j]?=some row/\n+Zx P t<=row.length/\Zkc P t ((row.drop n).take (Zx P t))=some v)\/
   (∃sh row n,s.opV x=.rp sh row n/\n+Zx P t<=row.length/\Zkc P t ((row.drop n).take (Zx P t))=some v)):OpR P o a w (Stp P B io w a.tmps s ρ fl k v s):=by
 have h1:=h.opV x;rcases hv with⟨i,j,n,b,row,hx,hb,Yx,Yl,he⟩|⟨sh,row,n,hx,Yl,he⟩
 .rw[hx] at h1
  generalize hq:a.eval x=q at h1;cases h1 with
  | @ptr _ g o' c sz _ _ hρ=>
   have cell:∀(m:Nat) (y:V),row[m]?=some y->∃u,w.cell? ⟨g,o'+j*sz+m,none⟩=some u/\(b.box=true->En w (okS s ρ w) ρ u y)/\(b.box=false->Rd w (okS s ρ w) u y):=λm y hy=>h.cell hb hρ Yx hy;have each:∀m:Nat,m < Zx P t->∃u,w.cell? ⟨g,o'+j*sz+n+m,none⟩=some u/\∀y,row[n+m]?=some y->(b.box=true->En w (okS s ρ w) ρ u y)/\(b.box=false->Rd w (okS s ρ w) u y):=by
    intro m hm;have hy:row[n+m]?=some (row[n+m]'(by omega)):=Vac (by omega);obtain⟨u,h2,h3⟩:=cell (n+m) _ hy;refine⟨u,by rw[Nat.add_assoc (o'+j*sz)];exact h2,λy hy'=>?_⟩;rw[hy] at hy';injection hy' with hy';rw[<-hy'];exact h3
   let us:List Value:=List.ofFn λm:Fin (Zx P t)=>Classical.choose (each m.1 m.2)
   have hus:∀(m:Nat) (u:Value),us[m]?=some u->w.cell? ⟨g,o'+j*sz+n+m,none⟩=some u/\∀y,row[n+m]?=some y->(b.box=true->En w (okS s ρ w) ρ u y)/\(b.box=false->Rd w (okS s ρ w) u y):=by
    intro m u hu;obtain⟨hm,rfl⟩:=ZZh.1 hu;have hm':m < Zx P t:=by simpa [us] using hm
    have:=Vb8 (each m hm');simpa [us] using this
   have hul:us.length=Zx P t:=by simp[us]
   obtain⟨u,Yt,Xh⟩:=Ymx (P:=P) (s:=s) (ρ:=ρ) (us:=us) ho hq hul (by rw[hul];simp;omega) (by
     intro x hx;cases Xi:b.box with
     | true=>exact h.boxCells hb Xi Yx x (Vbm (Vby hx))
     | false=>
      obtain⟨m,hm⟩:=Va1 hx;rw[Vai] at hm;split at hm
      .rw[Vau] at hm
       obtain⟨u,_,h3⟩:=cell _ x hm;exact (h3.2 Xi).cellish
      .cases hm) (λm u hu=>(hus m u hu).1) he (λm u y hu hy=>by
     have h3:=(hus m u hu).2;rw[Vai] at hy;split at hy
     .rw[Vau] at hy
      cases Xi:b.box with
      | true=>exact (h3 y hy).1 Xi
      | false=>exact ((h3 y hy).2 Xi).en
     .cases hy)
   exact .value Yt (.same h Xh)
 .rw[hx] at h1
  generalize hq:a.eval x=q at h1;cases h1 with
  | rp h2=>
   cases h2 with
   | @rp g o' _ _ _ uu hg hu hr=>
    let us:List Value:=List.ofFn λm:Fin (Zx P t)=>uu (n+m.1)
    have hus:∀(m:Nat) (u:Value),us[m]?=some u->m < Zx P t/\u=uu (n+m):=by
     intro m u hu;obtain⟨hm,rfl⟩:=ZZh.1 hu;exact⟨by simpa [us] using hm,by simp[us]⟩
    have hul:us.length=Zx P t:=by simp[us]
    obtain⟨u,Yt,Xh⟩:=Ymx (P:=P) (s:=s) (ρ:=ρ) (us:=us) ho hq hul (by rw[hul];simp;omega) (by
      intro x hx;obtain⟨m,hm⟩:=Va1 hx;rw[Vai] at hm;split at hm
      .rw[Vau] at hm
       exact (hr _ x hm).cellish
      .cases hm) (λm u hm=>by
      obtain⟨h3,rfl⟩:=hus m u hm;have hy:row[n+m]?=some (row[n+m]'(by omega)):=Vac (by omega);rw[Nat.add_assoc];exact hu _ _ hy) he (λm u y hm hy=>by
      obtain⟨h3,rfl⟩:=hus m u hm;rw[Vai,ZZj h3,Vau] at hy;exact (hr _ y hy).en)
    exact .value Yt (.same h Xh)
theorem Yn5 (h:Rel P B io w a.tmps s ρ F fl) {x:Operand} {t:TypeId} {n:Nat} (ho:o.op=.call {callee:=.builtin .len,args:=#[x],argTypes:=#[t]}) (ht:(Wd P t).isSome=true)
  (hv:(∃i off,s.opV x=.sl i off n)\/(∃rows,(s.opV x=.tr rows\/s.opV x=.vw rows)/\n=rows.length)) (he:v=.lit (.int .i64 n)):OpR P o a w (Stp P B io w a.tmps s ρ fl k v s):=by
 subst he;obtain⟨e,Wx⟩:=Val.1 ht;have hu:=Zbi Wx;have hq:∃A c,a.eval x=.slice A n c:=by
  have h1:=h.opV x;generalize a.eval x=q at h1;rcases hv with⟨i,off,hx⟩|⟨rows,hx,rfl⟩
  .rw[hx] at h1
   cases h1 with
   | sl=>exact⟨_,_,rfl⟩
   | sle=>exact⟨_,_,rfl⟩
  .have h2:Rd w (okS s ρ w) q (.tr rows):=by
    rcases hx with hx|hx
    .rw[hx] at h1;cases h1 with|tr h=>exact h
    .rw[hx] at h1;cases h1 with|vw h=>exact h
   cases h2 with
   | emp=>exact⟨_,_,rfl⟩
   | tr hn=>exact⟨_,_,by rw[hn]⟩
 obtain⟨A,c,hq⟩:=hq;have hr:(execOp a.eval o).run P w=.ok (.value (.int .i64 n)) w:=by
  simp[execOp,ho,resolve,invoke,builtin,hq,Builtin.len_,underlying,hu,goInt]
 exact .value hr (.same h (.lit rfl))
theorem Yq1 (h:Rel P B io w a.tmps s ρ F fl) {f:FuncId} {caps:Array Operand} (ho:o.op=.makeFunc (.func f) #[] caps) (he:v=.fn f (caps.toList.map s.opV)):OpR P o a w (Stp P B io w a.tmps s ρ fl k v s):=by
 subst he;have hr:(execOp a.eval o).run P w=.ok (.value (.func (.func f) #[] (caps.map a.eval))) w:=by
  simp[execOp,ho,Instr.makeFunc]
 refine .value hr (.same h (.fn (by simp) (λj u x hu hx=>?_)));simp only[Va8,ZZc,Array.getElem?_map] at hu hx;obtain⟨y,hy,rfl⟩:=hu;obtain⟨z,hz,rfl⟩:=hx;have:y=z:=by
  have h1:caps.toList[j]?=some y:=by simpa using hy
  rw[h1] at hz;injection hz
 subst this;exact h.opV y
end
theorem Z1 {α β:Type} [DecidableEq α] (f:α->β) (a:α) (b:β):upd f a b a=b:=by simp[upd]
theorem Yo {α β:Type} [DecidableEq α] {f:α->β} {a x:α} {b:β} (h:x≠a):upd f a b x=f x:=by simp[upd,h]
section
variable {P:Program} {B:Nat} {io:Nat->Prop} {w w':World} {tmps:Array Value} {s s':St} {ρ ρ':Rho} {F F':Id->List Nat} {fl fl':List Nat}
theorem Rel.steps (h:Rel P B io w tmps s ρ F fl) (N:Id->Prop) (Jo:∀t v,tmps[t]?=some v->En w' (okS s' ρ' w') ρ' v (s'.env t)) (Y0t:∀t,tmps.size<=t->s'.env t=.undef) (Ym:s'.ep=s.ep) (Zex:∀id b,¬N id->s'.heap id=some b->s.heap id=some b)
  (hρ:∀id i,ρ id=some i->ρ' id=some i) (Zm6:∀id,(ρ' id).isSome=true->(ρ id).isSome=true\/id.1=s.ep) (hρn:∀id,¬N id->ρ' id=ρ id) (hFn:∀id,¬N id->F' id=F id)
  (hk:Zse w w' (λg=>¬tops s ρ g) (λg=>¬tops s' ρ' g)) (ht:∀id b,¬N id->s'.heap id=some b->∀g∈F id,w'.heap[g]?=w.heap[g]?)
  (hA:∀k,k < B->¬io k->w'.heap[k]?=w.heap[k]?) (hn:∀id b,N id->s'.heap id=some b->Xg P w' (okS s' ρ' w') ρ' (ρ' id) (F' id) b) (hnm:∀id b,N id->s'.heap id=some b->b.own=true->(∀g∈F' id,g < w'.heap.size)/\(Zzm (ρ' id)->∀g,(F' id).head?=some g->io g\/B<=g))
  (hna:∀id b,N id->s'.heap id=some b->b.own=true->∀id' b',id≠id'->s'.heap id'=some b'->b'.own=true->∀g∈F' id',g ∉ F' id) (hno:∀id b,N id->s'.heap id=some b->b.own=true->(F' id).Nodup)
  (Y0u:∀g∈fl',g < w'.heap.size) (Y0v:∀id b,s'.heap id=some b->b.own=true->∀g∈F' id,g ∉ fl') (Ycr:fl'.Nodup):
  Rel P B io w' tmps s' ρ' F' fl' where
 env:=Jo
 out:=Y0t
 heap:=λid b hb=>by
  by_cases e:N id
  .exact hn id b e hb
  .rw[hρn id e,hFn id e]
   exact (show Xg P w (λg=>(¬tops s ρ g)/\g < w.heap.size) ρ (ρ id) (F id) b from h.heap id b (Zex id b e hb)).keep hk hρ (ht id b e hb)
 mine:=λid b hb ho g hg=>by
  by_cases e:N id
  .exact (hnm id b e hb ho).1 g hg
  .rw[hFn id e] at hg
   exact Va9 (h.mine id b (Zex id b e hb) ho g hg) hk.size
 top:=λid b hb ho hc g hg=>by
  by_cases e:N id
  .exact (hnm id b e hb ho).2 hc g hg
  .rw[hFn id e] at hg
   exact h.top id b (Zex id b e hb) ho (by rw[<-hρn id e];exact hc) g hg
 apart:=λid id' b b' hb ho Yb Q2 Yf g hg Z7=>by
  by_cases e:N id
  .exact hna id b e hb ho id' b' Yf Yb Q2 g Z7 hg
  .by_cases e':N id'
   .exact hna id' b' e' Yb Q2 id b (Ne.symm Yf) hb ho g hg Z7
   .rw[hFn id e] at hg
    rw[hFn id' e'] at Z7;exact h.apart id id' b b' (Zex id b e hb) ho (Zex id' b' e' Yb) Q2 Yf g hg Z7
 once:=λid b hb ho=>by
  by_cases e:N id
  .exact hno id b e hb ho
  .rw[hFn id e];exact h.once id b (Zex id b e hb) ho
 dom:=λid Zw=>by
  rw[Ym];rcases Zm6 id Zw with h1|h1
  .exact h.dom id h1
  .omega
 base0:=h.base0.step hk.size hA
 flMine:=Y0u
 flApart:=Y0v
 flOnce:=Ycr
theorem Rel.envKeep (h:Rel P B io w tmps s ρ F fl) (Jo:s'.env=s.env) (hρ:∀id i,ρ id=some i->ρ' id=some i) (hk:Zse w w' (λg=>¬tops s ρ g) (λg=>¬tops s' ρ' g)):∀t v,tmps[t]?=some v->En w' (okS s' ρ' w') ρ' v (s'.env t):=λt v hv=>by
 rw[Jo];exact (show En w (λg=>(¬tops s ρ g)/\g < w.heap.size) ρ v (s.env t) from h.env t v hv).keep hk hρ
theorem Rel.step (h:Rel P B io w tmps s ρ F fl) (nid:Id) (Jo:s'.env=s.env) (Ym:s'.ep=s.ep) (Zex:∀id b,id≠nid->s'.heap id=some b->s.heap id=some b)
  (hρ:∀id i,ρ id=some i->ρ' id=some i) (Zm6:∀id,(ρ' id).isSome=true->(ρ id).isSome=true\/id.1=s.ep) (hρn:∀id,id≠nid->ρ' id=ρ id) (hFn:∀id,id≠nid->F' id=F id)
  (hk:Zse w w' (λg=>¬tops s ρ g) (λg=>¬tops s' ρ' g)) (ht:∀id b,id≠nid->s'.heap id=some b->∀g∈F id,w'.heap[g]?=w.heap[g]?)
  (hA:∀k,k < B->¬io k->w'.heap[k]?=w.heap[k]?) (hn:∀b,s'.heap nid=some b->Xg P w' (okS s' ρ' w') ρ' (ρ' nid) (F' nid) b) (hnm:∀b,s'.heap nid=some b->b.own=true->(∀g∈F' nid,g < w'.heap.size)/\(Zzm (ρ' nid)->∀g,(F' nid).head?=some g->io g\/B<=g))
  (hna:∀b,s'.heap nid=some b->b.own=true->∀id b',id≠nid->s'.heap id=some b'->b'.own=true->∀g∈F id,g ∉ F' nid) (hno:∀b,s'.heap nid=some b->b.own=true->(F' nid).Nodup)
  (Y0u:∀g∈fl',g < w'.heap.size) (Y0v:∀id b,id≠nid->s'.heap id=some b->b.own=true->∀g∈F id,g ∉ fl') (hfln:∀b,s'.heap nid=some b->b.own=true->∀g∈F' nid,g ∉ fl') (Ycr:fl'.Nodup):
  Rel P B io w' tmps s' ρ' F' fl':=
 h.steps (N:=λid=>id=nid) (h.envKeep Jo hρ hk) (λt ht=>by rw[Jo];exact h.out t ht) Ym Zex hρ Zm6 hρn hFn hk ht hA (λid b e hb=>by subst e;exact hn b hb) (λid b e hb ho=>by subst e;exact hnm b hb ho)
  (λid b e hb ho id' b' Yf Yb Q2 g hg=>by subst e;rw[hFn id' (Ne.symm Yf)] at hg;exact hna b hb ho id' b' (Ne.symm Yf) Yb Q2 g hg) (λid b e hb ho=>by subst e;exact hno b hb ho) Y0u
  (λid b hb ho g hg=>by
   by_cases e:id=nid
   .subst e;exact hfln b hb ho g hg
   .rw[hFn id e] at hg;exact Y0v id b e hb ho g hg) Ycr
theorem Zse.same (hs:∀g,tops s' ρ' g->tops s ρ g):Zse w w (λg=>¬tops s ρ g) (λg=>¬tops s' ρ' g):=
 ⟨λ_ _ _=>rfl,λg hg _ ht=>hg (hs g ht),Vaw _⟩
theorem Zzw {id:Id}:∀g,tops (s.kill id) ρ g->tops s ρ g:=by
 rintro g ⟨id',b,o,c,sz,hb,ho,hρ⟩;refine⟨id',b,o,c,sz,?_,ho,hρ⟩;simp only[St.kill,upd] at hb;split at hb
 .cases hb
 .exact hb
theorem Zcv {id id':Id} {b:Blk} (h:(s.kill id).heap id'=some b):s.heap id'=some b:=by
 simp only[St.kill,upd] at h;split at h
 .cases h
 .exact h
theorem Q7 {id:Id}:(s.kill id).heap id=none:=by simp[St.kill,upd]
theorem Rel.kill (h:Rel P B io w tmps s ρ F fl) (id:Id):Rel P B io w tmps (s.kill id) ρ F fl:=
 h.step (nid:=id) rfl rfl (λid' b _ hb=>Zcv hb) (λ_ _ h=>h) (λ_ h=>.inl h) (λ_ _=>rfl) (λ_ _=>rfl) (.same Zzw) (λ_ _ _ _ _ _=>rfl) (λ_ _ _=>rfl)
  (λb hb=>by rw[Q7] at hb;cases hb) (λb hb=>by rw[Q7] at hb;cases hb) (λb hb=>by rw[Q7] at hb;cases hb) (λb hb=>by rw[Q7] at hb;cases hb)
  h.flMine (λid' b e hb ho=>h.flApart id' b (Zcv hb) ho) (λb hb=>by rw[Q7] at hb;cases hb) h.flOnce
theorem Rel.float (h:Rel P B io w tmps s ρ F fl) {id:Id} {b:Blk} (hb:s.heap id=some b) (ho:b.own=true):Rel P B io w tmps (s.kill id) ρ F (F id++fl):=by
 refine h.step (nid:=id) rfl rfl (λid' b _ hb=>Zcv hb) (λ_ _ h=>h) (λ_ h=>.inl h) (λ_ _=>rfl) (λ_ _=>rfl) (.same Zzw) (λ_ _ _ _ _ _=>rfl) (λ_ _ _=>rfl)
  (λb hb=>by rw[Q7] at hb;cases hb) (λb hb=>by rw[Q7] at hb;cases hb) (λb hb=>by rw[Q7] at hb;cases hb) (λb hb=>by rw[Q7] at hb;cases hb)
  (λg hg=>?_) (λid' b' e Yb Q2 g hg Z7=>?_) (λb hb=>by rw[Q7] at hb;cases hb) ?_
 .rcases Vat.1 hg with hg|hg
  .exact h.mine id b hb ho g hg
  .exact h.flMine g hg
 .rcases Vat.1 Z7 with Z7|Z7
  .exact h.apart id' id b' b (Zcv Yb) Q2 hb ho e g hg Z7
  .exact h.flApart id' b' (Zcv Yb) Q2 g hg Z7
 .exact Vap.2 ⟨h.once id b hb ho,h.flOnce,λa ha b' Yb e=>h.flApart id b hb ho a ha (e▸Yb)⟩
theorem Rel.ok_of_F (h:Rel P B io w tmps s ρ F fl) {id:Id} {b:Blk} {i:Zq7} (hb:s.heap id=some b) (ho:b.own=true) (hi:ρ id=some i) {k:Nat} (hk:k∈F id) (Yf:∀g o c sz,i=.blk g o c sz->k≠g):okS s ρ w k:=by
 refine⟨?_,h.mine id b hb ho k hk⟩;rintro⟨id',b',o',c',sz',Yb,Q2,hρ'⟩;have ht:k∈F id':=by
  have:=h.heap id' b' Yb;rw[hρ'] at this;exact this.top Q2
 by_cases e:id'=id
 .subst e
  rw[hi] at hρ';injection hρ' with hρ';exact Yf _ _ _ _ hρ' rfl
 .exact h.apart id' id b' b Yb Q2 hb ho e k ht hk
theorem Rel.ok_fl (h:Rel P B io w tmps s ρ F fl) {k:Nat} (hk:k∈fl):okS s ρ w k:=by
 refine⟨?_,h.flMine k hk⟩;rintro⟨id',b',o',c',sz',Yb,Q2,hρ'⟩;have ht:k∈F id':=by
  have:=h.heap id' b' Yb;rw[hρ'] at this;exact this.top Q2
 exact h.flApart id' b' Yb Q2 k ht hk
end
theorem OwL.drop {w:World}:∀(n:Nat) {vs:List Value} {xs:List V} {fp:List Nat},OwL w vs xs fp->∃fp',OwL w (vs.drop n) (xs.drop n) fp'/\fp'.Sublist fp:=by
 intro n
 induction n with
 | zero=>intro vs xs fp h;exact⟨fp,h,Vbz _⟩
 | succ n ih=>
  intro vs xs fp h;cases xs with
  | nil=>cases h;exact⟨[],.nil,Vbz _⟩
  | cons x xs=>
   cases h with
   | @cons v _ vs _ f1 f2 h hs=>
    obtain⟨fp',h1,h2⟩:=ih hs;exact⟨fp',h1,h2.trans (Va4 _ _)⟩
theorem OwL.take {w:World}:∀(n:Nat) {vs:List Value} {xs:List V} {fp:List Nat},OwL w vs xs fp->∃fp',OwL w (vs.take n) (xs.take n) fp'/\fp'.Sublist fp:=by
 intro n
 induction n with
 | zero=>intro vs xs fp h;exact⟨[],by simp;exact .nil,List.nil_sublist _⟩
 | succ n ih=>
  intro vs xs fp h;cases xs with
  | nil=>cases h;exact⟨[],.nil,Vbz _⟩
  | cons x xs=>
   cases h with
   | @cons v _ vs _ f1 f2 h hs=>
    obtain⟨fp',h1,h2⟩:=ih hs;exact⟨f1++fp',.cons h h1,Vcl (Vbz _) h2⟩
theorem Je {α:Type} {sz:Nat}:∀{rows:List (List α)},(∀r∈rows,r.length=sz)->rows.flatten.length=rows.length*sz:=by
 intro rows
 induction rows with
 | nil=>intro _;simp
 | cons r rs ih=>intro h;rw[Vaz,Vbb,ih (λr hr=>h r (Vad _ hr)),h r Vab,Vaa,Vbv];omega
theorem Z1d {α:Type} {sz:Nat}:∀{rows:List (List α)} {k:Nat} {x:α},(∀r∈rows,r.length=sz)->rows.flatten[k]?=some x->∃i j row,rows[i]?=some row/\row[j]?=some x/\k=i*sz+j:=by
 intro rows
 induction rows with
 | nil=>intro k x _ h;simp at h
 | cons r rs ih=>
  intro k x h hk;have hr:r.length=sz:=h r Vab;rw[Vaz] at hk;by_cases Z5:k < r.length
  .rw[Vaj Z5] at hk
   exact⟨0,k,r,rfl,hk,by omega⟩
  .rw[Vah (by omega)] at hk
   obtain⟨i,j,row,h1,h2,h3⟩:=ih (λr hr=>h r (Vad _ hr)) hk;exact⟨i+1,j,row,by simpa using h1,h2,by rw[Vbv];omega⟩
theorem Zmq {α:Type} {sz:Nat}:∀(n:Nat) {rows:List (List α)},(∀r∈rows,r.length=sz)->rows.flatten.drop (n*sz)=(rows.drop n).flatten:=by
 intro n
 induction n with
 | zero=>intro rows _;simp
 | succ n ih=>
  intro rows h;cases rows with
  | nil=>simp
  | cons r rs=>
   have hr:r.length=sz:=h r Vab;rw[Vaz,List.drop_succ_cons,<-ih (λr hr=>h r (Vad _ hr)),Vbv,Vdi,<-List.drop_drop]
   congr 1
   rw[<-hr];simp
theorem Zyx {α:Type} {sz:Nat}:∀(n:Nat) {rows:List (List α)},(∀r∈rows,r.length=sz)->rows.flatten.take (n*sz)=(rows.take n).flatten:=by
 intro n
 induction n with
 | zero=>intro rows _;simp
 | succ n ih=>
  intro rows h;cases rows with
  | nil=>simp
  | cons r rs=>
   have hr:r.length=sz:=h r Vab;rw[Vaz,Vdp,Vaz,<-ih (λr hr=>h r (Vad _ hr)),Vbv,Vdi,List.take_append,hr,Vbp]
   congr 1
   rw[Vbi (by omega)]
def OwT (P:Program) (w:World) (e:TypeId) (u:Value) (rows:List (List V)) (fp:List Nat):Prop:=
 (∃A,u=.slice A 0 0/\rows=[]/\fp=[])\/
 ∃g o c cur fp',u=.slice (some ⟨g,o,none⟩) rows.length c/\w.heap[g]?=some (.cells cur e (0,0))/\rows.length<=c/\c<=maxLen/\(∀r∈rows,r.length=P.cellsOf e)/\o+c*P.cellsOf e=cur.size/\
  OwL w ((cur.toList.drop o).take (rows.length*P.cellsOf e)) rows.flatten fp'/\fp=g::fp'
theorem OwT.ow {P:Program} {w:World} {e:TypeId} {u:Value} {rows:List (List V)} {fp:List Nat} (h:OwT P w e u rows fp):Ow w u (.tr rows) fp:=by
 rcases h with⟨A,rfl,rfl,rfl⟩|⟨g,o,c,cur,fp',rfl,hg,hl,hm,hu,hz,hO,rfl⟩
 .exact .emp
 .exact .tr hg rfl hl hm hu hz hO
section
variable {P:Program} {B:Nat} {io:Nat->Prop} {w w':World} {tmps:Array Value} {s s':St} {ρ ρ':Rho} {F F':Id->List Nat} {fl fl':List Nat}
theorem Rel.less (h:Rel P B io w tmps s ρ F fl) {fl':List Nat} (hs:fl'.Sublist fl):Rel P B io w tmps s ρ F fl':=
 {h with
  flMine:=λg hg=>h.flMine g (hs.subset hg)
  flApart:=λid b hb ho g hg Z7=>h.flApart id b hb ho g hg (hs.subset Z7)
  flOnce:=h.flOnce.sublist hs}
theorem Rel.perm (h:Rel P B io w tmps s ρ F fl) {fl':List Nat} (hs:fl'.Perm fl):Rel P B io w tmps s ρ F fl':=
 {h with
  flMine:=λg hg=>h.flMine g (hs.mem_iff.1 hg)
  flApart:=λid b hb ho g hg Z7=>h.flApart id b hb ho g hg (hs.mem_iff.1 Z7)
  flOnce:=hs.nodup_iff.2 h.flOnce}
theorem Rel.whole2 (h:Rel P B io w tmps s ρ F fl) {id:Id} {off len:Nat} {e:TypeId} {rows:List (List V)} {u:Value} (hu:En w (okS s ρ w) ρ u (.sl id off len)) (hw:s.whole id off len=some (e,rows)):
  ∃fp,Rel P B io w tmps (s.kill id) ρ F (fp++fl)/\OwT P w e u rows fp/\∀g,fp.head?=some g->(F id).head?=some g/\Zzm (ρ id):=by
 unfold St.whole at hw;obtain⟨b,hb,hw⟩:=ZZb.1 hw;split at hw
 .rename_i hc
  obtain⟨Xi,Yc,X8,Yl⟩:=hc;simp only[ZZd,ZZe] at hw;obtain⟨rfl,rfl⟩:=hw;have Q9:=h.float hb Yc;cases hu with
  | sle hi=>exact⟨[],Q9.less (Va4 _ _),.inl ⟨_,rfl,by simp,rfl⟩,λg hg=>by simp at hg⟩
  | @sl _ g o c sz _ _ hρ hc=>
   have hB:=h.heap id b hb;rw[hρ] at hB;unfold Xg at hB;rw[Xi,Yc] at hB;rcases hB with⟨Yj,_⟩|⟨g',o',c',cur,Yj,hg,hl,hm,Jc,hz,fp,hFe,h1,h2⟩
   .cases Yj
   .cases Yj
    obtain⟨f1,ho1,hs1⟩:=(h1 X8).drop (off*P.cellsOf b.el);obtain⟨f2,ho2,hs2⟩:=ho1.take (len*P.cellsOf b.el);have Ycs:∀r∈b.rows.drop off,r.length=P.cellsOf b.el:=λr hr=>Jc r (Vbm hr);rw[Zmq off Jc,Zyx len Ycs] at ho2;have Zh4:(((cur.toList.drop o).take (b.rows.length*P.cellsOf b.el)).drop (off*P.cellsOf b.el)).take (len*P.cellsOf b.el)=(cur.toList.drop (o+off*P.cellsOf b.el)).take (len*P.cellsOf b.el):=by
     rw[List.drop_take,List.drop_drop,List.take_take]
     congr 1
     have:(off+len)*P.cellsOf b.el<=b.rows.length*P.cellsOf b.el:=Vbq _ Yl;rw[Nat.add_mul] at this;omega
    rw[Zh4] at ho2;have hlr:((b.rows.drop off).take len).length=len:=by simp;omega
    by_cases hc0:c - off=0
    .have hl0:len=0:=by omega
     subst hl0;exact⟨[],Q9.less (Va4 _ _),.inl ⟨_,by rw[hc0],by simp,rfl⟩,λg hg=>by simp at hg⟩
    refine⟨g::f2,Q9.less ?_,.inr ⟨g,o+off*P.cellsOf b.el,c - off,cur,f2,by rw[hlr],hg,by rw[hlr];omega,by omega,λr hr=>Ycs r (Vby hr),?_,by rw[hlr];exact ho2,rfl⟩,λg' Z7=>⟨by rw[hFe];exact Z7,g,o,c,_,hρ,by omega⟩⟩
    .rw[hFe,Vd1,Vd1]
     exact (Vcl (hs2.trans hs1) (Vbz _)).cons_cons _
    .have:off*P.cellsOf b.el+(c - off)*P.cellsOf b.el=c*P.cellsOf b.el:=by rw[<-Nat.add_mul];congr 1;omega
     omega
 .cases hw
theorem Rel.whole (h:Rel P B io w tmps s ρ F fl) {id:Id} {off len:Nat} {e:TypeId} {rows:List (List V)} {u:Value} (hu:En w (okS s ρ w) ρ u (.sl id off len)) (hw:s.whole id off len=some (e,rows)):
  ∃fp,Rel P B io w tmps (s.kill id) ρ F (fp++fl)/\OwT P w e u rows fp:=by
 obtain⟨fp,h1,h2,_⟩:=h.whole2 hu hw;exact⟨fp,h1,h2⟩
theorem Rel.rowsOf (h:Rel P B io w tmps s ρ F fl) {x:V} {u:Value} {rows:List (List V)} {ok':Nat->Prop} (hu:En w (okS s ρ w) ρ u x) (hr:s.rowsOf x=some rows) (Y2:∀g,okS s ρ w g->ok' g)
  (Wy:∀id off len b g o c sz,x=.sl id off len->s.heap id=some b->b.own=true->ρ id=some (.blk g o c sz)->g < w.heap.size->g ∉ fl->ok' g):Rd w ok' u (.tr rows):=by
 have up:∀{v:Value} {y:V},Rd w (okS s ρ w) v y->Rd w ok' v y:=λhv=>hv.mono (λ_ _ _=>rfl) Y2;unfold St.rowsOf at hr;split at hr
 .rename_i id off len
  obtain⟨b,hb,hr⟩:=ZZb.1 hr;split at hr
  .rename_i hc
   obtain⟨Xi,Yl⟩:=hc;simp only[ZZd] at hr;subst hr;cases hu with
   | sle hi=>simp only[List.take_zero];exact .emp
   | @sl _ g o c sz _ _ hρ hc=>
    by_cases Yf:(b.rows.drop off).take len=[]
    .have hl0:len=0:=by
      have:=congrArg List.length Yf;simp at this;omega
     subst hl0;rw[Yf];exact .emp
    have hB:=h.heap id b hb;rw[hρ] at hB;have hcm:c<=maxLen/\(∀r∈b.rows,r.length=sz)/\ok' g:=by
     unfold Xg at hB;rw[Xi] at hB;generalize Yc:b.own=ow at hB;cases ow with
     | true=>
      rcases hB with⟨Yj,_⟩|⟨g',o',c',cur,Yj,hg,hl,hm,Jc,hz,fp,hFe,h1,h2'⟩
      .cases Yj
      .cases Yj
       exact⟨hm,Jc,Wy id off len b g o c _ rfl hb Yc hρ (Vam.1 hg).1 (h.flApart id b hb Yc g (by rw[hFe];exact Vab))⟩
     | false=>
      obtain⟨_,hB⟩:=hB;rcases hB with⟨Yj,_⟩|⟨g',o',c',sz',Yj,Jc,hr⟩
      .cases Yj
      .cases Yj
       generalize hrw:b.rows=rws at hr Jc Yf;generalize hn:rws.length=n at hr;cases hr with
       | emp=>simp at Yf
       | tr hn' hc' hm' hs' Z7 hu' Jx=>exact⟨hm',Jc,Y2 g Z7⟩
    have hlr:((b.rows.drop off).take len).length=len:=by simp;omega
    have Ycs:∀r∈(b.rows.drop off).take len,r.length=sz:=λr hr=>hcm.2.1 r (Vbm (Vby hr));have cellAt:∀(k:Nat) (x:V),((b.rows.drop off).take len).flatten[k]?=some x->∃u,w.cell? ⟨g,o+off*sz+k,none⟩=some u/\Rd w ok' u x:=by
     intro k x hk;obtain⟨i,j,row,hi,hj,rfl⟩:=Z1d Ycs hk;rw[Vai] at hi;split at hi
     .rw[Vau] at hi
      obtain⟨u,h1,_,h2⟩:=h.cell hb hρ hi hj;refine⟨u,?_,up (h2 Xi)⟩;rw[show o+off*sz+(i*sz+j)=o+(off+i)*sz+j by rw[Nat.add_mul];omega];exact h1
     .cases hi
    have each:∀k,∃u:Value,∀x,((b.rows.drop off).take len).flatten[k]?=some x->w.cell? ⟨g,o+off*sz+k,none⟩=some u/\Rd w ok' u x:=by
     intro k;cases hk:((b.rows.drop off).take len).flatten[k]? with
     | none=>exact⟨undef,λx hx=>by cases hx⟩
     | some y=>
      obtain⟨u,h1,h2⟩:=cellAt k y hk;exact⟨u,λx hx=>by injection hx with hx;subst hx;exact⟨h1,h2⟩⟩
    obtain⟨uf,huf⟩:=Vc9 each;exact .tr (u:=uf) hlr (by omega) (by omega) Ycs hcm.2.2 (λk x hk=>(huf k x hk).1) (λk x hk=>(huf k x hk).2)
  .cases hr
 .simp only[ZZd] at hr;subst hr;cases hu with|tr h=>exact up h
 .simp only[ZZd] at hr;subst hr;cases hu with|vw h=>exact up h
 .simp only[ZZd] at hr;subst hr;cases hu;exact .emp
 .cases hr
theorem En.kill {id:Id} {v:Value} {x:V} (h:En w (okS s ρ w) ρ v x):En w (okS (s.kill id) ρ w) ρ v x:=
 (show En w (λg=>(¬tops s ρ g)/\g < w.heap.size) ρ v x from h).keep (.same Zzw) (λ_ _ h=>h)
theorem Zyo {id:Id} {g:Nat} (h:okS s ρ w g):okS (s.kill id) ρ w g:=⟨λht=>h.1 (Zzw g ht),h.2⟩
theorem Ysa:∀(xs:List V) {us:List Value} {s:St} {fl:List Nat} {ys:List V} {c:Bool} {s':St},Rel P B io w tmps s ρ F fl->us.length=xs.length->
  (∀(k:Nat) (u:Value) (x:V),us[k]?=some u->xs[k]?=some x->En w (okS s ρ w) ρ u x)->s.sink xs=some (ys,c,s')->
  ∃fp,Rel P B io w tmps s' ρ F (fp++fl)/\us.length=ys.length/\(c=true->OwL w us ys fp)/\(∀(k:Nat) (u:Value) (y:V),us[k]?=some u->ys[k]?=some y->Rd w (okS s' ρ w) u y)/\
   s'.env=s.env/\s'.ep=s.ep/\(∀id b,s'.heap id=some b->s.heap id=some b)/\(∀g,okS s ρ w g->okS s' ρ w g):=by
 intro xs
 induction xs with
 | nil=>
  intro us s fl ys c s' h hl Xh hs;simp only[St.sink,ZZd,ZZe] at hs;obtain⟨rfl,rfl,rfl⟩:=hs;have:us=[]:=Vas (by simpa using hl);subst this;exact⟨[],h,rfl,λ_=>.nil,λk u y hu=>by simp at hu,rfl,rfl,λ_ _ h=>h,λ_ h=>h⟩
 | cons x xs ih=>
  intro us s fl ys c s' h hl Xh hs
  match us,hl with
  | u::us,hl=>
   have hu:=Xh 0 u x rfl rfl;have Z5g:∀(k:Nat) (v:Value) (y:V),us[k]?=some v->xs[k]?=some y->En w (okS s ρ w) ρ v y:=λk v y hv hy=>Xh (k+1) v y (by simpa using hv) (by simpa using hy);have hl':us.length=xs.length:=by simpa using hl
   have plain:∀(y:V) (c0:Bool),(c0=true->Ow w u y [])->Rd w (okS s ρ w) u y->∀{r:List V×Bool×St},s.sink xs=some r->ys=y::r.1->c=(c0&&r.2.1)->s'=r.2.2->
     ∃fp,Rel P B io w tmps s' ρ F (fp++fl)/\(u::us).length=ys.length/\(c=true->OwL w (u::us) ys fp)/\(∀(k:Nat) (u':Value) (y:V),(u::us)[k]?=some u'->ys[k]?=some y->Rd w (okS s' ρ w) u' y)/\
      s'.env=s.env/\s'.ep=s.ep/\(∀id b,s'.heap id=some b->s.heap id=some b)/\(∀g,okS s ρ w g->okS s' ρ w g):=by
    rintro y c0 hOw hRd ⟨r1,r2,r3⟩ hr rfl rfl rfl;obtain⟨fp,h1,h2,h3,h4,h5,h6,h7,h8⟩:=ih h hl' Z5g hr;refine⟨fp,h1,by simpa using h2,λhc=>?_,λk u' y' hu' hy'=>?_,h5,h6,h7,h8⟩
    .rw[ZZg] at hc
     have:=OwL.cons (hOw hc.1) (h3 hc.2);simpa using this
    .cases k with
     | zero=>
      have e1:u=u':=by simpa using hu'
      have e2:y=y':=by simpa using hy'
      subst e1;subst e2;exact hRd.mono (λ_ _ _=>rfl) h8
     | succ k=>exact h4 k u' y' (by simpa using hu') (by simpa using hy')
   unfold St.sink at hs;split at hs
   .obtain⟨r,hr,hq⟩:=ZZc.1 hs
    simp only[ZZe] at hq;obtain⟨rfl,hq2⟩:=hq;cases hu;exact plain _ true (λ_=>.emp) .emp hr rfl (by rw[hq2];simp) (by rw[hq2])
   .rename_i Yf
    obtain⟨r,hr,hq⟩:=ZZc.1 hs;simp only[ZZe] at hq;obtain⟨rfl,hq2⟩:=hq;cases hu with
    | lit hsc=>exact plain _ true (λ_=>.lit hsc) (.lit hsc) hr rfl (by rw[hq2];simp) (by rw[hq2])
   .obtain⟨r,hr,hq⟩:=ZZc.1 hs
    simp only[ZZe] at hq;obtain⟨rfl,hc,hq2⟩:=hq;cases hu with
    | tr h2=>exact plain _ false (λhf=>by cases hf) h2 hr rfl (by rw[<-hc];simp) hq2.symm
   .obtain⟨r,hr,hq⟩:=ZZc.1 hs
    simp only[ZZe] at hq;obtain⟨rfl,hc,hq2⟩:=hq;cases hu with
    | vw h2=>exact plain _ false (λhf=>by cases hf) h2 hr rfl (by rw[<-hc];simp) hq2.symm
   .rename_i id off len
    split at hs
    .rename_i er hw
     obtain⟨r,hr,hq⟩:=ZZc.1 hs;simp only[ZZe] at hq;obtain⟨rfl,hq2⟩:=hq;obtain⟨e,rows⟩:=er;obtain⟨fp0,hk,hO⟩:=h.whole hu hw;obtain⟨fp,h1,h2,h3,h4,h5,h6,h7,h8⟩:=ih hk hl' (λk v y hv hy=>(Z5g k v y hv hy).kill) hr;have hs1:r.2.1=c:=by rw[hq2]
     have hs2:r.2.2=s':=by rw[hq2]
     rw[hs1] at h3;rw[hs2] at h1 h4 h5 h6 h7 h8;have Zex:(fp0++fp++fl).Perm (fp++(fp0++fl)):=by
      rw[<-List.append_assoc];exact Vd9 _ Vct
     refine⟨fp0++fp,h1.perm Zex,by simpa using h2,λhc=>.cons hO.ow (h3 hc),λk u' y' hu' hy'=>?_,h5,h6,λid' b hb=>Zcv (h7 id' b hb),λg hg=>h8 g (Zyo hg)⟩;cases k with
     | zero=>
      have e1:u=u':=by simpa using hu'
      have e2:V.tr rows=y':=by simpa using hy'
      subst e1;subst e2;exact (hO.ow.rd (λg hg=>hk.ok_fl (Vae _ hg))).mono (λ_ _ _=>rfl) h8
     | succ k=>exact h4 k u' y' (by simpa using hu') (by simpa using hy')
    .rename_i hw
     split at hs
     .rename_i b hb
      split at hs
      .rename_i Yc
       obtain⟨rows,X3,hq0⟩:=ZZb.1 hs;obtain⟨r,hr,hq⟩:=ZZc.1 hq0;simp only[ZZe] at hq;obtain⟨rfl,hc,hq2⟩:=hq;refine plain _ false (λhf=>by cases hf) (h.rowsOf hu X3 (λ_ h=>h) (λid' off' len' b' g o c' sz e Yb Q2=>?_)) hr rfl (by rw[<-hc];simp) hq2.symm;cases e;rw[hb] at Yb;injection Yb with Yb;subst Yb;rw[Yc] at Q2;cases Q2
      .cases hs
     .cases hs
   .cases hs
end
section
variable {P:Program} {B:Nat} {io:Nat->Prop} {w w':World} {a:Act} {tmps:Array Value} {s s':St} {ρ ρ':Rho} {F F':Id->List Nat} {fl fl':List Nat} {k:Nat} {o:Oper} {v:V}
theorem Rel.F_lt (h:Rel P B io w tmps s ρ F fl) {id:Id} {b:Blk} (hb:s.heap id=some b):∀g∈F id,g < w.heap.size:=by
 cases ho:b.own with
 | true=>exact h.mine id b hb ho
 | false=>
  have hB:=h.heap id b hb;unfold Xg at hB;rw[ho] at hB;split at hB
  .cases hB.1
  .rename_i h2;cases h2
  .intro g hg;rw[hB.1] at hg;cases hg
theorem Xl {id id':Id} {b:Blk} (h:id'≠id):(s.setB id b).heap id'=s.heap id':=by simp[St.setB,upd,h]
theorem Zdy {id:Id} {b:Blk}:(s.setB id b).heap id=some b:=by simp[St.setB,upd]
theorem Zn8 (w:World) (o:Obj):(w.alloc o).heap.size=w.heap.size+1:=by
 show (w.heap.push o).size=_;simp
theorem Z4n (w:World) (o:Obj):(w.alloc o).heap[w.heap.size]?=some o:=by
 show (w.heap.push o)[w.heap.size]?=_;simp
theorem Z5f {id:Id} {b:Blk} {i:Zq7} (Zw:ρ id=none) {g:Nat} (h:tops (s.setB id b) (upd ρ id (some i)) g):tops s ρ g\/∃o c sz,i=.blk g o c sz:=by
 obtain⟨id',b',o,c,sz,hb,ho,hρ⟩:=h;by_cases e:id'=id
 .subst e
  rw[Z1] at hρ;injection hρ with hρ;exact .inr ⟨o,c,sz,hρ⟩
 .rw[Xl e] at hb
  rw[Yo e] at hρ;exact .inl ⟨id',b',o,c,sz,hb,ho,hρ⟩
theorem Wm.alloc {w0:World} (h:Wm B io w0 w) (hB:B<=w.heap.size) (ob:Obj):Wm B io w0 (w.alloc ob):=
 ⟨h.os,h.tape,h.output,by have:=h.size;have:=Zn8 w ob;omega,λg hg hn=>by rw[Below.heap_alloc w ob g (by omega)];exact h.block g hg hn⟩
theorem Rel.newBlk (h:Rel P B io w tmps s ρ F fl) {id:Id} (Zw:ρ id=none) (Ym:id.1=s.ep) {ob:Obj} {b:Blk} {o c sz:Nat}
  (hn:Xg P (w.alloc ob) (okS (s.setB id b) (upd ρ id (some (.blk w.heap.size o c sz))) (w.alloc ob)) (upd ρ id (some (.blk w.heap.size o c sz))) (some (.blk w.heap.size o c sz)) [w.heap.size] b):
  Rel P B io (w.alloc ob) tmps (s.setB id b) (upd ρ id (some (.blk w.heap.size o c sz))) (upd F id [w.heap.size]) fl:=by
 have hs:=Zn8 w ob;refine h.step (nid:=id) rfl rfl (λid' b' e hb=>by rw[Xl e] at hb;exact hb) (λid' i hi=>?_) (λid' hi=>?_) (λid' e=>Yo e) (λid' e=>Yo e) ⟨λg _ hg=>Below.heap_alloc w ob g hg,λg hg Z5 ht=>?_,by omega⟩
  (λid' b' e hb g hg=>Below.heap_alloc w ob g (h.F_lt (by rw[Xl e] at hb;exact hb) g hg)) (λk hk _=>Below.heap_alloc w ob k (Va9 hk h.base)) (λb' hb=>?_) (λb' hb ho=>?_) (λb' hb ho id' b'' e Yct Z5h g hg Z7=>?_) (λb' hb ho=>?_) (λg hg=>by have:=h.flMine g hg;omega)
  (λid' b' e hb ho g hg=>h.flApart id' b' (by rw[Xl e] at hb;exact hb) ho g hg) (λb' hb ho g hg Z7=>?_) h.flOnce
 .have:id'≠id:=by rintro rfl;rw[Zw] at hi;cases hi
  rw[Yo this];exact hi
 .by_cases e:id'=id
  .subst e;exact .inr Ym
  .rw[Yo e] at hi;exact .inl hi
 .rcases Z5f Zw ht with h1|⟨o',c',sz',h1⟩
  .exact hg h1
  .injection h1 with h1;omega
 .rw[Zdy] at hb
  injection hb with hb;subst hb;rw[Z1,Z1];exact hn
 .rw[Z1]
  exact⟨λg hg=>by rw[List.mem_singleton.1 hg];omega,λ_ g hg=>by
   have:w.heap.size=g:=by simpa using hg
   have:=h.base;omega⟩
 .rw[Z1] at Z7
  rw[Xl e] at Yct;have:=h.F_lt Yct g hg;rw[List.mem_singleton.1 Z7] at this;omega
 .rw[Z1];simp
 .rw[Z1] at hg
  have:=h.flMine g Z7;rw[List.mem_singleton.1 hg] at this;omega
theorem Jk {id:Id} {i:Zq7} (Zw:ρ id=none):∀id' j,ρ id'=some j->upd ρ id (some i) id'=some j:=λid' j hj=>by
 rw[Yo (by rintro rfl;rw[Zw] at hj;cases hj)];exact hj
theorem Rel.newBox (h:Rel P B io w tmps s ρ F fl) {id:Id} (Zw:ρ id=none) (Ym:id.1=s.ep) {us:Array Value} {row:List V} {t e:TypeId} (hl:us.size=row.length) (hce:∀x∈row,cellish x=true)
  (Xh:∀(j:Nat) (u:Value) (x:V),us[j]?=some u->row[j]?=some x->En w (okS s ρ w) ρ u x):
  Rel P B io (w.alloc (.cells us t)) tmps (s.setB id ⟨true,true,true,e,[row]⟩) (upd ρ id (some (.blk w.heap.size 0 1 row.length))) (upd F id [w.heap.size]) fl:=by
 refine h.newBlk Zw Ym ⟨rfl,w.heap.size,us,t,row,rfl,Z4n w _,rfl,hl,λj u x hu hx=>?_,hce,rfl⟩;refine (show En w (λg=>(¬tops s ρ g)/\g < w.heap.size) ρ u x from Xh j u x hu hx).keep ⟨λg _ hg=>Below.heap_alloc w _ g hg,λg hg Z5 ht=>?_,by rw[Zn8];omega⟩ (Jk Zw);rcases Z5f Zw ht with h1|⟨o',c',sz',h1⟩
 .exact hg h1
 .injection h1 with h1;omega
theorem Ydh (h:Rel P B io w a.tmps s ρ F fl) {id:Id} (Zw:ρ id=none) (Ym:id.1=s.ep) (hk:id.2 / 1024=k) {us:Array Value} {row:List V} {t e:TypeId} (hl:us.size=row.length) (hce:∀x∈row,cellish x=true)
  (Xh:∀(j:Nat) (u:Value) (x:V),us[j]?=some u->row[j]?=some x->En w (okS s ρ w) ρ u x):
  Stp P B io w a.tmps s ρ fl k (.ptr id 0 0) (s.setB id ⟨true,true,true,e,[row]⟩) (.pointer (some ⟨w.heap.size,0,none⟩)) (w.alloc (.cells us t)):=by
 refine⟨rfl,rfl,(Wm.refl B io w).alloc h.base _,_,_,h.newBox Zw Ym (t:=t) (e:=e) hl hce Xh,?_,Jk Zw,λid' hi=>?_⟩
 .have:=En.ptr (w:=w.alloc (.cells us t)) (ok:=okS (s.setB id ⟨true,true,true,e,[row]⟩) (upd ρ id (some (.blk w.heap.size 0 1 row.length))) (w.alloc (.cells us t))) (i:=0) (off:=0) (Z1 ρ id (some (.blk w.heap.size 0 1 row.length)))
  simpa using this
 .by_cases e:id'=id
  .subst e;exact .inr ⟨Ym,hk⟩
  .rw[Yo e] at hi;exact .inl hi
theorem Y0q (h:Rel P B io w a.tmps s ρ F fl) {t:TypeId} {z:List V} (ho:o.op=.alloc t) (hz:Zc8 P t=some z) {id:Id} (Zw:ρ id=none) (Ym:id.1=s.ep) (hk:id.2 / 1024=k):
  OpR P o a w (Stp P B io w a.tmps s ρ fl k (.ptr id 0 0) (s.setB id ⟨true,true,true,t,[z]⟩)):=by
 unfold Zc8 at hz;obtain⟨zv,hzv,hz⟩:=ZZb.1 hz;obtain⟨ti,hti,X9⟩:=ZZb.1 hzv;split at hz
 .rename_i Qy
  simp only[ZZd] at hz;subst hz;have hr:(execOp a.eval o).run P w=.ok (.value (.pointer (some ⟨w.heap.size,0,none⟩))) (w.alloc (.cells zv.cells t)):=by
   simp[execOp,ho,Instr.alloc,zeroValue,typeInfo,hti,X9,newVar,newRow]
  refine .value hr (Ydh h Zw Ym hk (by simp) (λx hx=>by obtain⟨u,_,rfl⟩:=Vbd.1 hx;rfl) (λj u x hu hx=>?_));simp only[Va8,ZZc] at hx;obtain⟨y,hy,rfl⟩:=hx;have:u=y:=by
   have h1:zv.cells.toList[j]?=some u:=by simpa using hu
   rw[h1] at hy;injection hy
  subst this;exact .lit (ZZk.1 Qy _ (Vag hy))
 .cases hz
theorem Z0i {w:World} {ok:Nat->Prop} {u:Value} {x:V} {cs:List V} (h:En w ok ρ u x) (hc:Zso x=some cs):u.cells.size=cs.length/\(∀y∈cs,cellish y=true)/\∀(j:Nat) (v:Value) (y:V),u.cells[j]?=some v->cs[j]?=some y->En w ok ρ v y:=by
 have one:(∀vs,u≠.agg vs)->cellish x=true->cs=[x]->u.cells.size=cs.length/\(∀y∈cs,cellish y=true)/\∀(j:Nat) (v:Value) (y:V),u.cells[j]?=some v->cs[j]?=some y->En w ok ρ v y:=by
  rintro hu hx rfl;have huc:u.cells=#[u]:=by
   cases u<;>first|rfl|exact absurd rfl (hu _)
  rw[huc];refine⟨rfl,λy hy=>by rw[List.mem_singleton.1 hy];exact hx,λj v y hv hy=>?_⟩;cases j with
  | zero=>
   have h1:u=v:=by simpa using hv
   have h2:x=y:=by simpa using hy
   subst h1;subst h2;exact h
  | succ j=>simp at hy
 cases x<;>simp only[Zso,ZZd] at hc<;>try cases hc
 case agg=>cases h with|agg hl hce hr=>exact⟨hl,hce,hr⟩
 case lit v=>cases h with|lit hs=>exact one (by rintro vs rfl;simp[Q8] at hs) rfl rfl
 case ptr=>cases h;exact one (by rintro vs e;cases e) rfl rfl
 case rp=>cases h with|rp h2=>cases h2;exact one (by rintro vs e;cases e) rfl rfl
 case sl=>cases h<;>exact one (by rintro vs e;cases e) rfl rfl
 case tr=>cases h with|tr h2=>cases h2<;>exact one (by rintro vs e;cases e) rfl rfl
 case vw=>cases h with|vw h2=>cases h2<;>exact one (by rintro vs e;cases e) rfl rfl
 case fn=>cases h;exact one (by rintro vs e;cases e) rfl rfl
theorem box_ok (h:Rel P B io w a.tmps s ρ F fl) {t:TypeId} {x:Operand} {cs:List V} (ho:o.op=.box t x) (hc:Zso (s.opV x)=some cs) {id:Id} (Zw:ρ id=none) (Ym:id.1=s.ep) (hk:id.2 / 1024=k):
  OpR P o a w (Stp P B io w a.tmps s ρ fl k (.ptr id 0 0) (s.setB id ⟨true,true,true,t,[cs]⟩)):=by
 obtain⟨h1,h2,h3⟩:=Z0i (h.opV x) hc;have hr:(execOp a.eval o).run P w=.ok (.value (.pointer (some ⟨w.heap.size,0,none⟩))) (w.alloc (.cells (a.eval x).cells t)):=by
  simp[execOp,ho,Instr.box,newVar,newRow]
 exact .value hr (Ydh h Zw Ym hk h1 h2 h3)
end
theorem En.one {w:World} {ok:Nat->Prop} {ρ:Rho} {u:Value} {x:V} (h:En w ok ρ u x) (hx:cellish x=true):u.oneCell'=true:=by
 cases h with
 | undef=>simp[cellish] at hx
 | lit h=>cases u<;>simp_all [Q8,Value.oneCell']
 | tr h=>exact h.one
 | vw h=>exact h.one
 | rp h=>exact h.one
 | ptr=>rfl
 | sl=>rfl
 | sle=>rfl
 | fn=>rfl
 | agg=>simp[cellish] at hx
 | tup=>simp[cellish] at hx
theorem Zz1 {row:List V} {n:Nat} {cs:List V} (hn:n+cs.length<=row.length) {j:Nat} {x:V} (h:(Jt row n cs)[j]?=some x):(n<=j/\j < n+cs.length/\cs[j - n]?=some x)\/((j < n\/n+cs.length<=j)/\row[j]?=some x):=by
 unfold Jt at h;by_cases h1:j < n
 .rw[List.append_assoc,Vaj (by simp;omega),Vai,ZZj h1] at h
  exact .inr ⟨.inl h1,h⟩
 .rw[List.append_assoc,Vah (by simp;omega)] at h
  have e:(row.take n).length=n:=by simp;omega
  rw[e] at h;by_cases h2:j - n < cs.length
  .rw[Vaj h2] at h
   exact .inl ⟨by omega,by omega,h⟩
  .rw[Vah (by omega),Vau] at h
   refine .inr ⟨.inr (by omega),?_⟩;rw[<-h];congr 1;omega
theorem Zly {row:List V} {n:Nat} {cs:List V} (hn:n+cs.length<=row.length):(Jt row n cs).length=row.length:=by
 unfold Jt;simp;omega
theorem Zcr {α:Type} {cur:List α} {n:Nat} {vs:List α} (hn:n+vs.length<=cur.length) {j:Nat}:(cur.take n++vs++cur.drop (n+vs.length))[j]?=if n<=j/\j < n+vs.length then vs[j - n]? else cur[j]?:=by
 by_cases h1:j < n
 .rw[ZZi (by omega),List.append_assoc,Vaj (by simp;omega),Vai,ZZj h1]
 .rw[List.append_assoc,Vah (by simp;omega)]
  have e:(cur.take n).length=n:=by simp;omega
  rw[e];by_cases h2:j - n < vs.length
  .rw[ZZj (by omega),Vaj h2]
  .rw[ZZi (by omega),Vah (by omega),Vau]
   congr 1;omega
section
variable {P:Program} {B:Nat} {io:Nat->Prop} {w w':World} {a:Act} {tmps:Array Value} {s s':St} {ρ ρ':Rho} {F F':Id->List Nat} {fl fl':List Nat} {k:Nat} {o:Oper} {v:V}
theorem Z02 {id:Id} {b b':Blk} (hb:s.heap id=some b) (ho:b'.own=b.own):∀g,tops (s.setB id b') ρ g↔tops s ρ g:=by
 intro g;constructor
 .rintro⟨id',b'',o,c,sz,Yb,Q2,hρ⟩
  by_cases e:id'=id
  .subst e
   rw[Zdy] at Yb;injection Yb with Yb;subst Yb;exact⟨id',b,o,c,sz,hb,by rw[<-ho];exact Q2,hρ⟩
  .rw[Xl e] at Yb
   exact⟨id',b'',o,c,sz,Yb,Q2,hρ⟩
 .rintro⟨id',b'',o,c,sz,Yb,Q2,hρ⟩
  by_cases e:id'=id
  .subst e
   rw[hb] at Yb;injection Yb with Yb;subst Yb;exact⟨id',b',o,c,sz,Zdy,by rw[ho];exact Q2,hρ⟩
  .exact⟨id',b'',o,c,sz,by rw[Xl e];exact Yb,Q2,hρ⟩
theorem Rel.write (h:Rel P B io w tmps s ρ F fl) {id:Id} {b b':Blk} {g o c sz:Nat} {new:Array Value} {cur:Array Value} {e:TypeId} {Fs:List Nat} (hb:s.heap id=some b) (ho:b.own=true) (Q2:b'.own=true) (hρ:ρ id=some (.blk g o c sz)) (hg:w.heap[g]?=some (.cells cur e (0,0)))
  (hF:∃r,F id=g::r) (hFs:∃r,Fs=g::r) (hFm:∀k∈Fs,k∈F id\/k∈fl) (hno:Fs.Nodup) {fl':List Nat} (Q9:∀k∈fl',k∈fl) (Ycr:fl'.Nodup) (hfd:∀k∈Fs,k ∉ fl') (Zp9:0 < c)
  (hn:Xg P (w.setRow g new) (okS (s.setB id b') ρ (w.setRow g new)) ρ (some (.blk g o c sz)) Fs b'):
  Rel P B io (w.setRow g new) tmps (s.setB id b') ρ (upd F id Fs) fl'/\Wm B io w (w.setRow g new)/\Zse w (w.setRow g new) (λg=>¬tops s ρ g) (λg=>¬tops (s.setB id b') ρ g):=by
 obtain⟨r,hFr⟩:=hF;have hgF:g∈F id:=by rw[hFr];exact Vab
 have Wy:tops s ρ g:=⟨id,b,o,c,sz,hb,ho,hρ⟩;have Zxj:(w.setRow g new).heap.size=w.heap.size:=by simp[World.setRow]
 have hk:Zse w (w.setRow g new) (λg=>¬tops s ρ g) (λg=>¬tops (s.setB id b') ρ g):=
  ⟨λg' Z7 _=>setRow_other w g g' _ (λe=>Z7 (e▸Wy)),λg' Z7 _ ht=>Z7 ((Z02 hb (by rw[ho,Q2])  g').1 ht),by rw[Zxj];exact Vaw _⟩
 refine⟨?_,⟨rfl,rfl,rfl,by rw[Zxj];exact Vaw _,λg' Z7 hio=>setRow_other w g g' _ (λe=>?_)⟩,hk⟩
 .refine h.step (nid:=id) rfl rfl (λid' b'' e Yb=>by rw[Xl e] at Yb;exact Yb) (λ_ _ h=>h) (λ_ h=>.inl h) (λ_ _=>rfl) (λid' e=>Yo e) hk (λid' b'' e Yb g' Z7=>setRow_other w g g' _ (λe'=>?_)) (λk hk hio=>setRow_other w g k _ (λe=>by
    subst e;rcases h.top id b hb ho ⟨k,o,c,sz,hρ,Zp9⟩ k (by rw[hFr];rfl) with h1|h1
    .exact hio h1
    .omega)) (λb'' Yb=>?_) (λb'' Yb Z5h=>?_) (λb'' Yb Z5h id' b3 e hb3 ho3 g' Z7 Zh5=>?_) (λb'' Yb Z5h=>by rw[Z1];exact hno)
   (λg' Z7=>by rw[Zxj];exact h.flMine g' (Q9 g' Z7)) (λid' b'' e Yb Z5h g' Z7 Zh5=>?_) (λb'' Yb Z5h g' Z7 Zh5=>by rw[Z1] at Z7;exact hfd g' Z7 Zh5) Ycr
  .subst e'
   rw[Xl e] at Yb;cases Yc:b''.own with
   | true=>exact h.apart id' id b'' b Yb Yc hb ho e g' Z7 hgF
   | false=>
    have hB:=h.heap id' b'' Yb;unfold Xg at hB;rw[Yc] at hB;split at hB
    .cases hB.1
    .rename_i h2;cases h2
    .rw[hB.1] at Z7;cases Z7
  .rw[Zdy] at Yb
   injection Yb with Yb;subst Yb;rw[Z1,hρ];exact hn
  .rw[Z1]
   refine⟨λg' Z7=>?_,λ_ g' Z7=>?_⟩
   .rw[Zxj]
    rcases hFm g' Z7 with h1|h1
    .exact h.mine id b hb ho g' h1
    .exact h.flMine g' h1
   .obtain⟨r',rfl⟩:=hFs
    have e1:g=g':=by simpa using Z7
    subst e1;exact h.top id b hb ho ⟨g,o,c,sz,hρ,Zp9⟩ g (by rw[hFr];rfl)
  .rw[Z1] at Zh5
   rw[Xl e] at hb3;rcases hFm g' Zh5 with h1|h1
   .exact h.apart id' id b3 b hb3 ho3 hb ho e g' Z7 h1
   .exact h.flApart id' b3 hb3 ho3 g' Z7 h1
  .rw[Xl e] at Yb
   exact h.flApart id' b'' Yb Z5h g' Z7 (Q9 g' Zh5)
 .subst e
  rcases h.top id b hb ho ⟨g',o,c,sz,hρ,Zp9⟩ g' (by rw[hFr];rfl) with h1|h1
  .exact hio h1
  .omega
end
section
variable {P:Program} {B:Nat} {io:Nat->Prop} {w w':World} {a:Act} {tmps:Array Value} {s s':St} {ρ ρ':Rho} {F F':Id->List Nat} {fl fl':List Nat} {k:Nat} {o:Oper} {v:V}
theorem Z0v {t:TypeId} {x y:Operand} {g n:Nat} {cur:Array Value} {e:TypeId} (ho:o.op=.store t x y) (hx:a.eval x=.pointer (some ⟨g,n,none⟩)) (hl:(a.eval y).cells.size=Zx P t) (hz:Zx P t≠0) (hg:w.heap[g]?=some (.cells cur e (0,0)))
  (Z78:n+Zx P t<=cur.size) (h1:∀u∈(a.eval y).cells.toList,u.oneCell'=true):
  (execOp a.eval o).run P w=.ok .skip (w.setRow g (cur.toList.take n++(a.eval y).cells.toList++cur.toList.drop (n+(a.eval y).cells.toList.length)).toArray):=by
 obtain⟨ti,hti,Ws⟩:∃ti,P.info? t=some ti/\ti.size=Zx P t:=by
  unfold Zx Program.cellsOf at hz ⊢;cases hq:P.info? t with
  | none=>rw[hq] at hz;simp at hz
  | some ti=>exact⟨ti,rfl,rfl⟩
 have hs:=run_storeCells_at P g n e (a.eval y).cells.toList 0 cur w hg (by simpa [hl] using Z78) h1;simp only[Va3] at hs;simp[execOp,ho,hx,Instr.storeAt,Instr.sureAddr,storeVar,Go.sizeOf,typeInfo,hti,Ws,hl,hs]
theorem Ypa (h:Rel P B io w a.tmps s ρ F fl) {t:TypeId} {x y:Operand} {id:Id} {j n:Nat} {b:Blk} {row cs:List V} (ho:o.op=.store t x y) (hx:s.opV x=.ptr id j n) (hb:s.heap id=some b) (Yx:b.rows[j]?=some row) (hc:Zso (s.opV y)=some cs)
  (Yc:b.own=true) (Xi:b.box=true) (X8:cs.length=Zx P t) (Z78:n+Zx P t<=row.length) (hz:Zx P t≠0):
  OpR P o a w (Stp P B io w a.tmps s ρ fl k .undef (s.setB id {b with rows:=b.rows.set j (Jt row n cs)})):=by
 have hx':=h.opV x;rw[hx] at hx';obtain⟨hy1,hy2,hy3⟩:=Z0i (h.opV y) hc;generalize hq:a.eval x=q at hx';cases hx' with
 | @ptr _ g o' c sz _ _ hρ=>
  have hB:=h.heap id b hb;rw[hρ] at hB;have hB':=hB;unfold Xg at hB;rw[Xi] at hB;obtain⟨_,g',cur,e,row',hi,hg,hr,hs,he,hce,hF⟩:=hB;cases hi;rw[hr] at Yx;have hj:j=0/\row'=row:=by
   cases j with
   | zero=>exact⟨rfl,by simpa using Yx⟩
   | succ j=>simp at Yx
  obtain⟨rfl,rfl⟩:=hj;simp only[Vdj,Vbk] at hq;have Yl:(a.eval y).cells.size=Zx P t:=by rw[hy1,X8]
  have Yt:=Z0v (P:=P) ho hq Yl hz hg (by omega) (λu hu=>by
   obtain⟨m,hm⟩:=Va1 hu;have hm':(a.eval y).cells[m]?=some u:=by simpa using hm
   have Z5:m < cs.length:=by have:=(Vam.1 hm').1;omega
   exact (hy3 m u _ hm' (Vac Z5)).one (hy2 _ (Vao Z5)))
  generalize Y3:(cur.toList.take n++(a.eval y).cells.toList++cur.toList.drop (n+(a.eval y).cells.toList.length)).toArray=new at Yt;have hvl:(a.eval y).cells.toList.length=cs.length:=by simpa using hy1
  have hsl:n+cs.length<=row'.length:=by omega
  have X3:b.rows.set 0 (Jt row' n cs)=[Jt row' n cs]:=by rw[hr];rfl
  have hnl:new.size=row'.length:=by rw[<-Y3];simp only[List.size_toArray,Vbb,Vbr,Vd2,Array.length_toList,hvl];simp at hvl;omega
  have htops:∀g',tops (s.setB id {b with rows:=b.rows.set 0 (Jt row' n cs)}) ρ g'↔tops s ρ g':=Z02 hb rfl;have hwk:Zse w (w.setRow g new) (λg=>¬tops s ρ g) (λg=>¬tops (s.setB id {b with rows:=b.rows.set 0 (Jt row' n cs)}) ρ g):=
   ⟨λg' Z7 _=>setRow_other w g g' _ (λe=>Z7 (e▸⟨id,b,_,_,_,hb,Yc,hρ⟩)),λg' Z7 _ ht=>Z7 ((htops g').1 ht),by simp⟩
  obtain⟨h1,h2,h3⟩:=h.write (b':={b with rows:=b.rows.set 0 (Jt row' n cs)}) (Fs:=F id) (fl':=fl) (new:=new) hb Yc Yc hρ hg ⟨[],hF⟩ ⟨[],hF⟩ (λk hk=>.inl hk) (h.once id b hb Yc) (λ_ h=>h) h.flOnce (h.flApart id b hb Yc) (by omega) (by
   refine .mkBox (row:=Jt row' n cs) Xi Yc (by rw[Zly hsl]) (setRow_heap w g cur new e (0,0) hg) X3 (by rw[Zly hsl];exact hnl) (λm u z hu hz=>?_) (λz hz=>?_) hF
   .have hu':(cur.toList.take n++(a.eval y).cells.toList++cur.toList.drop (n+(a.eval y).cells.toList.length))[m]?=some u:=by rw[<-Y3] at hu;simpa using hu
    rw[Zcr (by simp only[Array.length_toList,hvl];omega),hvl] at hu';rcases Zz1 hsl hz with⟨h4,h5,h6⟩|⟨h4,h6⟩
    .rw[ZZj ⟨h4,h5⟩] at hu'
     exact (show En w (λg=>(¬tops s ρ g)/\g < w.heap.size) ρ u z from hy3 _ u z (by simpa using hu') h6).keep hwk (λ_ _ h=>h)
    .rw[ZZi (by omega)] at hu'
     exact (show En w (λg=>(¬tops s ρ g)/\g < w.heap.size) ρ u z from he m u z (by simpa using hu') h6).keep hwk (λ_ _ h=>h)
   .obtain⟨m,hm⟩:=Va1 hz
    rcases Zz1 hsl hm with⟨_,_,h6⟩|⟨_,h6⟩
    .exact hy2 z (Vag h6)
    .exact hce z (Vag h6))
  refine .skip Yt ⟨rfl,rfl,h2,ρ,upd F id (F id),h1,.undef,λ_ _ h=>h,λ_ h=>.inl h⟩
end
theorem OwL.split {w:World}:∀(n:Nat) {vs:List Value} {xs:List V} {fp:List Nat},OwL w vs xs fp->∃f1 f2,fp=f1++f2/\OwL w (vs.take n) (xs.take n) f1/\OwL w (vs.drop n) (xs.drop n) f2:=by
 intro n
 induction n with
 | zero=>intro vs xs fp h;exact⟨[],fp,rfl,by simp;exact .nil,h⟩
 | succ n ih=>
  intro vs xs fp h;cases xs with
  | nil=>cases h;exact⟨[],[],rfl,.nil,.nil⟩
  | cons x xs=>
   cases h with
   | @cons v _ vs _ f1 f2 h hs=>
    obtain⟨g1,g2,e,h1,h2⟩:=ih hs;exact⟨f1++g1,g2,by rw[e,List.append_assoc],.cons h h1,h2⟩
theorem OwL.put {w:World} {vs us:List Value} {xs ys:List V} {f f2:List Nat} (h:OwL w vs xs f) (h2:OwL w us ys f2) (m:Nat):∃f',OwL w (vs.take m++us++vs.drop (m+us.length)) (xs.take m++ys++xs.drop (m+us.length)) f'/\(∀k∈f',k∈f\/k∈f2)/\((f++f2).Nodup->f'.Nodup):=by
 obtain⟨f1,fr,rfl,ha,hb⟩:=h.split m;obtain⟨fm,fd,rfl,hc,hd⟩:=hb.split us.length;rw[List.drop_drop,List.drop_drop] at hd;have e:(f1++f2++fd).Perm (f1++fd++f2):=by
  rw[List.append_assoc,List.append_assoc];exact List.Perm.append_left _ Vct
 have Zex:(f1++fd++f2).Sublist (f1++(fm++fd)++f2):=Vcl (Vcl (Vbz _) (Va4 _ _)) (Vbz _);refine⟨f1++f2++fd,(ha.append h2).append hd,λk hk=>?_,λhn=>e.nodup_iff.2 (hn.sublist Zex)⟩;have:=Zex.subset (e.mem_iff.1 hk);exact Vat.1 this
theorem Yq9 {α:Type} {sz:Nat}:∀{rows:List (List α)} {j:Nat} {row:List α} {n:Nat} {ys:List α},(∀r∈rows,r.length=sz)->rows[j]?=some row->n+ys.length<=sz->
  (rows.set j (row.take n++ys++row.drop (n+ys.length))).flatten=rows.flatten.take (j*sz+n)++ys++rows.flatten.drop (j*sz+n+ys.length):=by
 intro rows
 induction rows with
 | nil=>intro j row n ys _ h;simp at h
 | cons r rs ih=>
  intro j row n ys hs hj hn;have hr:r.length=sz:=hs r Vab;cases j with
  | zero=>
   have:r=row:=by simpa using hj
   subst this;simp only[Vdr,Vaz,Vdj,Vbk];rw[List.take_append_of_le_length (by omega),List.drop_append_of_le_length (by omega)];simp only[List.append_assoc]
  | succ j=>
   have h1:=ih (λr h=>hs r (Vad _ h)) (show rs[j]?=some row by simpa using hj) hn;simp only[List.set_cons_succ,Vaz,h1];rw[show (j+1)*sz+n=r.length+(j*sz+n) by rw[Vbv,hr];omega,List.take_length_add_append,show r.length+(j*sz+n)+ys.length=r.length+(j*sz+n+ys.length) by omega,List.drop_length_add_append];simp only[List.append_assoc]
section
variable {P:Program} {B:Nat} {io:Nat->Prop} {w w':World} {a:Act} {tmps:Array Value} {s s':St} {ρ ρ':Rho} {F F':Id->List Nat} {fl fl':List Nat} {k:Nat} {o:Oper} {v:V}
theorem Yq4 (h:Rel P B io w a.tmps s ρ F fl) {t:TypeId} {x y:Operand} {id:Id} {j n:Nat} {b b1:Blk} {row cs ys:List V} {c:Bool} {s1:St} (ho:o.op=.store t x y) (hx:s.opV x=.ptr id j n) (hb:s.heap id=some b) (Yx:b.rows[j]?=some row) (hc:Zso (s.opV y)=some cs)
  (Yc:b.own=true) (Xi:b.box=false) (X8:cs.length=Zx P t) (Z78:n+Zx P t<=row.length) (hz:Zx P t≠0) (hsink:s.sink cs=some (ys,c,s1)) (hb1:s1.heap id=some b1):
  OpR P o a w (Stp P B io w a.tmps s ρ fl k .undef (s1.setB id {b1 with cl:=b1.cl&&c,rows:=b1.rows.set j (Jt row n ys)})):=by
 have hx':=h.opV x;rw[hx] at hx';obtain⟨hy1,hy2,hy3⟩:=Z0i (h.opV y) hc;generalize hq:a.eval x=q at hx';cases hx' with
 | @ptr _ g o' c' sz _ _ hρ=>
  obtain⟨fp,hR,hyl,hOw,hRd,Jo,Ym,Zex,Yok⟩:=Ysa cs (us:=(a.eval y).cells.toList) h (by simpa using hy1) (λm u z hu hz=>hy3 m u z (by simpa using hu) hz) hsink;have hbb:b1=b:=by
   have:=Zex id b1 hb1;rw[hb] at this;injection this with this;exact this.symm
  subst hbb;have hB:=hR.heap id b1 hb1;rw[hρ] at hB;unfold Xg at hB;rw[Xi,Yc] at hB;rcases hB with⟨Yj,_⟩|⟨g',o'',c'',cur,Yj,hg,hl,hm,Jc,hz',r,hF,h1,h2⟩
  .cases Yj
  .cases Yj
   have hrl:row.length=P.cellsOf b1.el:=Jc row (Vag Yx);have hjl:=(ZZh.1 Yx).1;have Yl:(a.eval y).cells.size=Zx P t:=by rw[hy1,X8]
   have hvl:(a.eval y).cells.toList.length=cs.length:=by simpa using hy1
   have hyc:ys.length=cs.length:=by rw[<-hyl,hvl]
   have hfitc:o'+j*P.cellsOf b1.el+n+cs.length<=cur.size:=by
    have:(j+1)*P.cellsOf b1.el<=c'*P.cellsOf b1.el:=Vbq _ (by omega);rw[Vbv] at this;omega
   have Yt:=Z0v (P:=P) ho hq Yl hz hg (by omega) (λu hu=>by
    obtain⟨m,hm'⟩:=Va1 hu;have hm':(a.eval y).cells[m]?=some u:=by simpa using hm'
    have Z5:m < cs.length:=by have:=(Vam.1 hm').1;omega
    exact (hy3 m u _ hm' (Vac Z5)).one (hy2 _ (Vao Z5)))
   have hsy:Jt row n ys=row.take n++ys++row.drop (n+ys.length):=rfl;have Z9e:=Yq9 (ys:=ys) Jc Yx (show n+ys.length<=P.cellsOf b1.el by omega);rw[<-hsy] at Z9e;have Z79:=Je Jc;generalize hus:(a.eval y).cells.toList=us at Yt hOw hRd hyl hvl;have hbl:j*P.cellsOf b1.el+n+us.length<=b1.rows.length*P.cellsOf b1.el:=by
    have:(j+1)*P.cellsOf b1.el<=b1.rows.length*P.cellsOf b1.el:=Vbq _ (by omega);rw[Vbv] at this;omega
   have hbc:b1.rows.length*P.cellsOf b1.el<=c'*P.cellsOf b1.el:=Vbq _ hl;have hgF:g∈F id:=by rw[hF];exact Vab
   have hgr:g ∉ r:=by
    have:=hR.once id b1 hb1 Yc;rw[hF] at this;exact (Vay.1 this).1
   have Yhy:g ∉ fp++fl:=hR.flApart id b1 hb1 Yc g hgF;generalize Y3:(cur.toList.take (o'+j*P.cellsOf b1.el+n)++us++cur.toList.drop (o'+j*P.cellsOf b1.el+n+us.length)).toArray=new at Yt;have Zuv:new.size=cur.size:=by rw[<-Y3];simp;omega
   have Z8b:∀m,new[o'+m]?=if j*P.cellsOf b1.el+n<=m/\m < j*P.cellsOf b1.el+n+us.length then us[m - (j*P.cellsOf b1.el+n)]? else cur[o'+m]?:=by
    intro m;rw[<-Y3];have:=Zcr (cur:=cur.toList) (n:=o'+j*P.cellsOf b1.el+n) (vs:=us) (by simp;omega) (j:=o'+m);rw[Vcs,this];by_cases hc:j*P.cellsOf b1.el+n<=m/\m < j*P.cellsOf b1.el+n+us.length
    .rw[ZZj (by omega),ZZj hc];congr 1;omega
    .rw[ZZi (by omega),ZZi hc];simp
   have Zc2:∀k',k'≠g->(w.setRow g new).heap[k']?=w.heap[k']?:=λk' W9=>setRow_other w g k' _ W9;have Zzq:∀r'∈b1.rows.set j (Jt row n ys),r'.length=P.cellsOf b1.el:=λr' Jx=>by
    rcases Vb9 Jx with h4|h4
    .exact Jc r' h4
    .rw[h4,Zly (by omega)];exact hrl
   have Z07:(b1.rows.set j (Jt row n ys)).length=b1.rows.length:=Vbh;have Zh4:(new.toList.drop o').take (b1.rows.length*P.cellsOf b1.el)=((cur.toList.drop o').take (b1.rows.length*P.cellsOf b1.el)).take (j*P.cellsOf b1.el+n)++us++((cur.toList.drop o').take (b1.rows.length*P.cellsOf b1.el)).drop (j*P.cellsOf b1.el+n+us.length):=by
    apply Vcr;intro m;rw[Zcr (by simp;omega),Vai,Vai,Vau,Vau];have hm:=Z8b m;simp only[Vcu];rw[hm];by_cases hc:j*P.cellsOf b1.el+n<=m/\m < j*P.cellsOf b1.el+n+us.length
    .rw[ZZj hc,ZZj hc,ZZj (by omega)]
    .rw[ZZi hc,ZZi hc]
   have htb:∀b':Blk,b'.own=true->∀g',tops (s1.setB id b') ρ g'->tops s1 ρ g':=λb' Yb g'=>(Z02 hb1 (by rw[Yb,Yc]) g').1;have Yol:∀b':Blk,b'.own=true->∀g',okS s1 ρ w g'->okS (s1.setB id b') ρ (w.setRow g new) g':=λb' Yb g' Z7=>⟨λht=>Z7.1 (htb b' Yb g' ht),by simpa using Z7.2⟩;have Wy:tops s1 ρ g:=⟨id,b1,_,_,_,hb1,Yc,hρ⟩;have hrd:∀b':Blk,b'.own=true->∀{u:Value} {z:V},Rd w (okS s1 ρ w) u z->Rd (w.setRow g new) (okS (s1.setB id b') ρ (w.setRow g new)) u z:=λb' Yb u z hu=>
    hu.mono (λg' Z7 _=>Zc2 g' (λe=>Z7.1 (e▸Wy))) (Yol b' Yb)
   have fin:∀(Fs:List Nat),(∃r',Fs=g::r')->(∀k'∈Fs,k'∈F id\/k'∈fp++fl)->Fs.Nodup->(∀k'∈Fs,k' ∉ fl)->
     Xg P (w.setRow g new) (okS (s1.setB id {b1 with cl:=b1.cl&&c,rows:=b1.rows.set j (Jt row n ys)}) ρ (w.setRow g new)) ρ (some (.blk g o' c' (P.cellsOf b1.el))) Fs {b1 with cl:=b1.cl&&c,rows:=b1.rows.set j (Jt row n ys)}->
     OpR P o a w (Stp P B io w a.tmps s ρ fl k .undef (s1.setB id {b1 with cl:=b1.cl&&c,rows:=b1.rows.set j (Jt row n ys)})):=by
    intro Fs hFs hFm hno hfd Y0w;obtain⟨w1,w2,w3⟩:=hR.write (b':={b1 with cl:=b1.cl&&c,rows:=b1.rows.set j (Jt row n ys)}) (Fs:=Fs) (fl':=fl) (new:=new) hb1 Yc Yc hρ hg ⟨r,hF⟩ hFs hFm hno (λk' W9=>Vak _ W9) h.flOnce hfd (by omega) Y0w;exact .skip Yt ⟨Jo,Ym,w2,ρ,upd F id Fs,w1,.undef,λ_ _ h=>h,λ_ h=>.inl h⟩
   by_cases hcc:(b1.cl&&c)=true
   .rw[ZZg] at hcc
    have hO1:=(h1 hcc.1).frame (w':=w.setRow g new) (λk' W9=>Zc2 k' (λe=>hgr (e▸W9)));have hO2:=(hOw hcc.2).frame (w':=w.setRow g new) (λk' W9=>Zc2 k' (λe=>Yhy (e▸Vae _ W9)));obtain⟨f',hO,hf1,hf2⟩:=hO1.put hO2 (j*P.cellsOf b1.el+n);rw[<-Zh4,show us.length=ys.length by omega,<-Z9e] at hO;have hdis:(r++fp).Nodup:=by
     have n1:=hR.once id b1 hb1 Yc;rw[hF] at n1;refine Vap.2 ⟨(Vay.1 n1).2,(Vap.1 hR.flOnce).1,λp hp q hq e=>?_⟩;subst e;exact hR.flApart id b1 hb1 Yc p (by rw[hF];exact Vad _ hp) (Vae _ hq)
    have hgf:g ∉ f':=λhf=>by
     rcases hf1 g hf with h4|h4
     .exact hgr h4
     .exact Yhy (Vae _ h4)
    refine fin (g::f') ⟨f',rfl⟩ (λk' W9=>?_) (Vay.2 ⟨hgf,hf2 hdis⟩) (λk' W9 hkf=>?_) (.mkRow (fp:=f') Xi Yc rfl (setRow_heap w g cur new _ _ hg) (by rw[Z07];exact hl) hm Zzq (by rw[Zuv];exact hz') rfl (λ_=>by rw[Z07];exact hO) (λhf=>by simp[hcc.1,hcc.2] at hf))
    .rcases Vav.1 W9 with rfl|W9
     .exact .inl hgF
     .rcases hf1 k' W9 with h4|h4
      .exact .inl (by rw[hF];exact Vad _ h4)
      .exact .inr (Vae _ h4)
    .rcases Vav.1 W9 with rfl|W9
     .exact Yhy (Vak _ hkf)
     .rcases hf1 k' W9 with h4|h4
      .exact hR.flApart id b1 hb1 Yc k' (by rw[hF];exact Vad _ h4) (Vak _ hkf)
      .exact (Vap.1 hR.flOnce).2.2 k' h4 k' hkf rfl
   .have Zh6:∀(m:Nat) (z:V),b1.rows.flatten[m]?=some z->∃u,cur[o'+m]?=some u/\Rd w (okS s1 ρ w) u z:=by
     intro m z hmz;cases hcl1:b1.cl with
     | true=>
      obtain⟨u,hu,hr⟩:=(h1 hcl1).rd (ok:=okS s1 ρ w) (λk' W9=>hR.ok_of_F hb1 Yc hρ (by rw[hF];exact Vad _ W9) (λg' _ _ _ e=>by cases e;rintro rfl;exact hgr W9)) hmz;rw[Vai] at hu;split at hu
      .exact⟨u,by simpa using hu,hr⟩
      .cases hu
     | false=>exact (h2 hcl1).2 m z hmz
    refine fin [g] ⟨[],rfl⟩ (λk' W9=>.inl (by rw[List.mem_singleton.1 W9];exact hgF)) (by simp) (λk' W9 hkf=>Yhy (Vak _ (by rw[<-List.mem_singleton.1 W9];exact hkf))) (.mkRow (fp:=[]) Xi Yc rfl (setRow_heap w g cur new _ _ hg) (by rw[Z07];exact hl) hm Zzq (by rw[Zuv];exact hz') rfl (λhf=>absurd hf hcc) (λ_=>⟨rfl,λm z hmz=>?_⟩));rw[Z9e,Zcr (by rw[Z79];omega)] at hmz;rw[Z8b m,show us.length=ys.length by omega];split at hmz
    .rename_i hc
     rw[ZZj hc];have Z5:m - (j*P.cellsOf b1.el+n) < us.length:=by omega
     refine⟨us[m - (j*P.cellsOf b1.el+n)],Vac Z5,hrd {b1 with cl:=b1.cl&&c,rows:=b1.rows.set j (Jt row n ys)} Yc (hRd _ _ z (Vac Z5) hmz)⟩
    .rename_i hc
     rw[ZZi hc];obtain⟨u,hu,hr⟩:=Zh6 m z hmz;exact⟨u,hu,hrd {b1 with cl:=b1.cl&&c,rows:=b1.rows.set j (Jt row n ys)} Yc hr⟩
end
section
variable {P:Program} {B:Nat} {io:Nat->Prop} {w w':World} {tmps:Array Value} {s s':St} {ρ ρ':Rho} {F F':Id->List Nat} {fl fl':List Nat}
theorem Zz7 {i id:Id} {b b':Blk} {g o c sz o' c' sz':Nat} (Zw:ρ id=none) (hb:s.heap i=some b) (ho:b.own=true) (hρ:ρ i=some (.blk g o c sz)):
  ∀g',tops ((s.kill i).setB id b') (upd ρ id (some (.blk g o' c' sz'))) g'->tops s ρ g':=by
 rintro g' ⟨id',b'',o2,c2,sz2,Yb,Q2,hρ'⟩;by_cases e:id'=id
 .subst e
  rw[Z1] at hρ';injection hρ' with hρ';injection hρ' with hg;subst hg;exact⟨i,b,o,c,sz,hb,ho,hρ⟩
 .rw[Xl e] at Yb
  rw[Yo e] at hρ';exact⟨id',b'',o2,c2,sz2,Zcv Yb,Q2,hρ'⟩
theorem Rel.move (h:Rel P B io w tmps s ρ F fl) {i id:Id} {b b':Blk} {g o c sz o' c' sz':Nat} {Fs:List Nat} (Zw:ρ id=none) (Ym:id.1=s.ep) (hb:s.heap i=some b) (ho:b.own=true) (hρ:ρ i=some (.blk g o c sz))
  (hF:∃r,F i=g::r) (hFs:∃r,Fs=g::r) (hFm:∀k∈Fs,k∈F i) (hno:Fs.Nodup) (Zp9:0 < c'->0 < c)
  (hn:Xg P w (okS ((s.kill i).setB id b') (upd ρ id (some (.blk g o' c' sz'))) w) (upd ρ id (some (.blk g o' c' sz'))) (some (.blk g o' c' sz')) Fs b'):
  Rel P B io w tmps ((s.kill i).setB id b') (upd ρ id (some (.blk g o' c' sz'))) (upd F id Fs) fl:=by
 have Yf:i≠id:=by rintro rfl;rw[Zw] at hρ;cases hρ
 have old:∀{id':Id} {b'':Blk},id'≠id->((s.kill i).setB id b').heap id'=some b''->s.heap id'=some b''/\id'≠i:=λ{id' b''} e Yb=>by
  rw[Xl e] at Yb;refine⟨Zcv Yb,?_⟩;rintro rfl;rw[Q7] at Yb;cases Yb
 obtain⟨r,hFr⟩:=hF;refine h.step (nid:=id) rfl rfl (λid' b'' e Yb=>(old e Yb).1) (Jk Zw) (λid' hi=>?_) (λid' e=>Yo e) (λid' e=>Yo e) (.same (Zz7 Zw hb ho hρ)) (λ_ _ _ _ _ _=>rfl) (λ_ _ _=>rfl)
  (λb'' Yb=>?_) (λb'' Yb Q2=>?_) (λb'' Yb Q2 id' b3 e hb3 ho3 g' Z7 Zh5=>?_) (λb'' Yb Q2=>by rw[Z1];exact hno) h.flMine
  (λid' b'' e Yb Q2=>h.flApart id' b'' (old e Yb).1 Q2) (λb'' Yb Q2 g' Z7=>?_) h.flOnce
 .by_cases e:id'=id
  .subst e;exact .inr Ym
  .rw[Yo e] at hi;exact .inl hi
 .rw[Zdy] at Yb
  injection Yb with Yb;subst Yb;rw[Z1,Z1];exact hn
 .rw[Z1]
  refine⟨λg' Z7=>h.mine i b hb ho g' (hFm g' Z7),λhcc g' Z7=>?_⟩;obtain⟨r',rfl⟩:=hFs;have e1:g=g':=by simpa using Z7
  subst e1;exact h.top i b hb ho (by
   rw[Z1] at hcc;obtain⟨_,_,_,_,e2,h2⟩:=hcc;injection e2 with e2;injection e2 with _ _ e3 _;exact⟨g,o,c,sz,hρ,Zp9 (by rw[e3];exact h2)⟩) g (by rw[hFr];rfl)
 .rw[Z1] at Zh5
  obtain⟨h3,h4⟩:=old e hb3;exact h.apart id' i b3 b h3 ho3 hb ho h4 g' Z7 (hFm g' Zh5)
 .rw[Z1] at Z7
  exact h.flApart i b hb ho g' (hFm g' Z7)
theorem Rel.fresh (h:Rel P B io w tmps s ρ F fl) {id:Id} (Zw:ρ id=none) (Ym:id.1=s.ep) (Ws:w'.heap.size=w.heap.size+1) (Zuw:∀g,g < w.heap.size->w'.heap[g]?=w.heap[g]?) {b:Blk} {o c sz:Nat} {r:List Nat}
  (hr:∀k∈r,k∈fl) (hno:r.Nodup) (Q9:∀k∈fl',k∈fl) (Ycr:fl'.Nodup) (hfd:∀k∈r,k ∉ fl')
  (hn:Xg P w' (okS (s.setB id b) (upd ρ id (some (.blk w.heap.size o c sz))) w') (upd ρ id (some (.blk w.heap.size o c sz))) (some (.blk w.heap.size o c sz)) (w.heap.size::r) b):
  Rel P B io w' tmps (s.setB id b) (upd ρ id (some (.blk w.heap.size o c sz))) (upd F id (w.heap.size::r)) fl':=by
 refine h.step (nid:=id) rfl rfl (λid' b' e hb=>by rw[Xl e] at hb;exact hb) (Jk Zw) (λid' hi=>?_) (λid' e=>Yo e) (λid' e=>Yo e) ⟨λg _ hg=>Zuw g hg,λg hg Z5 ht=>?_,by omega⟩
  (λid' b' e hb g hg=>Zuw g (h.F_lt (by rw[Xl e] at hb;exact hb) g hg)) (λk hk _=>Zuw k (Va9 hk h.base)) (λb' hb=>?_) (λb' hb ho=>?_) (λb' hb ho id' b'' e Yct Z5h g hg Z7=>?_) (λb' hb ho=>?_) (λg hg=>by have:=h.flMine g (Q9 g hg);omega)
  (λid' b' e hb ho g hg Z7=>h.flApart id' b' (by rw[Xl e] at hb;exact hb) ho g hg (Q9 g Z7)) (λb' hb ho g hg Z7=>?_) Ycr
 .by_cases e:id'=id
  .subst e;exact .inr Ym
  .rw[Yo e] at hi;exact .inl hi
 .rcases Z5f Zw ht with h1|⟨o',c',sz',h1⟩
  .exact hg h1
  .injection h1 with h1;omega
 .rw[Zdy] at hb
  injection hb with hb;subst hb;rw[Z1,Z1];exact hn
 .rw[Z1]
  refine⟨λg hg=>?_,λ_ g hg=>?_⟩
  .rcases Vav.1 hg with rfl|hg
   .omega
   .have:=h.flMine g (hr g hg);omega
  .have:w.heap.size=g:=by simpa using hg
   have:=h.base;omega
 .rw[Z1] at Z7
  rw[Xl e] at Yct;have:=h.F_lt Yct g hg;rcases Vav.1 Z7 with rfl|Z7
  .omega
  .exact h.flApart id' b'' Yct Z5h g hg (hr g Z7)
 .rw[Z1]
  refine Vay.2 ⟨λhm=>?_,hno⟩;have:=h.flMine _ (hr _ hm);omega
 .rw[Z1] at hg
  rcases Vav.1 hg with rfl|hg
  .have:=h.flMine _ (Q9 _ Z7);omega
  .exact hfd g hg Z7
end
section
variable {P:Program} {B:Nat} {io:Nat->Prop} {w w':World} {tmps:Array Value} {s s':St} {ρ ρ':Rho} {F F':Id->List Nat} {fl fl':List Nat}
theorem Rel.grown {r:List Nat} (h:Rel P B io w tmps s ρ F (r++fl)) {id:Id} (Zw:ρ id=none) (Ym:id.1=s.ep) (Ws:w'.heap.size=w.heap.size+1) (Zuw:∀g,g < w.heap.size->w'.heap[g]?=w.heap[g]?)
  {us zs:List Value} {rows:List (List V)} {e:TypeId} {cl:Bool} {c:Nat} (hat:w'.heap[w.heap.size]?=some (.cells (us++zs).toArray e (0,0))) (hl:rows.length<=c) (hm:c<=maxLen) (hu:∀q∈rows,q.length=P.cellsOf e)
  (Yl:us.length=rows.length*P.cellsOf e) (hz:us.length+zs.length=c*P.cellsOf e) (h1:cl=true->OwL w us rows.flatten r)
  (h2:cl=false->r=[]/\∀(k:Nat) (x:V),rows.flatten[k]?=some x->∃v,us[k]?=some v/\Rd w (okS s ρ w) v x):
  Rel P B io w' tmps (s.setB id ⟨false,true,cl,e,rows⟩) (upd ρ id (some (.blk w.heap.size 0 c (P.cellsOf e)))) (upd F id (w.heap.size::r)) fl:=by
 have hno:=Vap.1 h.flOnce;refine h.fresh Zw Ym Ws Zuw (λk hk=>Vae _ hk) hno.1 (λk hk=>Vak _ hk) hno.2.1 (λk hk W9=>hno.2.2 k hk k W9 rfl) ?_;refine Xg.mkRow rfl rfl rfl hat hl hm hu (by simpa using hz.symm) rfl (λX8=>?_) (λX8=>?_)
 .have:((us++zs).toArray.toList.drop 0).take (rows.length*P.cellsOf e)=us:=by simp[<-Yl]
  show OwL w' (((us++zs).toArray.toList.drop 0).take (rows.length*P.cellsOf e)) rows.flatten r;rw[this];exact (h1 X8).frame λg hg=>Zuw g ((h1 X8).lt g hg)
 .obtain⟨hr,hc⟩:=h2 X8
  refine⟨hr,λk x hk=>?_⟩;obtain⟨v,hv,hrd⟩:=hc k x hk;refine⟨v,?_,(show Rd w (λg=>(¬tops s ρ g)/\g < w.heap.size) v x from hrd).keep (ok':=λg=>¬tops (s.setB id ⟨false,true,cl,e,rows⟩) (upd ρ id (some (.blk w.heap.size 0 c (P.cellsOf e)))) g) ⟨λg _ hg=>Zuw g hg,λg hg Z5 ht=>?_,by omega⟩⟩
  .have Z5:=(ZZh.1 hv).1
   simp[Vaj Z5,hv]
  .rcases Z5f Zw ht with h3|⟨o',c',sz',h3⟩
   .exact hg h3
   .injection h3 with h3;omega
end
theorem OwL.lits {w:World} {ok:Nat->Prop}:∀{xs:List V} {us:List Value},us.length=xs.length->(∀(k:Nat) (x:V),xs[k]?=some x->∃v,us[k]?=some v/\Rd w ok v x)->xs.all Zwq=true->OwL w us xs []:=by
 intro xs
 induction xs with
 | nil=>intro us hl _ _;rw[Vas hl];exact .nil
 | cons x xs ih=>
  intro us hl h ha;cases us with
  | nil=>simp at hl
  | cons u us=>
   simp only[Va6,ZZg] at ha;obtain⟨v,hv,hr⟩:=h 0 x rfl;have e:u=v:=by simpa using hv
   subst e;have hO:Ow w u x []:=by
    cases x<;>simp[Zwq] at ha;cases hr with|lit hs=>exact .lit hs
   have:=OwL.cons hO (ih (us:=us) (by simpa using hl) (λk y hk=>h (k+1) y (by simpa using hk)) ha.2);simpa using this
theorem Y2p {w:World} {ok:Nat->Prop} {a:Addr} {xs:List V} (h:∀(k:Nat) (x:V),xs[k]?=some x->∃v,w.cell? (a.add k)=some v/\Rd w ok v x):
  ∃us:List Value,us.length=xs.length/\(∀(j:Nat) (v:Value),us[j]?=some v->w.cell? (a.add j)=some v)/\∀(k:Nat) (x:V),xs[k]?=some x->∃v,us[k]?=some v/\Rd w ok v x:=by
 refine⟨(List.range xs.length).map λk=>(w.cell? (a.add k)).getD undef,by simp,λj v hj=>?_,λk x hk=>?_⟩
 .simp only[Va8,ZZc] at hj
  obtain⟨j',hj',rfl⟩:=hj;obtain⟨Z5,rfl⟩:=ZZh.1 hj';simp only[Vds,Vdy] at Z5 ⊢;obtain⟨v,hv,_⟩:=h j xs[j] (Vac Z5);rw[hv];rfl
 .obtain⟨v,hv,hr⟩:=h k x hk
  have Z5:=(ZZh.1 hk).1;exact⟨v,by simp[Vdq Z5,hv],hr⟩
section
variable {P:Program} {B:Nat} {io:Nat->Prop} {w w':World} {tmps:Array Value} {s s':St} {ρ ρ':Rho} {F F':Id->List Nat} {fl fl':List Nat}
structure Cells (w:World) (ok:Nat->Prop) (sz:Nat) (u:Value) (rows:List (List V)) (cl:Bool) (r:List Nat) (us:List Value):Prop where
 val:∃a c,u=.slice (some a) rows.length c/\∀(j:Nat) (v:Value),us[j]?=some v->w.cell? (a.add j)=some v
 len:us.length=rows.length*sz
 own:cl=true->OwL w us rows.flatten r
 see:cl=false->r=[]/\∀(k:Nat) (x:V),rows.flatten[k]?=some x->∃v,us[k]?=some v/\Rd w ok v x
theorem Cells.ofRd {ok:Nat->Prop} {sz g o c:Nat} {rows:List (List V)} (hs:∀q∈rows,q.length=sz) (h:∀(k:Nat) (x:V),rows.flatten[k]?=some x->∃v,w.cell? ⟨g,o+k,none⟩=some v/\Rd w ok v x):
  ∃us,Cells w ok sz (.slice (some ⟨g,o,none⟩) rows.length c) rows (Zaq rows) [] us:=by
 obtain⟨us,h1,h2,h3⟩:=Y2p (w:=w) (ok:=ok) (a:=⟨g,o,none⟩) (xs:=rows.flatten) (λk x hk=>by simpa [Zah] using h k x hk);refine⟨us,⟨⟨g,o,none⟩,c,rfl,h2⟩,by rw[h1,Je hs],λhl=>OwL.lits h1 h3 ?_,λ_=>⟨rfl,h3⟩⟩;simp only[Zaq,ZZk] at hl ⊢;intro x hx;obtain⟨q,hq,hx⟩:=Vbw.1 hx;exact hl q hq x hx
end
section
variable {P:Program} {B:Nat} {io:Nat->Prop} {w w':World} {tmps:Array Value} {s s':St} {ρ ρ':Rho} {F F':Id->List Nat} {fl fl':List Nat}
theorem Ypg (h:Rel P B io w tmps s ρ F fl) {id:Id} {off len:Nat} {e:TypeId} {rows:List (List V)} {u:Value} {sz:Nat} (hu:En w (okS s ρ w) ρ u (.sl id off len)) (hw:s.whole id off len=some (e,rows)) (Qy:∀q∈rows,q.length=sz):
  ∃r,Rel P B io w tmps (s.kill id) ρ F (r++fl)/\((rows=[]/\r=[]/\∃A c,u=.slice A 0 c)\/∃us,Cells w (okS (s.kill id) ρ w) sz u rows true r us):=by
 obtain⟨fp,hR,hO⟩:=h.whole hu hw;rcases hO with⟨A,rfl,rfl,rfl⟩|⟨g,o,c,cur,fp',rfl,hg,hl,hm,Jc,hz,hO,rfl⟩
 .exact⟨[],hR,.inl ⟨rfl,rfl,A,0,rfl⟩⟩
 .refine⟨fp',hR.less (by rw[Vd1];exact Vea _ _),.inr ⟨_,⟨⟨g,o,none⟩,c,rfl,λj v hj=>?_⟩,by rw[hO.length,Je Qy],λ_=>hO,λhc=>by cases hc⟩⟩
  rw[Vai] at hj;split at hj
  .rw[Vau] at hj
   simp only[Zah,World.cell?,hg];simpa using hj
  .cases hj
theorem Z3x (h:Rel P B io w tmps s ρ F fl) {x:V} {rows:List (List V)} {u:Value} {sz:Nat} (hu:En w (okS s ρ w) ρ u x) (hr:s.rowsOf x=some rows) (Qy:∀q∈rows,q.length=sz):
  (rows=[]/\∃A c,u=.slice A 0 c)\/∃us,Cells w (okS s ρ w) sz u rows (Zaq rows) [] us:=by
 have tree:∀{rows:List (List V)} {u:Value},(∀q∈rows,q.length=sz)->Rd w (okS s ρ w) u (.tr rows)->(rows=[]/\∃A c,u=.slice A 0 c)\/∃us,Cells w (okS s ρ w) sz u rows (Zaq rows) [] us:=by
  intro rows u Qy hR;cases hR with
  | emp=>exact .inl ⟨rfl,_,_,rfl⟩
  | @tr g o n c sz' _ uf hn hc hm hs hg hu' Jx=>
   subst hn;exact .inr (Cells.ofRd Qy λk x hk=>⟨uf k,hu' k x hk,Jx k x hk⟩)
 unfold St.rowsOf at hr;split at hr
 .rename_i id off len
  obtain⟨b,hb,hr⟩:=ZZb.1 hr;split at hr
  .rename_i hc
   obtain⟨Xi,Yl⟩:=hc;simp only[ZZd] at hr;subst hr;cases hu with
   | sle hi=>exact .inl ⟨by simp,_,_,rfl⟩
   | @sl _ g o c sz' _ _ hρ hc=>
    by_cases Yf:(b.rows.drop off).take len=[]
    .have hl0:len=0:=by
      have:=congrArg List.length Yf;simp at this;omega
     subst hl0;exact .inl ⟨Yf,_,_,rfl⟩
    .have hlr:((b.rows.drop off).take len).length=len:=by simp;omega
     have hB:=h.heap id b hb;rw[hρ] at hB;have Jc:∀r∈b.rows,r.length=sz':=by
      unfold Xg at hB;rw[Xi] at hB;generalize Yc:b.own=ow at hB;cases ow with
      | true=>
       rcases hB with⟨Yj,_⟩|⟨g',o',c',cur,Yj,hg,hl,hm,Jc,_⟩
       .cases Yj
       .cases Yj;exact Jc
      | false=>
       obtain⟨_,hB⟩:=hB;rcases hB with⟨Yj,_⟩|⟨g',o',c',sz2,Yj,Jc,_⟩
       .cases Yj
       .cases Yj;exact Jc
     have Ycs:∀r∈(b.rows.drop off).take len,r.length=sz':=λr hr=>Jc r (Vbm (Vby hr));have:=Cells.ofRd (w:=w) (ok:=okS s ρ w) (g:=g) (o:=o+off*sz') (c:=c - off) Qy λk x hk=>by
      obtain⟨i,j,row,hi,hj,rfl⟩:=Z1d Ycs hk;rw[Vai] at hi;split at hi
      .rw[Vau] at hi
       obtain⟨u,h1,_,h2⟩:=h.cell hb hρ hi hj;refine⟨u,?_,h2 Xi⟩;rw[show o+off*sz'+(i*sz'+j)=o+(off+i)*sz'+j by rw[Nat.add_mul];omega];exact h1
      .cases hi
     rw[hlr] at this;exact .inr this
  .cases hr
 .simp only[ZZd] at hr;subst hr;cases hu with|tr h=>exact tree Qy h
 .simp only[ZZd] at hr;subst hr;cases hu with|vw h=>exact tree Qy h
 .simp only[ZZd] at hr;subst hr;cases hu;exact .inl ⟨rfl,_,_,rfl⟩
 .cases hr
theorem Y0b {all:Bool} (h:Rel P B io w tmps s ρ F fl) {x:V} {rows:List (List V)} {cl:Bool} {s1:St} {u:Value} {sz:Nat} (hu:En w (okS s ρ w) ρ u x) (hm:s.moved all x=some (rows,cl,s1)) (Qy:∀q∈rows,q.length=sz):
  ∃r,Rel P B io w tmps s1 ρ F (r++fl)/\((rows=[]/\r=[]/\∃A c,u=.slice A 0 c)\/∃us,Cells w (okS s1 ρ w) sz u rows cl r us)/\(s1=s\/∃id,s1=s.kill id):=by
 have seen:∀{rows':List (List V)},s.rowsOf x=some rows'->(rows',Zaq rows',s)=(rows,cl,s1)->∃r,Rel P B io w tmps s1 ρ F (r++fl)/\((rows=[]/\r=[]/\∃A c,u=.slice A 0 c)\/∃us,Cells w (okS s1 ρ w) sz u rows cl r us)/\(s1=s\/∃id,s1=s.kill id):=by
  intro rows' hr he;simp only[ZZe] at he;obtain⟨rfl,rfl,rfl⟩:=he;refine⟨[],h,?_,.inl rfl⟩;rcases Z3x h hu hr Qy with⟨h1,h2⟩|h1
  .exact .inl ⟨h1,rfl,h2⟩
  .exact .inr h1
 unfold St.moved at hm;split at hm
 .rename_i id off len
  split at hm
  .rename_i er hw
   split at hw
   .simp only[ZZd,ZZe] at hm
    obtain⟨rfl,rfl,rfl⟩:=hm;obtain⟨r,h1,h2⟩:=Ypg h hu (e:=er.1) (rows:=er.2) hw Qy;exact⟨r,h1,h2,.inr ⟨id,rfl⟩⟩
   .cases hw
  .obtain⟨rows',hr,he⟩:=ZZc.1 hm
   exact seen hr he
 .obtain⟨rows',hr,he⟩:=ZZc.1 hm
  exact seen hr he
end
section
variable {P:Program} {w:World}
theorem Z12 (t ty e:TypeId) (i:TypeInfo) (ht:P.underlying t=some (.slice e)) (hi:P.info? e=some i) (base A:Option Addr) (n c c2:Nat) (hn:n<=c):
  (Builtin.append_ #[t,t] ty #[.slice base n c,.slice A 0 c2]).run P w=.ok (.slice base n c) w:=by
 have hf:(Builtin.firstCells i.size 0 (.slice A 0 c2)).run P w=.ok #[] w:=by
  cases A<;>simp[Builtin.firstCells,loadCells,loadCellsFrom]
 cases base<;>simp[Builtin.append_,run_underlying ht,Go.sizeOf,typeInfo,hi,Builtin.lenOf,hn,hf,storeCells]
theorem Ypm (t ty e:TypeId) (i:TypeInfo) (ht:P.underlying t=some (.slice e)) (hi:P.info? e=some i)
  (g o sLen sCap:Nat) (cur:Array Value) (hg:w.heap[g]?=some (.cells cur e (0,0)))
  (a:Addr) (m c:Nat) (news:List Value) (hl:news.length=m*i.size) (Zuv:∀j u,news[j]?=some u->w.cell? (a.add j)=some u) (h1:∀u∈news,u.oneCell'=true)
  (Yvs:sLen+m<=sCap) (Z78:o+sLen*i.size+news.length<=cur.size):
  (Builtin.append_ #[t,t] ty #[.slice (some ⟨g,o,none⟩) sLen sCap,.slice (some a) m c]).run P w=
   .ok (.slice (some ⟨g,o,none⟩) (sLen+m) sCap) (w.setRow g (cur.toList.take (o+sLen*i.size)++news++cur.toList.drop (o+sLen*i.size+news.length)).toArray):=by
 have hf:=run_firstCells_some (P:=P) w i.size m a m c news hl Zuv;have hst:=run_storeCells_at P g (o+sLen*i.size) e news 0 cur w hg (by simpa using Z78) h1;simp only[Va3] at hst;simp[Builtin.append_,run_underlying ht,Go.sizeOf,typeInfo,hi,Builtin.lenOf,Yvs,hf,Zah,hst]
end
section
variable {P:Program} {B:Nat} {io:Nat->Prop} {w w':World} {tmps:Array Value} {s s':St} {ρ ρ':Rho} {F F':Id->List Nat} {fl fl':List Nat}
theorem Rel.grownAt {r:List Nat} (h:Rel P B io w tmps s ρ F (r++fl)) {id:Id} (Zw:ρ id=none) (Ym:id.1=s.ep) {us:List Value} {rows:List (List V)} {e:TypeId} {cl:Bool} {c:Nat} {z:Value} (hz:z.cells.size=P.cellsOf e) (hl:rows.length<=c) (hm:c<=maxLen) (hu:∀q∈rows,q.length=P.cellsOf e)
  (Yl:us.length=rows.length*P.cellsOf e) (h1:cl=true->OwL w us rows.flatten r) (h2:cl=false->r=[]/\∀(k:Nat) (x:V),rows.flatten[k]?=some x->∃v,us[k]?=some v/\Rd w (okS s ρ w) v x):
  Rel P B io (w.drew.alloc (.cells (us.toArray++Builtin.zeroCells z.cells (c - rows.length)) e)) tmps (s.setB id ⟨false,true,cl,e,rows⟩) (upd ρ id (some (.blk w.heap.size 0 c (P.cellsOf e)))) (upd F id (w.heap.size::r)) fl:=by
 refine h.grown Zw Ym (us:=us) (zs:=(Builtin.zeroCells z.cells (c - rows.length)).toList) (Zn8 w.drew _) (λg hg=>Below.heap_alloc w.drew _ g hg) ?_ hl hm hu Yl ?_ h1 h2
 .have:=Z4n w.drew (.cells (us.toArray++Builtin.zeroCells z.cells (c - rows.length)) e)
  rw[show (us++(Builtin.zeroCells z.cells (c - rows.length)).toList).toArray=us.toArray++Builtin.zeroCells z.cells (c - rows.length) by apply Vdk;simp];exact this
 .show us.length+(Builtin.zeroCells z.cells (c - rows.length)).toList.length=_
  rw[Array.length_toList (xs:=Builtin.zeroCells z.cells (c - rows.length)),size_zeroCells,hz,Yl,<-Nat.add_mul]
  congr 1
  omega
end
section
variable {P:Program} {B:Nat} {io:Nat->Prop} {w w':World} {a:Act} {tmps:Array Value} {s s' s1:St} {ρ ρ':Rho} {F F':Id->List Nat} {fl fl':List Nat} {k:Nat} {o:Oper} {v:V}
theorem Yyx {id:Id} {b:Blk} (Zw:ρ id=none) {g:Nat} (h:tops (s.setB id b) (upd ρ id (some .emp)) g):tops s ρ g:=by
 obtain⟨id',b',o,c,sz,hb,ho,hρ⟩:=h;by_cases e:id'=id
 .subst e;rw[Z1] at hρ;cases hρ
 .rw[Xl e] at hb;rw[Yo e] at hρ;exact⟨id',b',o,c,sz,hb,ho,hρ⟩
theorem Rel.newEmp (h:Rel P B io w tmps s ρ F fl) {id:Id} (Zw:ρ id=none) (Ym:id.1=s.ep) {b:Blk} (Xi:b.box=false) (Yc:b.own=true) (hr:b.rows=[]):
  Rel P B io w tmps (s.setB id b) (upd ρ id (some .emp)) (upd F id []) fl:=by
 refine h.step (nid:=id) rfl rfl (λid' b' e hb=>by rw[Xl e] at hb;exact hb) (Jk Zw) (λid' hi=>?_) (λid' e=>Yo e) (λid' e=>Yo e) (.same λg=>Yyx Zw)
  (λ_ _ _ _ _ _=>rfl) (λ_ _ _=>rfl) (λb' hb=>?_) (λb' hb ho=>?_) (λb' hb ho id' b'' e Yct Z5h g hg Z7=>?_) (λb' hb ho=>?_) h.flMine
  (λid' b' e hb ho g hg=>h.flApart id' b' (by rw[Xl e] at hb;exact hb) ho g hg) (λb' hb ho g hg Z7=>?_) h.flOnce
 .by_cases e:id'=id
  .subst e;exact .inr Ym
  .rw[Yo e] at hi;exact .inl hi
 .rw[Zdy] at hb
  injection hb with hb;subst hb;rw[Z1,Z1];exact .mkEmp Xi Yc rfl hr rfl
 .rw[Z1];exact⟨λg hg=>by simp at hg,λ_ g hg=>by simp at hg⟩
 .rw[Z1] at Z7;simp at Z7
 .rw[Z1];simp
 .rw[Z1] at hg;simp at hg
theorem Zxp {id:Id} {i:Zq7} {e k:Nat} (Ym:id.1=e) (hk:id.2 / 1024=k):∀id',(upd ρ id (some i) id').isSome=true->(ρ id').isSome=true\/(id'.1=e/\id'.2 / 1024=k):=λid' hi=>by
 by_cases h:id'=id
 .subst h;exact .inr ⟨Ym,hk⟩
 .rw[Yo h] at hi;exact .inl hi
theorem Zcm {t:TypeId} {bo xo:Operand} {u:Value} (ho:o.op=.call {callee:=.builtin .append,args:=#[bo,xo],argTypes:=#[t,t]})
  (hr:(Builtin.append_ #[t,t] o.type #[a.eval bo,a.eval xo]).run P w=.ok u w'):(execOp a.eval o).run P w=.ok (.value u) w':=by
 simp[execOp,ho,resolve,invoke,builtin,hr]
theorem Wm.drew {w0:World} (h:Wm B io w0 w):Wm B io w0 w.drew:=⟨h.os,h.tape,h.output,h.size,h.block⟩
theorem Zyq {r:List Nat} (h:Rel P B io w a.tmps s1 ρ F (r++fl)) (Jo:s1.env=s.env) (Zg0:s1.ep=s.ep) {id:Id} (Zw:ρ id=none) (Ym:id.1=s.ep) (hk:id.2 / 1024=k) {us:List Value} {rows:List (List V)} {e:TypeId} {cl:Bool} {need old:Nat} {z:Value}
  (hz:z.cells.size=P.cellsOf e) (hn:rows.length=need) (hm:need<=maxLen) (hu:∀q∈rows,q.length=P.cellsOf e)
  (Yl:us.length=rows.length*P.cellsOf e) (h1:cl=true->OwL w us rows.flatten r) (h2:cl=false->r=[]/\∀(k:Nat) (x:V),rows.flatten[k]?=some x->∃v,us[k]?=some v/\Rd w (okS s1 ρ w) v x):
  Stp P B io w a.tmps s ρ fl k (.sl id 0 need) (s1.setB id ⟨false,true,cl,e,rows⟩) (.slice (some ⟨w.heap.size,0,none⟩) need (grownCap w need old e)) (w.drew.alloc (.cells (us.toArray++Builtin.zeroCells z.cells (grownCap w need old e - need)) e)):=by
 subst hn;have hge:=grownCap_ge w rows.length old e;have hR:=h.grownAt (fl:=fl) Zw (by rw[Zg0];exact Ym) (z:=z) (cl:=cl) hz hge (grownCap_le_maxLen w _ old e hm) hu Yl h1 h2;refine⟨Jo,Zg0,((Wm.refl B io w).drew).alloc h.base _,_,_,hR,?_,Jk Zw,Zxp Ym hk⟩;have:=En.sl (w:=w.drew.alloc (.cells (us.toArray++Builtin.zeroCells z.cells (grownCap w rows.length old e - rows.length)) e)) (ok:=okS (s1.setB id ⟨false,true,cl,e,rows⟩) (upd ρ id (some (.blk w.heap.size 0 (grownCap w rows.length old e) (P.cellsOf e)))) (w.drew.alloc (.cells (us.toArray++Builtin.zeroCells z.cells (grownCap w rows.length old e - rows.length)) e)))
  (off:=0) (len:=rows.length) (Z1 ρ id (some (.blk w.heap.size 0 (grownCap w rows.length old e) (P.cellsOf e)))) (by omega)
 simpa using this
end
section
variable {P:Program} {B:Nat} {io:Nat->Prop} {w w':World} {a:Act} {tmps:Array Value} {s s' s1:St} {ρ ρ':Rho} {F F':Id->List Nat} {fl fl':List Nat} {k:Nat} {o:Oper} {v:V}
theorem Yrp {n:Nat} {rows:List (List V)} (h:Zjw n rows=true):∀q∈rows,q.length=n:=λq hq=>by
 have:=ZZk.1 h q hq;simpa using this
theorem Rel.over {r:List Nat} (h:Rel P B io w tmps s ρ F (r++fl)) {i id:Id} {b b':Blk} {g o c sz o' c' sz':Nat} {f':List Nat} {new:Array Value} (Zw:ρ id=none) (Ym:id.1=s.ep) (hb:s.heap i=some b) (ho:b.own=true) (hρ:ρ i=some (.blk g o c sz))
  (hF:∃q,F i=g::q) (hFm:∀k∈f',k∈F i\/k∈r) (hno:(g::f').Nodup) (Zp9:0 < c)
  (hn:Xg P (w.setRow g new) (okS ((s.kill i).setB id b') (upd ρ id (some (.blk g o' c' sz'))) (w.setRow g new)) (upd ρ id (some (.blk g o' c' sz'))) (some (.blk g o' c' sz')) (g::f') b'):
  Rel P B io (w.setRow g new) tmps ((s.kill i).setB id b') (upd ρ id (some (.blk g o' c' sz'))) (upd F id (g::f')) fl/\Wm B io w (w.setRow g new):=by
 have Yf:i≠id:=by rintro rfl;rw[Zw] at hρ;cases hρ
 have old:∀{id':Id} {b'':Blk},id'≠id->((s.kill i).setB id b').heap id'=some b''->s.heap id'=some b''/\id'≠i:=λ{id' b''} e Yb=>by
  rw[Xl e] at Yb;refine⟨Zcv Yb,?_⟩;rintro rfl;rw[Q7] at Yb;cases Yb
 obtain⟨q,hFr⟩:=hF;have hgF:g∈F i:=by rw[hFr];exact Vab
 have Wy:tops s ρ g:=⟨i,b,o,c,sz,hb,ho,hρ⟩;have Zxj:(w.setRow g new).heap.size=w.heap.size:=by simp[World.setRow]
 have Ztn:∀k∈g::f',k∈F i\/k∈r:=λk hk=>by
  rcases Vav.1 hk with rfl|hk
  .exact .inl hgF
  .exact hFm k hk
 have hflr:=Vap.1 h.flOnce;refine⟨h.step (nid:=id) rfl rfl (λid' b'' e Yb=>(old e Yb).1) (Jk Zw) (λid' hi=>?_) (λid' e=>Yo e) (λid' e=>Yo e)
  ⟨λg' Z7 _=>setRow_other w g g' _ (λe=>Z7 (e▸Wy)),λg' Z7 _ ht=>Z7 (Zz7 Zw hb ho hρ g' ht),by rw[Zxj];exact Vaw _⟩ (λid' b'' e Yb g' Z7=>setRow_other w g g' _ (λe'=>?_))
  (λk hk hio=>setRow_other w g k _ (λe=>by
   subst e;rcases h.top i b hb ho ⟨k,o,c,sz,hρ,Zp9⟩ k (by rw[hFr];rfl) with h1|h1
   .exact hio h1
   .omega))
  (λb'' Yb=>?_) (λb'' Yb Q2=>?_) (λb'' Yb Q2 id' b3 e hb3 ho3 g' Z7 Zh5=>?_) (λb'' Yb Q2=>by rw[Z1];exact hno) (λg' Z7=>by rw[Zxj];exact h.flMine g' (Vak _ Z7))
  (λid' b'' e Yb Q2 g' Z7 Zh5=>h.flApart id' b'' (old e Yb).1 Q2 g' Z7 (Vak _ Zh5)) (λb'' Yb Q2 g' Z7 Zh5=>?_) hflr.2.1,⟨rfl,rfl,rfl,by rw[Zxj];exact Vaw _,λg' Z7 hio=>setRow_other w g g' _ (λe=>?_)⟩⟩
 .by_cases e:id'=id
  .subst e;exact .inr Ym
  .rw[Yo e] at hi;exact .inl hi
 .subst e'
  obtain⟨h1,h2⟩:=old e Yb;cases Yc:b''.own with
  | true=>exact h.apart id' i b'' b h1 Yc hb ho h2 g' Z7 hgF
  | false=>
   have hB:=h.heap id' b'' h1;unfold Xg at hB;rw[Yc] at hB;split at hB
   .cases hB.1
   .rename_i h2;cases h2
   .rw[hB.1] at Z7;cases Z7
 .rw[Zdy] at Yb
  injection Yb with Yb;subst Yb;rw[Z1,Z1];exact hn
 .rw[Z1]
  refine⟨λg' Z7=>?_,λ_ g' Z7=>?_⟩
  .rw[Zxj]
   rcases Ztn g' Z7 with h1|h1
   .exact h.mine i b hb ho g' h1
   .exact h.flMine g' (Vae _ h1)
  .have e1:g=g':=by simpa using Z7
   subst e1;exact h.top i b hb ho ⟨g,o,c,sz,hρ,Zp9⟩ g (by rw[hFr];rfl)
 .rw[Z1] at Zh5
  obtain⟨h3,h4⟩:=old e hb3;rcases Ztn g' Zh5 with h1|h1
  .exact h.apart id' i b3 b h3 ho3 hb ho h4 g' Z7 h1
  .exact h.flApart id' b3 h3 ho3 g' Z7 (Vae _ h1)
 .rw[Z1] at Z7
  rcases Ztn g' Z7 with h1|h1
  .exact h.flApart i b hb ho g' h1 (Vak _ Zh5)
  .exact hflr.2.2 g' h1 g' Zh5 rfl
 .subst e
  rcases h.top i b hb ho ⟨g',o,c,sz,hρ,Zp9⟩ g' (by rw[hFr];rfl) with h1|h1
  .exact hio h1
  .omega
theorem Ywx {all:Bool} (h:Rel P B io w a.tmps s ρ F fl) {t:TypeId} {bo xo:Operand} (ho:o.op=.call {callee:=.builtin .append,args:=#[bo,xo],argTypes:=#[t,t]}) {id:Id}
  (he:Zmp P all s id t (s.opV bo) (s.opV xo)=some (v,s')) (Zw:ρ id=none) (Ym:id.1=s.ep) (hk:id.2 / 1024=k):
  OpR P o a w (Stp P B io w a.tmps s ρ fl k v s'):=by
 unfold Zmp at he;obtain⟨e,Wx,he⟩:=ZZb.1 he;obtain⟨⟨rows,cl,s1⟩,hm,he⟩:=ZZb.1 he;have ht:=Zbi Wx;split at he
 case isFalse=>cases he
 rename_i hc;obtain⟨Qy,Ws,hzo⟩:=hc;simp only[Zx] at Qy Ws;have Jc:=Yrp Qy;simp only at Jc he;obtain⟨i,hi,z,hz,hzs⟩:∃i,P.info? e=some i/\∃z,i.zero=some z/\z.cells.size=P.cellsOf e:=by
  unfold Zq3 at hzo;split at hzo
  .rename_i z hz
   obtain⟨i,hi,hz⟩:=ZZb.1 hz;exact⟨i,hi,z,hz,by simpa using hzo⟩
  .cases hzo
 have Z8e:i.size=P.cellsOf e:=by simp[Program.cellsOf,hi]
 have Yvt:i.bytes=P.bytesOf e:=by simp[Program.bytesOf,hi]
 have hps:0 < P.cellsOf e:=Vdt Ws;obtain⟨r,hR,hcx,hs1⟩:=Y0b h (h.opV xo) hm Jc;have Jo:s1.env=s.env:=by rcases hs1 with rfl|⟨_,rfl⟩<;>rfl
 have Zg0:s1.ep=s.ep:=by rcases hs1 with rfl|⟨_,rfl⟩<;>rfl
 have hsubh:∀id b,s1.heap id=some b->s.heap id=some b:=by rcases hs1 with rfl|⟨_,rfl⟩;exactλ_ _ h=>h;exactλ_ _ h=>Zcv h
 have one:∀{us:List Value},Cells w (okS s1 ρ w) (P.cellsOf e) (a.eval xo) rows cl r us->∀u∈us,u.oneCell'=true:=by
  intro us hC u hu;cases X8:cl with
  | true=>exact (hC.own X8).one u hu
  | false=>
   obtain⟨j,hj⟩:=Va1 hu;have Z5:j < rows.flatten.length:=by have:=hC.len;rw[Je Jc,<-hC.len];exact (ZZh.1 hj).1
   obtain⟨v',hv',Jx⟩:=(hC.see X8).2 j _ (Vac Z5);rw[hj] at hv';injection hv' with hv';subst hv';exact Jx.one
 have Yvu:(rows=[]/\∃A c,a.eval xo=.slice A 0 c)\/(rows≠[]/\∃us,Cells w (okS s1 ρ w) (P.cellsOf e) (a.eval xo) rows cl r us):=by
  rcases hcx with⟨h1,_,h2⟩|⟨us,hC⟩
  .exact .inl ⟨h1,h2⟩
  .by_cases hn:rows=[]
   .obtain⟨ad,c,hv,_⟩:=hC.val
    exact .inl ⟨hn,some ad,c,by rw[hv,hn];rfl⟩
   .exact .inr ⟨hn,us,hC⟩
 have hbv:=h.opV bo;split at he
 .rename_i hbo
  split at he
  case isFalse=>cases he
  rename_i Yhz;simp only[ZZd,ZZe] at he;obtain⟨rfl,rfl⟩:=he;rw[hbo] at hbv;generalize hq:a.eval bo=q at hbv;cases hbv;rcases Yvu with⟨rfl,A,c,hx⟩|⟨Yf,us,hC⟩
  .have Yt:=Z12 (P:=P) (w:=w) t o.type e i ht hi none A 0 0 c (Vaw _)
   rw[<-hq,<-hx] at Yt;refine .value (Zcm ho Yt) ⟨Jo,Zg0,Wm.refl _ _ _,_,_,(hR.less (Va4 _ _)).newEmp Zw (Ym.trans Zg0.symm) rfl rfl rfl,?_,Jk Zw,Zxp Ym hk⟩;rw[hq];exact .sle (by rw[Z1];rfl)
  .obtain⟨ad,c,hv,Zh4⟩:=hC.val
   have hn0:0 < rows.length:=Van.2 Yf;have Yt:=run_append_nil (P:=P) (w:=w) t o.type e i z ht hi hz ad rows.length c us (by rw[hC.len,Z8e]) Zh4 hn0 (by omega) (by rw[Yvt];omega);rw[<-hq,<-hv] at Yt;exact .value (Zcm ho Yt) (Zyq hR Jo Zg0 Zw Ym hk hzs rfl (by unfold maxLen;omega) Jc hC.len hC.own hC.see)
 .rename_i ib off len hbo
  obtain⟨kb,hkb,he⟩:=ZZb.1 he;split at he
  case isFalse=>cases he
  rename_i Yhz;obtain⟨Xi,Yc,hol,hel,hby,h63⟩:=Yhz;simp only[ZZd,ZZe] at he;obtain⟨rfl,rfl⟩:=he;have hB:=hR.heap ib kb hkb;rw[hbo] at hbv;generalize hq:a.eval bo=q at hbv;have hidb:ib≠id:=by
   rintro rfl;cases hbv with
   | sl hρ=>rw[Zw] at hρ;cases hρ
   | sle hρ=>rw[Zw] at hρ;cases hρ
  cases hbv with
  | @sle _ A _ hρ=>
   have hd:kb.rows.drop off=[]:=by apply Vba;omega
   rcases Yvu with⟨rfl,A',c,hx⟩|⟨Yf,us,hC⟩
   .have Yt:=Z12 (P:=P) (w:=w) t o.type e i ht hi A A' 0 0 c (Vaw _)
    rw[<-hq,<-hx] at Yt;refine .value (Zcm ho Yt) ⟨Jo,Zg0,Wm.refl _ _ _,_,_,((hR.less (Va4 _ _)).kill ib).newEmp (b:=⟨false,true,kb.cl&&cl,e,kb.rows.drop off++[]⟩) Zw (Ym.trans Zg0.symm) rfl rfl (by rw[hd];rfl),?_,Jk Zw,Zxp Ym hk⟩;rw[hq];exact .sle (by rw[Z1];rfl)
   .obtain⟨ad,c,hv,Zh4⟩:=hC.val
    have hn0:0 < rows.length:=Van.2 Yf;have hby0:rows.length*P.bytesOf e<=140737488355328:=by simpa using hby
    have Yt:(Builtin.append_ #[t,t] o.type #[a.eval bo,a.eval xo]).run P w=.ok (.slice (some ⟨w.heap.size,0,none⟩) rows.length (grownCap w rows.length 0 e)) (w.drew.alloc (.cells (us.toArray++Builtin.zeroCells z.cells (grownCap w rows.length 0 e - rows.length)) e)):=by
     rw[hq,hv];cases A with
     | none=>exact run_append_nil (P:=P) (w:=w) t o.type e i z ht hi hz ad rows.length c us (by rw[hC.len,Z8e]) Zh4 hn0 (by omega) (by rw[Yvt];omega)
     | some b=>
      have:=run_append_grow (P:=P) (w:=w) t o.type e i z ht hi hz b 0 0 [] (by simp) (by simp) ad rows.length c us (by rw[hC.len,Z8e]) Zh4 (by omega) (by omega) (growslice_fits (by omega) (by rw[Yvt,Vbk];exact hby0));simpa using this
    have hcl':(kb.cl&&cl)=true->OwL w us rows.flatten r:=λhc=>hC.own (by simp at hc;exact hc.2);rw[hd,List.nil_append];have hkr:kb.rows.length=off:=by omega
    cases hcc:(kb.cl&&cl) with
    | true=>
     refine .value (Zcm ho Yt) ?_;have:=Zyq (s:=s) (k:=k) (s1:=s1.kill ib) (old:=0) (hR.kill ib) Jo Zg0 Zw Ym hk hzs rfl (by unfold maxLen;omega) Jc hC.len (cl:=true) (λ_=>hC.own (by simp at hcc;exact hcc.2)) (λh=>by cases h);simpa using this
    | false=>
     refine .value (Zcm ho Yt) ?_;have see:∀(k:Nat) (x:V),rows.flatten[k]?=some x->∃v,us[k]?=some v/\Rd w (okS (s1.kill ib) ρ w) v x:=by
      intro j x hx;cases X8:cl with
      | true=>
       obtain⟨v,hv,hr⟩:=(hC.own X8).rd (ok:=okS s1 ρ w) (λg hg=>hR.ok_fl (Vae _ hg)) hx;exact⟨v,hv,hr.mono (λ_ _ _=>rfl) (λg hg=>Zyo hg)⟩
      | false=>
       obtain⟨v,hv,hr⟩:=(hC.see X8).2 j x hx;exact⟨v,hv,hr.mono (λ_ _ _=>rfl) (λg hg=>Zyo hg)⟩
     have:=Zyq (s:=s) (k:=k) (s1:=s1.kill ib) (old:=0) (r:=[]) (fl:=fl) ((hR.less (Va4 _ _)).kill ib) Jo Zg0 Zw Ym hk hzs rfl (by unfold maxLen;omega) Jc hC.len (cl:=false) (λh=>by cases h) (λ_=>⟨rfl,see⟩);simpa using this
  | @sl _ g o0 c0 sz _ _ hρ hoc=>
   rw[hρ] at hB;have hB':=hB;unfold Xg at hB;rw[Xi,Yc] at hB;rcases hB with⟨Yj,_⟩|⟨g',o',c',cur,Yj,hg,hl,hmx,Yvv,hzc,fp,hFe,h1,h2⟩
   .cases Yj
   .cases Yj
    subst hel;have Yhy:g ∉ r++fl:=hR.flApart ib kb hkb Yc g (by rw[hFe];exact Vab);have Yh0:∀q∈kb.rows.drop off,q.length=P.cellsOf kb.el:=λq hq=>Yvv q (Vbm hq);have hdl:(kb.rows.drop off).length=len:=by simp;omega
    have hoc':off*P.cellsOf kb.el+(c0 - off)*P.cellsOf kb.el=c0*P.cellsOf kb.el:=by rw[<-Nat.add_mul];congr 1;omega
    have hlc:kb.rows.length*P.cellsOf kb.el<=c0*P.cellsOf kb.el:=Vbq _ hl;have hll:off*P.cellsOf kb.el+len*P.cellsOf kb.el=kb.rows.length*P.cellsOf kb.el:=by rw[<-Nat.add_mul,hol]
    let olds:=(cur.toList.drop (o0+off*P.cellsOf kb.el)).take (len*P.cellsOf kb.el)
    have Y3z:olds=(cur.toList.drop (o0+off*P.cellsOf kb.el)).take (len*P.cellsOf kb.el):=rfl;have Yko:olds.length=len*P.cellsOf kb.el:=by simp[olds];omega
    have hold2:((cur.toList.drop o0).take (kb.rows.length*P.cellsOf kb.el)).drop (off*P.cellsOf kb.el)=olds:=by
     rw[List.drop_take,List.drop_drop];simp only[olds];congr 1;omega
    have Yvw:∀(j:Nat) (v:Value),olds[j]?=some v->cur[o0+off*P.cellsOf kb.el+j]?=some v:=by
     intro j v hj;simp only[olds] at hj;rw[Vai] at hj;split at hj
     .simpa using hj
     .cases hj
    have Y3q:∀(j:Nat) (v:Value),olds[j]?=some v->w.cell? ((⟨g,o0+off*P.cellsOf kb.el,none⟩:Addr).add j)=some v:=by
     intro j v hj;rw[Zah,cell_of_row w g _ cur kb.el (0,0) hg];exact Yvw j v hj
    have Ykp:kb.cl=true->∃f1,OwL w olds (kb.rows.drop off).flatten f1/\f1.Sublist fp:=λhc=>by
     obtain⟨f1,hO,hs⟩:=(h1 hc).drop (off*P.cellsOf kb.el);rw[hold2,Zmq off Yvv] at hO;exact⟨f1,hO,hs⟩
    have Y0x:∀(j:Nat) (x:V),(kb.rows.drop off).flatten[j]?=some x->∃v,olds[j]?=some v/\Rd w (okS s1 ρ w) v x:=by
     intro j x hj;cases hkc:kb.cl with
     | true=>
      obtain⟨f1,hO,hs⟩:=Ykp hkc;refine hO.rd (λg'' Zh5=>hR.ok_of_F hkb Yc hρ (by rw[hFe];exact Vad _ (hs.subset Zh5)) (λg3 _ _ _ e=>by
       cases e;rintro rfl;have:=hR.once ib kb hkb Yc;rw[hFe] at this;exact (Vay.1 this).1 (hs.subset Zh5))) hj
     | false=>
      rw[<-Zmq off Yvv,Vau] at hj;obtain⟨v,hv,hr⟩:=(h2 hkc).2 _ x hj;refine⟨v,?_,hr⟩;have Z5:=(ZZh.1 hj).1;rw[Je Yvv] at Z5;simp only[olds];rw[Vai,ZZj (by omega),Vau];simpa [Nat.add_assoc] using hv
    have hrdn:∀{us:List Value},Cells w (okS s1 ρ w) (P.cellsOf kb.el) (a.eval xo) rows cl r us->∀(j:Nat) (x:V),rows.flatten[j]?=some x->∃v,us[j]?=some v/\Rd w (okS s1 ρ w) v x:=by
     intro us hC j x hx;cases X8:cl with
     | true=>exact (hC.own X8).rd (λg hg=>hR.ok_fl (Vae _ hg)) hx
     | false=>exact (hC.see X8).2 j x hx
    have Yoq:=hR.once ib kb hkb Yc;rw[hFe] at Yoq;rcases Yvu with⟨rfl,A',c,hx⟩|⟨Yf,us,hC⟩
    .have Yt:=Z12 (P:=P) (w:=w) t o.type kb.el i ht hi (some ⟨g,o0+off*P.cellsOf kb.el,none⟩) A' len (c0 - off) c (by omega)
     rw[<-hq,<-hx] at Yt;have hR':=hR.less (Va4 r fl);have hc00:(([]:List (List V))).length=0:=rfl;have Ycu:∃F'',Rel P B io w a.tmps ((s1.kill ib).setB id ⟨false,true,kb.cl&&cl,kb.el,kb.rows.drop off++[]⟩) (upd ρ id (some (.blk g (o0+off*P.cellsOf kb.el) (c0 - off) (P.cellsOf kb.el)))) F'' fl:=by
      have Yok:∀g',okS s1 ρ w g'->okS ((s1.kill ib).setB id ⟨false,true,kb.cl&&cl,kb.el,kb.rows.drop off++[]⟩) (upd ρ id (some (.blk g (o0+off*P.cellsOf kb.el) (c0 - off) (P.cellsOf kb.el)))) w g':=λg' Z7=>⟨λht=>Z7.1 (Zz7 Zw hkb Yc hρ g' ht),Z7.2⟩;cases hcc:(kb.cl&&cl) with
      | true=>
       obtain⟨f1,hO,hs⟩:=Ykp (by simp at hcc;exact hcc.1);refine⟨_,hR'.move (b':=⟨false,true,true,kb.el,kb.rows.drop off++[]⟩) (Fs:=g::f1) Zw (by rw[Zg0];exact Ym) hkb Yc hρ ⟨fp,hFe⟩ ⟨f1,rfl⟩ (λk' W9=>?_) (Vay.2 ⟨λhm=>(Vay.1 Yoq).1 (hs.subset hm),(Vay.1 Yoq).2.sublist hs⟩) (λ_=>by omega) (.mkRow rfl rfl rfl hg (by simp;omega) (by omega) (by rw[Vb1];exact Yh0) (by show o0+off*P.cellsOf kb.el+(c0 - off)*P.cellsOf kb.el=cur.size;omega) rfl (λ_=>?_) (λhf=>by cases hf))⟩
       .rw[hFe]
        rcases Vav.1 W9 with rfl|W9
        .exact Vab
        .exact Vad _ (hs.subset W9)
       .simp only[Vb1,hdl];exact hO
      | false=>
       refine⟨_,hR'.move (b':=⟨false,true,false,kb.el,kb.rows.drop off++[]⟩) (Fs:=[g]) Zw (by rw[Zg0];exact Ym) hkb Yc hρ ⟨fp,hFe⟩ ⟨[],rfl⟩ (λk' W9=>by rw[hFe,List.mem_singleton.1 W9];exact Vab) (by simp) (λ_=>by omega) (.mkRow rfl rfl rfl hg (by simp;omega) (by omega) (by rw[Vb1];exact Yh0) (by show o0+off*P.cellsOf kb.el+(c0 - off)*P.cellsOf kb.el=cur.size;omega) rfl (λhf=>by cases hf) (λ_=>⟨rfl,λj x hj=>?_⟩))⟩;simp only[Vb1] at hj;obtain⟨v,hv,hr⟩:=Y0x j x hj;rw[hcc] at Yok;exact⟨v,Yvw j v hv,hr.mono (λ_ _ _=>rfl) Yok⟩
     obtain⟨F'',Ycu⟩:=Ycu;refine .value (Zcm ho Yt) ⟨Jo,Zg0,Wm.refl _ _ _,_,_,Ycu,?_,Jk Zw,Zxp Ym hk⟩;have:=En.sl (w:=w) (ok:=okS ((s1.kill ib).setB id ⟨false,true,kb.cl&&cl,kb.el,kb.rows.drop off++[]⟩) (upd ρ id (some (.blk g (o0+off*P.cellsOf kb.el) (c0 - off) (P.cellsOf kb.el)))) w) (off:=0) (len:=len) (Z1 ρ id (some (.blk g (o0+off*P.cellsOf kb.el) (c0 - off) (P.cellsOf kb.el)))) (by omega);rw[hq];simpa using this
    .obtain⟨ad,c,hv,Zh4⟩:=hC.val
     have hn0:0 < rows.length:=Van.2 Yf;by_cases Yvs:len+rows.length<=c0 - off
     ·
      have Z78:o0+off*P.cellsOf kb.el+len*i.size+us.length<=cur.size:=by
       rw[Z8e,hC.len];have:(off+len+rows.length)*P.cellsOf kb.el<=c0*P.cellsOf kb.el:=Vbq _ (by omega);rw[Nat.add_mul,Nat.add_mul] at this;omega
      have Yt:=Ypm (P:=P) (w:=w) t o.type kb.el i ht hi g (o0+off*P.cellsOf kb.el) len (c0 - off) cur hg ad rows.length c us (by rw[hC.len,Z8e]) Zh4 (one hC) Yvs Z78;rw[<-hq,<-hv] at Yt;rw[Z8e] at Yt Z78;generalize Y3:(cur.toList.take (o0+off*P.cellsOf kb.el+len*P.cellsOf kb.el)++us++cur.toList.drop (o0+off*P.cellsOf kb.el+len*P.cellsOf kb.el+us.length)).toArray=new at Yt;have Zuv:new.size=cur.size:=by rw[<-Y3];simp;omega
      have Yvx:∀m,new[m]?=if o0+off*P.cellsOf kb.el+len*P.cellsOf kb.el<=m/\m < o0+off*P.cellsOf kb.el+len*P.cellsOf kb.el+us.length then us[m - (o0+off*P.cellsOf kb.el+len*P.cellsOf kb.el)]? else cur[m]?:=by
       intro m;rw[<-Y3,Vcs,Zcr (by simp;omega)];simp
      have Zc2:∀k',k'≠g->(w.setRow g new).heap[k']?=w.heap[k']?:=λk' W9=>setRow_other w g k' _ W9;have Wy:tops s1 ρ g:=⟨ib,kb,_,_,_,hkb,Yc,hρ⟩;have Y3o:(new.toList.drop (o0+off*P.cellsOf kb.el)).take ((kb.rows.drop off++rows).length*P.cellsOf kb.el)=olds++us:=by
       apply Vcr;intro m;rw[Vai,Vau,Vcu,Yvx];have hl1:(kb.rows.drop off++rows).length*P.cellsOf kb.el=len*P.cellsOf kb.el+us.length:=by rw[Vbb,hdl,Nat.add_mul,hC.len]
       rw[hl1];by_cases hm:m < len*P.cellsOf kb.el
       .rw[ZZj (by omega),ZZi (by omega),Vaj (by omega)]
        simp only[olds];rw[Vai,ZZj hm,Vau,Vcu]
       .rw[Vah (by omega),Yko]
        by_cases hm2:m < len*P.cellsOf kb.el+us.length
        .rw[ZZj hm2,ZZj (by omega)]
         congr 1;omega
        .rw[ZZi hm2,Vb7 (by omega)]
      have hrl:∀q∈kb.rows.drop off++rows,q.length=P.cellsOf kb.el:=λq hq=>by
       rcases Vat.1 hq with hq|hq
       .exact Yh0 q hq
       .exact Jc q hq
      let b2:Blk:=⟨false,true,kb.cl&&cl,kb.el,kb.rows.drop off++rows⟩
      have Yok:∀g',okS s1 ρ w g'->okS ((s1.kill ib).setB id b2) (upd ρ id (some (.blk g (o0+off*P.cellsOf kb.el) (c0 - off) (P.cellsOf kb.el)))) (w.setRow g new) g':=λg' Z7=>⟨λht=>Z7.1 (Zz7 Zw hkb Yc hρ g' ht),by simpa using Z7.2⟩;have hrdm:∀{u:Value} {x:V},Rd w (okS s1 ρ w) u x->Rd (w.setRow g new) (okS ((s1.kill ib).setB id b2) (upd ρ id (some (.blk g (o0+off*P.cellsOf kb.el) (c0 - off) (P.cellsOf kb.el)))) (w.setRow g new)) u x:=λhu=>
       hu.mono (λg' Z7 _=>Zc2 g' (λe=>Z7.1 (e▸Wy))) Yok
      have hgr:g ∉ r:=λhm=>Yhy (Vae _ hm);have Ycu:∃F'',Rel P B io (w.setRow g new) a.tmps ((s1.kill ib).setB id b2) (upd ρ id (some (.blk g (o0+off*P.cellsOf kb.el) (c0 - off) (P.cellsOf kb.el)))) F'' fl/\Wm B io w (w.setRow g new):=by
       cases hcc:(kb.cl&&cl) with
       | true=>
        have Ycv:=hcc;simp only[ZZg] at Ycv;obtain⟨f1,hO,hs⟩:=Ykp Ycv.1;have hO2:=hC.own Ycv.2;have hf1:∀k'∈f1,k'∈fp:=λk' W9=>hs.subset W9;have hgf1:g ∉ f1:=λhm=>(Vay.1 Yoq).1 (hs.subset hm);have hOO:=(hO.append hO2).frame (w':=w.setRow g new) (λk' W9=>Zc2 k' (by
         rintro rfl;rcases Vat.1 W9 with h1|h1
         .exact hgf1 h1
         .exact hgr h1))
        refine⟨_,hR.over (b':=b2) (f':=f1++r) (new:=new) Zw (by rw[Zg0];exact Ym) hkb Yc hρ ⟨fp,hFe⟩ (λk' W9=>?_) (Vay.2 ⟨λhm=>?_,Vap.2 ⟨(Vay.1 Yoq).2.sublist hs,(Vap.1 hR.flOnce).1,λx hx y hy e=>?_⟩⟩) (by omega)
         (.mkRow rfl rfl rfl (setRow_heap w g cur new _ _ hg) (by simp[b2];omega) (by omega) hrl (by rw[Zuv];show o0+off*P.cellsOf kb.el+(c0 - off)*P.cellsOf kb.el=cur.size;omega) rfl (λ_=>?_) (λhf=>by simp[b2,hcc] at hf))⟩
        .rcases Vat.1 W9 with h1|h1
         .exact .inl (by rw[hFe];exact Vad _ (hf1 k' h1))
         .exact .inr h1
        .rcases Vat.1 hm with h1|h1
         .exact hgf1 h1
         .exact hgr h1
        .subst e
         exact hR.flApart ib kb hkb Yc x (by rw[hFe];exact Vad _ (hf1 x hx)) (Vae _ hy)
        .show OwL (w.setRow g new) ((new.toList.drop (o0+off*P.cellsOf kb.el)).take ((kb.rows.drop off++rows).length*P.cellsOf kb.el)) (kb.rows.drop off++rows).flatten (f1++r)
         rw[Y3o,List.flatten_append];exact hOO
       | false=>
        refine⟨_,hR.over (b':=b2) (f':=[]) (new:=new) Zw (by rw[Zg0];exact Ym) hkb Yc hρ ⟨fp,hFe⟩ (λk' W9=>by simp at W9) (by simp) (by omega)
         (.mkRow rfl rfl rfl (setRow_heap w g cur new _ _ hg) (by simp[b2];omega) (by omega) hrl (by rw[Zuv];show o0+off*P.cellsOf kb.el+(c0 - off)*P.cellsOf kb.el=cur.size;omega) rfl (λhf=>by simp[b2,hcc] at hf) (λ_=>⟨rfl,λj x hj=>?_⟩))⟩
        have hj':((kb.rows.drop off).flatten++rows.flatten)[j]?=some x:=by rw[<-List.flatten_append];exact hj
        have hdf:(kb.rows.drop off).flatten.length=len*P.cellsOf kb.el:=by rw[Je Yh0,hdl]
        by_cases hjl:j < len*P.cellsOf kb.el
        .rw[Vaj (by omega)] at hj'
         obtain⟨v,hv,hr⟩:=Y0x j x hj';exact⟨v,by rw[Yvx,ZZi (by omega)];exact Yvw j v hv,hrdm hr⟩
        .rw[Vah (by omega),hdf] at hj'
         obtain⟨v,hv,hr⟩:=hrdn hC _ x hj';have Z5:=(ZZh.1 hv).1;refine⟨v,?_,hrdm hr⟩;rw[Yvx,ZZj (by omega),<-hv]
         congr 1;omega
      obtain⟨F'',Ycu,Ze2⟩:=Ycu;refine .value (Zcm ho Yt) ⟨Jo,Zg0,Ze2,_,_,Ycu,?_,Jk Zw,Zxp Ym hk⟩;have:=En.sl (w:=w.setRow g new) (ok:=okS ((s1.kill ib).setB id b2) (upd ρ id (some (.blk g (o0+off*P.cellsOf kb.el) (c0 - off) (P.cellsOf kb.el)))) (w.setRow g new)) (off:=0) (len:=len+rows.length) (Z1 ρ id (some (.blk g (o0+off*P.cellsOf kb.el) (c0 - off) (P.cellsOf kb.el)))) (by omega);simpa using this
     ·
      have hR2:=hR.float hkb Yc;have hsup:len+rows.length<=9223372036854775807:=by omega
      have Yt:=run_append_grow (P:=P) (w:=w) t o.type kb.el i z ht hi hz ⟨g,o0+off*P.cellsOf kb.el,none⟩ len (c0 - off) olds (by rw[Yko,Z8e]) Y3q ad rows.length c us (by rw[hC.len,Z8e]) Zh4 (by omega) (by omega) (growslice_fits (by omega) (by rw[Yvt];exact hby));rw[<-hq,<-hv] at Yt;have hrl:∀q∈kb.rows.drop off++rows,q.length=P.cellsOf kb.el:=λq hq=>by
       rcases Vat.1 hq with hq|hq
       .exact Yh0 q hq
       .exact Jc q hq
      have Y05:(olds++us).length=(kb.rows.drop off++rows).length*P.cellsOf kb.el:=by rw[Vbb,Vbb,hdl,Nat.add_mul,hC.len,Yko]
      have Zv4:olds.toArray++us.toArray=(olds++us).toArray:=by simp
      rw[Zv4] at Yt;cases hcc:(kb.cl&&cl) with
      | true=>
       have Ycv:=hcc;simp only[ZZg] at Ycv;obtain⟨f1,hO,hs⟩:=Ykp Ycv.1;have hsl:((f1++r)++fl).Sublist (F ib++(r++fl)):=by
        rw[hFe,List.append_assoc];exact Vcl (hs.trans (Vea _ _)) (Vbz _)
       have hO3:OwL w (olds++us) (kb.rows.drop off++rows).flatten (f1++r):=by rw[List.flatten_append];exact hO.append (hC.own Ycv.2)
       refine .value (Zcm ho Yt) ?_;exact Zyq (s:=s) (k:=k) (s1:=s1.kill ib) (r:=f1++r) (hR2.less hsl) Jo Zg0 Zw Ym hk hzs (by rw[Vbb,hdl]) (by unfold maxLen;omega) hrl Y05 (λ_=>hO3) (λh=>by cases h)
      | false=>
       refine .value (Zcm ho Yt) ?_;refine Zyq (s:=s) (k:=k) (s1:=s1.kill ib) (r:=[]) (fl:=fl) ((hR.less (Va4 _ _)).kill ib) Jo Zg0 Zw Ym hk hzs (by rw[Vbb,hdl]) (by unfold maxLen;omega) hrl Y05 (λh=>by cases h) (λ_=>⟨rfl,λj x hj=>?_⟩);have hj':((kb.rows.drop off).flatten++rows.flatten)[j]?=some x:=by rw[<-List.flatten_append];exact hj
       have hdf:(kb.rows.drop off).flatten.length=len*P.cellsOf kb.el:=by rw[Je Yh0,hdl]
       by_cases hjl:j < len*P.cellsOf kb.el
       .rw[Vaj (by omega)] at hj'
        obtain⟨v,hv,hr⟩:=Y0x j x hj';exact⟨v,by rw[Vaj (by omega)];exact hv,hr.mono (λ_ _ _=>rfl) (λg hg=>Zyo hg)⟩
       .rw[Vah (by omega),hdf] at hj'
        obtain⟨v,hv,hr⟩:=hrdn hC _ x hj';exact⟨v,by rw[Vah (by omega),Yko];exact hv,hr.mono (λ_ _ _=>rfl) (λg hg=>Zyo hg)⟩
 .cases he
end
section
variable {P:Program} {B:Nat} {io:Nat->Prop} {w:World} {a:Act} {s:St} {ρ:Rho} {F:Id->List Nat} {fl:List Nat} {k:Nat} {o:Oper} {v:V}
theorem Y2f {t e:TypeId} (h:P.underlying t=some (.slice e)):P.elem t=e:=by simp[Program.elem,h]
theorem Yx6 {t e:TypeId} (ht:P.underlying t=some (.slice e)) (hz:Zx P e≠0) (A:Option Addr) (len cap:Nat) (lo hi:Option Value) (l h:Nat)
  (hl:(lo=none/\l=0)\/∃kd,lo=some (.int kd l)) (hh:(hi=none/\h=len)\/∃kd,hi=some (.int kd h)) (h1:l<=h) (h2:h<=len) (h3:len<=cap):
  (Instr.sliceAt t (.slice A len cap) lo hi none).run P w=.ok (sliced A l h cap (P.cellsOf e)) w:=by
 have he:=Y2f ht;have ht':P.underlying t=some (.slice (P.elem t)):=by rw[he];exact ht
 rw[run_sliceAt_slice w t _ _ _ _ ht'];obtain⟨ti,hti,Ws⟩:∃ti,P.info? e=some ti/\ti.size=P.cellsOf e:=by
  unfold Zx Program.cellsOf at hz;unfold Program.cellsOf;cases hq:P.info? e with
  | none=>rw[hq] at hz;simp at hz
  | some ti=>exact⟨ti,rfl,rfl⟩
 have hs:((sizeOf (P.elem t)).run P w)=.ok (P.cellsOf e) w:=by rw[he];simp[sizeOf,typeInfo,hti,Ws]
 rcases hl with⟨rfl,rfl⟩|⟨kl,rfl⟩<;>rcases hh with⟨rfl,rfl⟩|⟨kh,rfl⟩
 .rw[run_slice_all w t A _ cap ht',hs];rfl
 .rw[run_slice_h w t A len cap ht' kh h (by omega) (by omega),hs];rfl
 .rw[run_slice_l w t A _ cap ht' kl l (by omega) (by omega),hs];rfl
 .rw[run_slice_lh w t A len cap ht' kl kh l h (by omega) (by omega) (by omega),hs];rfl
theorem Rd.slice {ok:Nat->Prop} {u:Value} {rows:List (List V)} {l h sz:Nat} (hr:Rd w ok u (.tr rows)) (hh:h<=rows.length) (hl:l<=h) (hs:∀r∈rows,r.length=sz):
  ∃A len cap,u=.slice A len cap/\len=rows.length/\len<=cap/\Rd w ok (sliced A l h cap sz) (.tr ((rows.drop l).take (h - l))):=by
 cases hr with
 | @emp A c=>
  have h0:h=0:=by simpa using hh
  have l0:l=0:=by omega
  subst h0;subst l0;exact⟨A,0,c,rfl,rfl,Vbj _,by simp only[sliced];exact .emp⟩
 | @tr g o n c sz' _ uf hn hc hm hs' hg hu Jx=>
  refine⟨_,n,c,rfl,hn.symm,hc,?_⟩;by_cases he:(rows.drop l).take (h - l)=[]
  .have:h - l=0:=by
    have:=congrArg List.length he;simp at this;omega
   rw[he];simp only[sliced,this];exact .emp
  .have Z5:l < h:=by
    rcases Vb5 l h with h'|h'
    .exact h'
    .exact absurd (by rw[show h - l=0 by omega];rfl) he
   have Ws:sz'=sz:=by
    have hx:rows[l]?=some (rows[l]'(by omega)):=Vac (by omega);rw[<-hs' _ (Vag hx),hs _ (Vag hx)]
   subst Ws;have X8:c≠l:=by omega
   simp only[sliced,ZZi X8,Var];have Zsy:(⟨g,o,none⟩:Addr).add (l*sz')=⟨g,o+l*sz',none⟩:=by unfold Addr.add;split<;>simp_all
   rw[Zsy];have cell:∀(k:Nat) (x:V),((rows.drop l).take (h - l)).flatten[k]?=some x->rows.flatten[l*sz'+k]?=some x:=by
    intro k x hk;have hd:∀r∈rows.drop l,r.length=sz':=λr hr=>hs' r (Vbm hr);rw[<-Zyx (h - l) hd,<-Zmq l hs',Vai] at hk;split at hk
    .rwa [Vau] at hk
    .cases hk
   refine .tr (u:=λk=>uf (l*sz'+k)) (by simp;omega) (by omega) (by omega) (λr hr=>hs' r (Vbm (Vby hr))) hg (λk x hk=>?_) (λk x hk=>Jx _ x (cell k x hk));rw[Nat.add_assoc];exact hu _ x (cell k x hk)
theorem Yb9 (h:Rel P B io w a.tmps s ρ F fl) {t:TypeId} {x:Operand} {lo hi:Option Operand} (ho:o.op=.slice t x lo hi none)
  (he:Zqd P s t (s.opV x) (lo.map s.opV) (hi.map s.opV)=some v):OpR P o a w (Stp P B io w a.tmps s ρ fl k v s):=by
 unfold Zqd at he;obtain⟨e,Wx,he⟩:=ZZb.1 he;obtain⟨rows,X3,he⟩:=ZZb.1 he;obtain⟨l,hl,he⟩:=ZZb.1 he;obtain⟨hh,hhi,he⟩:=ZZb.1 he;have ht:=Zbi Wx;split at he
 case isFalse=>cases he
 rename_i hc;obtain⟨h1,h2,Qy,hz⟩:=hc;have hz':P.cellsOf e≠0:=hz;have Jc:∀r∈rows,r.length=P.cellsOf e:=λr hr=>by
  have:=ZZk.1 Qy r hr;simpa [Zx] using this
 have hlo:(lo.map a.eval=none/\l=0)\/∃kd,lo.map a.eval=some (.int kd l):=by
  cases lo with
  | none=>simp at hl;exact .inl ⟨rfl,hl.symm⟩
  | some lo=>
   obtain⟨kd,hk⟩:=Zxq (h.opV lo) hl;exact .inr ⟨kd,by simp[hk]⟩
 have hhi':∀len,len=rows.length->(hi.map a.eval=none/\hh=len)\/∃kd,hi.map a.eval=some (.int kd hh):=by
  intro len Yl;cases hi with
  | none=>simp at hhi;exact .inl ⟨rfl,by omega⟩
  | some hi=>
   obtain⟨kd,hk⟩:=Zxq (h.opV hi) hhi;exact .inr ⟨kd,by simp[hk]⟩
 have fin:∀(A:Option Addr) (len cap:Nat),a.eval x=.slice A len cap->len=rows.length->len<=cap->En w (okS s ρ w) ρ (sliced A l hh cap (P.cellsOf e)) v->OpR P o a w (Stp P B io w a.tmps s ρ fl k v s):=by
  intro A len cap hq Yl Zp9 hv;have Yt:=Yx6 (w:=w) ht hz A len cap _ _ l hh hlo (hhi' len Yl) h1 (by omega) Zp9;refine .value (v:=sliced A l hh cap (P.cellsOf e)) ?_ (.same h hv);rw[<-hq] at Yt;simp[execOp,ho,Yt]
 have hx:=h.opV x;have tree:∀{u:Value},a.eval x=u->Rd w (okS s ρ w) u (.tr rows)->(Rd w (okS s ρ w) (sliced (match u with|.slice A _ _=>A|_=>none) l hh (match u with|.slice _ _ c=>c|_=>0) (P.cellsOf e)) (.tr ((rows.drop l).take (hh - l)))->En w (okS s ρ w) ρ (sliced (match u with|.slice A _ _=>A|_=>none) l hh (match u with|.slice _ _ c=>c|_=>0) (P.cellsOf e)) v)->
   OpR P o a w (Stp P B io w a.tmps s ρ fl k v s):=by
  intro u hu hr Xh;obtain⟨A,len,cap,rfl,Yl,Zp9,Z8⟩:=hr.slice h2 h1 Jc;exact fin A len cap hu Yl Zp9 (Xh Z8)
 generalize hq:a.eval x=q at hx;split at he
 .rename_i id off len hxo
  simp only[ZZd] at he;subst he;rw[hxo] at hx X3;have Yl:rows.length=len:=by
   simp only[St.rowsOf] at X3;obtain⟨b,hb,X3⟩:=ZZb.1 X3;split at X3
   .rename_i hc
    simp only[ZZd] at X3;rw[<-X3];simp;omega
   .cases X3
  cases hx with
  | @sle _ A _ hρ=>
   have e0:hh=0:=by omega
   have e1:l=0:=by omega
   subst e0;subst e1;refine fin A 0 0 hq Yl.symm (Vaw _) ?_;simp only[sliced,if_true,Nat.sub_zero];exact .sle hρ
  | @sl _ g o0 c sz _ _ hρ hoc=>
   refine fin _ len (c - off) hq Yl.symm (by omega) ?_;by_cases X8:c - off=l
   .have:hh - l=0:=by omega
    simp only[sliced,ZZj X8,this,X8,Vej];exact .sle (by rw[hρ];rfl)
   .by_cases Zsz:rows=[]
    .subst Zsz
     have e0:hh=0:=by simpa using h2
     have e1:l=0:=by omega
     subst e0;subst e1;simp only[sliced,ZZi X8,Var,Vdj,Nat.sub_zero,Zah,Va3];exact .sl hρ (by omega)
    .have Ws:sz=P.cellsOf e:=by
      simp only[St.rowsOf] at X3;obtain⟨b,hb,X3⟩:=ZZb.1 X3;split at X3
      .rename_i hc
       simp only[ZZd] at X3;have hB:=h.heap id b hb;rw[hρ] at hB;have hbs:∀r∈b.rows,r.length=sz:=by
        unfold Xg at hB;rw[hc.1] at hB;generalize b.own=ow at hB;cases ow with
        | true=>
         rcases hB with⟨Yj,_⟩|⟨g',o'',c',cur,Yj,hg,hl',hm,hu',hz',fp,hFe,h1,h2⟩
         .cases Yj
         .cases Yj;exact hu'
        | false=>
         obtain⟨_,hB⟩:=hB;rcases hB with⟨Yj,_⟩|⟨g',o'',c',sz',Yj,hu',hr⟩
         .cases Yj
         .cases Yj;exact hu'
       obtain⟨r0,Zn⟩:=List.exists_mem_of_ne_nil rows Zsz;have hrb:r0∈b.rows:=by rw[<-X3] at Zn;exact Vbm (Vby Zn)
       rw[<-hbs r0 hrb,Jc r0 Zn]
      .cases X3
     subst Ws;simp only[sliced,ZZi X8,Var,Zah];have:=En.sl (w:=w) (ok:=okS s ρ w) (off:=off+l) (len:=hh - l) hρ (by omega);rw[Nat.add_mul,<-Nat.add_assoc] at this;rw[show c - off - l=c - (off+l) by omega];exact this
 .rename_i rows' hxo
  simp only[ZZd] at he;subst he;rw[hxo] at hx X3;simp only[St.rowsOf,ZZd] at X3;subst X3;cases hx with|tr hr=>exact tree hq hr (λh=>.tr h)
 .rename_i rows' hxo
  simp only[ZZd] at he;subst he;rw[hxo] at hx X3;simp only[St.rowsOf,ZZd] at X3;subst X3;cases hx with|vw hr=>exact tree hq hr (λh=>.vw h)
 .cases he
end
theorem Ynt {off:Nat}:∀(l:List Value) (k:Nat) (cs:Array Value),off+k+l.length<=cs.size->
  ((l.zipIdx k).foldl (λcs (p:Value×Nat)=>cs.setIfInBounds (off+p.2) p.1) cs).size=cs.size/\
  ∀j,((l.zipIdx k).foldl (λcs (p:Value×Nat)=>cs.setIfInBounds (off+p.2) p.1) cs)[j]?=if off+k<=j/\j < off+k+l.length then l[j - (off+k)]? else cs[j]?:=by
 intro l
 induction l with
 | nil=>intro k cs _;refine⟨rfl,λj=>?_⟩;rw[ZZi (λhc=>by have:=hc.2;simp only[Vaq] at this;omega)];rfl
 | cons v l ih=>
  intro k cs h;simp only[Vaa] at h;obtain⟨h1,h2⟩:=ih (k+1) (cs.setIfInBounds (off+k) v) (by simp;omega);refine⟨by simpa using h1,λj=>?_⟩;have:=h2 j;simp only[List.zipIdx_cons,Vd7];rw[this];by_cases hj:j=off+k
  .subst hj
   rw[ZZi (by omega),ZZj (by simp),Vbe,ZZj rfl,ZZj (by omega)];simp
  .by_cases hc:off+(k+1)<=j/\j < off+(k+1)+l.length
   .rw[ZZj hc,ZZj (by simp;omega)]
    obtain⟨m,hm⟩:∃m,j - (off+k)=m+1:=⟨j - (off+k) - 1,by omega⟩;rw[hm,Vd5]
    congr 1;omega
   .rw[ZZi hc,ZZi (by simp;omega),Vbe,ZZi (by omega)]
theorem Yzl {off:Nat} (vs cs:Array Value) (h:off+vs.size<=cs.size):
  (vs.zipIdx.foldl (λcs (c,j)=>cs.setIfInBounds (off+j) c) cs).size=cs.size/\
  ∀j,(vs.zipIdx.foldl (λcs (c,j)=>cs.setIfInBounds (off+j) c) cs)[j]?=if off<=j/\j < off+vs.size then vs[j - off]? else cs[j]?:=by
 have h0:=Ynt (off:=off) vs.toList 0 cs (by simpa using h);have e:vs.zipIdx.foldl (λcs (c,j)=>cs.setIfInBounds (off+j) c) cs=(vs.toList.zipIdx 0).foldl (λcs (p:Value×Nat)=>cs.setIfInBounds (off+p.2) p.1) cs:=by
  rw[<-Array.foldl_toList];simp
 rw[e];refine⟨h0.1,λj=>?_⟩;rw[h0.2 j];simp
section
variable {P:Program} {w:World} {ok:Nat->Prop} {ρ:Rho}
theorem Yst (place:Nat->Option (Nat×Nat)):∀(ps:List (Nat×Value×V)) (C:Array Value) (X X':List V),C.size=X.length->
  (∀(j:Nat) (u:Value) (x:V),C[j]?=some u->X[j]?=some x->En w ok ρ u x)->(∀x∈X,cellish x=true)->(∀p∈ps,En w ok ρ p.2.1 p.2.2)->
  Zrd P place X (ps.map λp=>(p.1,p.2.2))=some X'->
  ∃C',Instr.fill place C (ps.map λp=>(p.1,p.2.1))=some C'/\C'.size=X'.length/\X'.length=X.length/\(∀(j:Nat) (u:Value) (x:V),C'[j]?=some u->X'[j]?=some x->En w ok ρ u x)/\∀x∈X',cellish x=true:=by
 intro ps
 induction ps with
 | nil=>
  intro C X X' hs hR hc _ hf;simp only[Vck,Zrd,ZZd] at hf;subst hf;exact⟨C,rfl,hs,rfl,hR,hc⟩
 | cons p ps ih=>
  intro C X X' hs hR hc hp hf;obtain⟨i,u,x⟩:=p;simp only[Va7,Zrd] at hf;obtain⟨⟨off,sz⟩,hpl,hf⟩:=ZZb.1 hf;obtain⟨cs,Kj,hf⟩:=ZZb.1 hf;split at hf
  case isFalse=>cases hf
  rename_i hcond;obtain⟨hc1,hc2⟩:=hcond;have hc1:cs.length=sz:=hc1;have hc2:off+sz<=X.length:=hc2;simp only at hf;obtain⟨h1,h2,h3⟩:=Z0i (show En w ok ρ u x from hp (i,u,x) Vab) Kj;have hpf:=Yzl (off:=off) u.cells C (by omega);obtain⟨C',hC',r1,r2,r3,r4⟩:=ih (u.cells.zipIdx.foldl (λcs (c,j)=>cs.setIfInBounds (off+j) c) C) (Jt X off cs) X' (by rw[hpf.1,Zly (by omega),hs]) (λj v y hv hy=>by
   rw[hpf.2 j] at hv;rcases Zz1 (by omega) hy with⟨g1,g2,g3⟩|⟨g1,g2⟩
   .rw[ZZj (by omega)] at hv
    exact h3 _ v y hv g3
   .rw[ZZi (by omega)] at hv
    exact hR j v y hv g2) (λy hy=>by
   obtain⟨m,hm⟩:=Va1 hy;rcases Zz1 (by omega) hm with⟨_,_,g3⟩|⟨_,g2⟩
   .exact h2 y (Vag g3)
   .exact hc y (Vag g2)) (λq hq=>hp q (Vad _ hq)) hf
  refine⟨C',?_,r1,by rw[r2,Zly (by omega)],r3,r4⟩;simp only[Va7,Instr.fill,hpl];rw[ZZi]
  .exact hC'
  .simp only[Vb2,ZZl,ne_eq]
   omega
end
section
variable {P:Program} {B:Nat} {io:Nat->Prop} {w:World} {a:Act} {s:St} {ρ:Rho} {F:Id->List Nat} {fl:List Nat} {k:Nat} {o:Oper} {v:V}
theorem Zwh {t:TypeId} {z:List V} (h:Zc8 P t=some z):∃ti zv,P.info? t=some ti/\ti.zero=some zv/\z=zv.cells.toList.map .lit/\∀u∈zv.cells.toList,Q8 u=true:=by
 unfold Zc8 at h;obtain⟨zv,hzv,hz⟩:=ZZb.1 h;obtain⟨ti,hti,X9⟩:=ZZb.1 hzv;split at hz
 .rename_i Qy
  simp only[ZZd] at hz;exact⟨ti,zv,hti,X9,hz.symm,λu hu=>ZZk.1 Qy u hu⟩
 .cases hz
theorem Yr9 {ok:Nat->Prop} {C:Array Value} (hs:∀u∈C.toList,Q8 u=true):∀(j:Nat) (u:Value) (x:V),C[j]?=some u->(C.toList.map V.lit)[j]?=some x->En w ok ρ u x:=by
 intro j u x hu hx;simp only[Va8,ZZc] at hx;obtain⟨y,hy,rfl⟩:=hx;have:u=y:=by
  have h1:C.toList[j]?=some u:=by simpa using hu
  rw[h1] at hy;injection hy
 subst this;exact .lit (hs u (Vag hy))
theorem Yq7:∀(fs:List Field),fs.all (λf=>(P.info? f.type).isSome)=true->fs.mapM (λf=>(P.info? f.type).map λi=>(f.offset,i.size))=some (fs.map λf=>(f.offset,P.cellsOf f.type)):=by
 intro fs
 induction fs with
 | nil=>intro _;rfl
 | cons f fs ih=>
  intro h;simp only[Va6,ZZg] at h;obtain⟨i,hi⟩:=Val.1 h.1;simp[List.mapM_cons,hi,ih h.2,Program.cellsOf]
theorem Yy4 (h:Rel P B io w a.tmps s ρ F fl) {t:TypeId} {parts:Array (Nat×Operand)} {fs:Array Field} {z cs:List V} (ho:o.op=.build t parts) (hz:Zc8 P t=some z) (hu:P.underlying t=some (.struct fs))
  (Qy:fs.toList.all (λf=>(P.info? f.type).isSome)=true)
  (hf:Zrd P (λi=>(fs[i]?).map λf=>(f.offset,P.cellsOf f.type)) z (parts.toList.map λp=>(p.1,s.opV p.2))=some cs):OpR P o a w (Stp P B io w a.tmps s ρ fl k (.agg cs) s):=by
 obtain⟨ti,zv,hti,hzv,rfl,hsc⟩:=Zwh hz;obtain⟨C',hC',r1,r2,r3,r4⟩:=Yst (P:=P) (w:=w) (ok:=okS s ρ w) (ρ:=ρ) (λi=>(fs[i]?).map λf=>(f.offset,P.cellsOf f.type)) (parts.toList.map λp=>(p.1,a.eval p.2,s.opV p.2)) zv.cells (zv.cells.toList.map .lit) cs (by simp)
  (Yr9 hsc) (λx hx=>by obtain⟨u,_,rfl⟩:=Vbd.1 hx;rfl) (λp hp=>by obtain⟨q,_,rfl⟩:=Vbd.1 hp;exact h.opV q.2) (by simpa [Vdb] using hf)
 have hb:P.built t (parts.map λ(i,x)=>(i,a.eval x)).toList=some C':=by
  unfold Program.built;simp only[hti,hu,hzv,Yq7 fs.toList Qy];rw[<-hC']
  congr 1
  .funext i;simp
  .simp[Vdb]
 refine .value (v:=.agg C') ?_ (.same h (.agg r1 r4 r3));have:=run_build (P:=P) w t _ C' hb;simp[execOp,ho,this]
end
theorem Yuw {sz:Nat}:∀(n:Nat) (l:List V),l.length=n*sz->(Zsd sz n l).flatten=l/\(∀r∈Zsd sz n l,r.length=sz)/\(Zsd sz n l).length=n:=by
 intro n
 induction n with
 | zero=>
      intro l h;have:l=[]:=Vas (by omega);subst this;exact⟨rfl,by simp[Zsd],rfl⟩
 | succ n ih=>
  intro l h;rw[Vbv] at h;obtain⟨h1,h2,h3⟩:=ih (l.drop sz) (by simp;omega);refine⟨by simp[Zsd,h1],λr hr=>?_,by simp[Zsd,h3]⟩;simp only[Zsd,Vav] at hr;rcases hr with rfl|hr
  .simp;omega
  .exact h2 r hr
theorem Yhf {α:Type} {l:List α} {n k:Nat} (hk:k < n*l.length):(List.replicate n l).flatten[k]?=l[k % l.length]?:=by
 have hl:0 < l.length:=by
  rcases Vdu l.length with h|h
  .rw[h] at hk;simp at hk
  .exact h
 have hi:k / l.length < n:=(Nat.div_lt_iff_lt_mul hl).2 hk;have hm:=Nat.mod_lt k hl;have h1:l[k % l.length]?=some (l[k % l.length]'hm):=Vac hm;have:=Zdx (sz:=l.length) (rows:=List.replicate n l) (i:=k / l.length) (j:=k % l.length) (λr hr=>by rw[(Vbn.1 hr).2]) (by rw[Vd6,ZZj hi]) h1;rw[Nat.mul_comm,Nat.div_add_mod] at this;rw[this,h1]
theorem Zpv (z:Array Value) (n:Nat):(madeCells z (n*z.size)).toList=(List.replicate n z.toList).flatten:=by
 apply Vcr;intro k;by_cases hk:k < n*z.size
 .rw[Yhf (by simpa using hk)]
  have hz:0 < z.size:=by
   rcases Vdu z.size with h|h
   .rw[h] at hk;simp at hk
   .exact h
  have hm:=Nat.mod_lt k hz;simp[madeCells,hk,hm]
 .have h1:(List.replicate n z.toList).flatten.length=n*z.size:=by
   rw[Je (sz:=z.size) (λr hr=>by rw[(Vbn.1 hr).2];simp)];simp
  rw[Vb7 (by simp[madeCells];omega),Vb7 (by rw[h1];omega)]
theorem OwL.zeros {w:World}:∀(l:List Value),(∀u∈l,Q8 u=true)->OwL w l ((l.map V.lit).map Zbv) []:=by
 intro l
 induction l with
 | nil=>intro _;exact .nil
 | cons u l ih=>
  intro h;have h1:Ow w u (Zbv (.lit u)) []:=by
   unfold Zbv;split
   .rename_i he;injection he with he;subst he;exact .emp
   .exact .lit (h u Vab)
  have:=OwL.cons h1 (ih λu hu=>h u (Vad _ hu));simpa using this
theorem OwL.zerosRep {w:World} {l:List Value} (h:∀u∈l,Q8 u=true) (n:Nat):OwL w (List.replicate n l).flatten (List.replicate n ((l.map V.lit).map Zbv)).flatten []:=by
 induction n with
 | zero=>exact .nil
 | succ n ih=>
  have:=(OwL.zeros (w:=w) l h).append ih;simpa [List.replicate_succ] using this
section
variable {P:Program} {B:Nat} {io:Nat->Prop} {w w':World} {a:Act} {tmps:Array Value} {s s':St} {ρ ρ':Rho} {F F':Id->List Nat} {fl fl':List Nat} {k:Nat} {o:Oper} {v:V}
theorem Yqh:∀(rows:List (List V)) {us:List Value} {s:St} {fl:List Nat} {rows':List (List V)} {c:Bool} {s':St},Rel P B io w tmps s ρ F fl->us.length=rows.flatten.length->
  (∀(k:Nat) (u:Value) (x:V),us[k]?=some u->rows.flatten[k]?=some x->En w (okS s ρ w) ρ u x)->s.sinkRows rows=some (rows',c,s')->
  ∃fp,Rel P B io w tmps s' ρ F (fp++fl)/\rows'.length=rows.length/\(∀sz,(∀r∈rows,r.length=sz)->∀r∈rows',r.length=sz)/\us.length=rows'.flatten.length/\(c=true->OwL w us rows'.flatten fp)/\
   (∀(k:Nat) (u:Value) (y:V),us[k]?=some u->rows'.flatten[k]?=some y->Rd w (okS s' ρ w) u y)/\
   s'.env=s.env/\s'.ep=s.ep/\(∀id b,s'.heap id=some b->s.heap id=some b)/\(∀g,okS s ρ w g->okS s' ρ w g):=by
 intro rows
 induction rows with
 | nil=>
  intro us s fl rows' c s' h hl Xh hs;simp only[St.sinkRows,ZZd,ZZe] at hs;obtain⟨rfl,rfl,rfl⟩:=hs;have:us=[]:=Vas (by simpa using hl);subst this;exact⟨[],h,rfl,λ_ _ r hr=>by simp at hr,rfl,λ_=>.nil,λk u y hu=>by simp at hu,rfl,rfl,λ_ _ h=>h,λ_ h=>h⟩
 | cons row rows ih=>
  intro us s fl rows' c s' h hl Xh hs;simp only[St.sinkRows] at hs;obtain⟨⟨ys,c1,s1⟩,hs1,hs⟩:=ZZb.1 hs;obtain⟨⟨zs,c2,s2⟩,hs2,hs⟩:=ZZc.1 hs;simp only[ZZe] at hs;obtain⟨rfl,rfl,rfl⟩:=hs;simp only at hs2;simp only[Vaz,Vbb] at hl;have hl1:(us.take row.length).length=row.length:=by simp;omega
  have hl2:(us.drop row.length).length=rows.flatten.length:=by rw[Vd2];omega
  have hus:us.take row.length++us.drop row.length=us:=Vee _ _;obtain⟨f1,g1,g2,g3,g4,g5,g6,g7,g8⟩:=Ysa row h hl1 (λj u x hu hx=>Xh j u x (by
    rw[Vai] at hu;split at hu
    .exact hu
    .cases hu) (by
    rw[Vaz,Vaj (ZZh.1 hx).1];exact hx)) hs1
  obtain⟨f2,k1,k2,k3,k4,k5,k6,k7,k8,k9,k10⟩:=ih g1 hl2 (λj u x hu hx=>by
    rw[Vau] at hu;have:=Xh (row.length+j) u x hu (by rw[Vaz,Vah (by omega)];simpa using hx);exact (show En w (λg=>(¬tops s ρ g)/\g < w.heap.size) ρ u x from this).keep (.same (λg ht=>by
     obtain⟨id',b,o,c,sz,hb,ho,hρ⟩:=ht;exact⟨id',b,o,c,sz,g7 id' b hb,ho,hρ⟩)) (λ_ _ h=>h)) hs2
  refine⟨f1++f2,k1.perm ?_,by simp[k2],λsz Ws r hr=>?_,by rw[Vaz,Vbb,<-g2,<-k4,hl1,hl2];exact hl,λhc=>?_,λj u y hu hy=>?_,k7.trans g5,k8.trans g6,λid b hb=>g7 id b (k9 id b hb),λg hg=>k10 g (g8 g hg)⟩
  .rw[List.append_assoc]
   exact (Vbo _ _ _)
  .rcases Vav.1 hr with rfl|hr
   .rw[<-g2,hl1];exact Ws row Vab
   .exact k3 sz (λr hr=>Ws r (Vad _ hr)) r hr
  .rw[ZZg] at hc
   have:=(g3 hc.1).append (k5 hc.2);rw[hus] at this;exact this
  .rw[Vaz] at hy
   by_cases hj:j < ys.length
   .rw[Vaj hj] at hy
    have:=g4 j u y (by rw[Vai,ZZj (by omega)];exact hu) hy;exact this.mono (λ_ _ _=>rfl) k10
   .rw[Vah (by omega)] at hy
    exact k6 (j - ys.length) u y (by rw[Vau,show row.length+(j - ys.length)=j by omega];exact hu) hy
theorem Z31 {r:List Nat} {s1:St} (h:Rel P B io w a.tmps s1 ρ F (r++fl)) (Jo:s1.env=s.env) (Zg0:s1.ep=s.ep) {id:Id} (Zw:ρ id=none) (Ym:id.1=s.ep) (hk:id.2 / 1024=k) {C:Array Value} {rows:List (List V)} {e:TypeId} {cl:Bool} {n:Nat}
  (hn:rows.length=n) (hm:n<=maxLen) (hu:∀q∈rows,q.length=P.cellsOf e)
  (Yl:C.size=rows.length*P.cellsOf e) (h1:cl=true->OwL w C.toList rows.flatten r) (h2:cl=false->r=[]/\∀(k:Nat) (x:V),rows.flatten[k]?=some x->∃v,C.toList[k]?=some v/\Rd w (okS s1 ρ w) v x):
  Stp P B io w a.tmps s ρ fl k (.sl id 0 n) (s1.setB id ⟨false,true,cl,e,rows⟩) (.slice (some ⟨w.heap.size,0,none⟩) n n) (w.alloc (.cells C e)):=by
 subst hn;have hR:=h.grown (w':=w.alloc (.cells C e)) (c:=rows.length) (us:=C.toList) (zs:=[]) (e:=e) (cl:=cl) Zw (by rw[Zg0];exact Ym) (Zn8 w _) (λg hg=>Below.heap_alloc w _ g hg) (by
  have:=Z4n w (.cells C e);simpa using this) (Vaw _) hm hu (by simpa using Yl) (by simpa using Yl) h1 h2
 refine⟨Jo,Zg0,(Wm.refl B io w).alloc h.base _,_,_,hR,?_,Jk Zw,Zxp Ym hk⟩;have:=En.sl (w:=w.alloc (.cells C e)) (ok:=okS (s1.setB id ⟨false,true,cl,e,rows⟩) (upd ρ id (some (.blk w.heap.size 0 rows.length (P.cellsOf e)))) (w.alloc (.cells C e)))
  (off:=0) (len:=rows.length) (Z1 ρ id (some (.blk w.heap.size 0 rows.length (P.cellsOf e)))) (by omega)
 simpa using this
theorem Yjl (h:Rel P B io w a.tmps s ρ F fl) {t e:TypeId} {n:Nat} {parts:Array (Nat×Operand)} {z cs:List V} {rows:List (List V)} {c:Bool} {s1:St} (ho:o.op=.buildSlice t n parts) (Wx:Wd P t=some e) (hz:(if n*Zx P e=0 then some [] else Zc8 P e)=some z)
  (Ws:Zx P e≠0) (hle:n*Zx P e<=1048576) (hzo:Zq3 P e=true) (hf:Zrd P (λi=>some (i*Zx P e,Zx P e)) (List.replicate n z).flatten (parts.toList.map λp=>(p.1,s.opV p.2))=some cs)
  (hs:s.sinkRows (Zsd (Zx P e) n cs)=some (rows,c,s1)) {id:Id} (Zw:ρ id=none) (Ym:id.1=s.ep) (hk:id.2 / 1024=k):
  OpR P o a w (Stp P B io w a.tmps s ρ fl k (.sl id 0 n) (s1.setB id ⟨false,true,c,e,rows⟩)):=by
 have ht:=Zbi Wx;have hzc:n≠0->Zc8 P e=some z:=λhn=>by
  split at hz
  .rename_i h0;exact absurd h0 (Nat.mul_ne_zero hn Ws)
  .exact hz
 simp only[Zx] at Ws hle hf hs;have key:∃C',(Instr.buildSlice t n (parts.map λ(i,x)=>(i,a.eval x))).run P w=.ok (.slice (some ⟨w.heap.size,0,none⟩) n n) (w.alloc (.cells C' e))/\C'.size=cs.length/\cs.length=n*P.cellsOf e/\
   (∀(j:Nat) (u:Value) (x:V),C'[j]?=some u->cs[j]?=some x->En w (okS s ρ w) ρ u x):=by
  obtain⟨ti,hti,hsi⟩:∃ti,P.info? e=some ti/\ti.size=P.cellsOf e:=by
   unfold Program.cellsOf at Ws ⊢;cases hq:P.info? e with
   | none=>rw[hq] at Ws;simp at Ws
   | some ti=>exact⟨ti,rfl,rfl⟩
  by_cases hn:n=0
  .subst hn
   have hpe:(List.replicate 0 z).flatten=[]:=rfl;rw[hpe] at hf;have Zsz:parts.toList=[]/\cs=[]:=by
    cases hp:parts.toList with
    | nil=>rw[hp] at hf;simp[Zrd] at hf;exact⟨rfl,hf⟩
    | cons p ps=>
     rw[hp] at hf;simp only[Va7,Zrd,ZZa] at hf;obtain⟨cs',_,hf⟩:=ZZb.1 hf;split at hf
     .rename_i hc;simp only[Vaq] at hc;omega
     .cases hf
   obtain⟨hp,rfl⟩:=Zsz;refine⟨#[],?_,rfl,by simp,λj u x hu=>by simp at hu⟩;have hpa:parts=#[]:=by apply Vdk;simpa using hp
   subst hpa;simp[Instr.buildSlice,run_underlying ht,sizeOf,typeInfo,hti,hsi,Instr.fill,newRow,Array.range_zero']
  .have hnz:n*P.cellsOf e≠0:=Nat.mul_ne_zero hn Ws
   obtain⟨ti',zv,Yvy,hzv,rfl,hsc⟩:=Zwh (hzc hn);rw[hti] at Yvy;injection Yvy with Yvy;subst Yvy;have hzs:zv.cells.size=P.cellsOf e:=by
    unfold Zq3 at hzo;rw[hti] at hzo;simp only[ZZa,hzv] at hzo;simpa using hzo
   have Yvz:(List.replicate n (zv.cells.toList.map V.lit)).flatten.length=n*P.cellsOf e:=by
    rw[Je (sz:=P.cellsOf e) (λr hr=>by rw[(Vbn.1 hr).2];simp[hzs])];simp
   obtain⟨C',hC',r1,r2,r3,r4⟩:=Yst (P:=P) (w:=w) (ok:=okS s ρ w) (ρ:=ρ) (λi=>some (i*P.cellsOf e,P.cellsOf e)) (parts.toList.map λp=>(p.1,a.eval p.2,s.opV p.2)) (madeCells zv.cells (n*zv.cells.size)) _ cs (by rw[size_madeCells,Yvz,hzs])
    (λj u x hu hx=>by
     have Z5:=(ZZh.1 hx).1;rw[Yvz] at Z5;have hu':(madeCells zv.cells (n*zv.cells.size)).toList[j]?=some u:=by simpa using hu
     rw[Zpv,Yhf (by simpa [hzs] using Z5)] at hu';rw[Yhf (by simpa [hzs] using Z5)] at hx;simp only[Vcg] at hx;have:=Yr9 (w:=w) (ok:=okS s ρ w) (ρ:=ρ) hsc (j % zv.cells.toList.length) u x (by simpa using hu') hx;exact this) (λx hx=>by
     obtain⟨r,hr,hx⟩:=Vbw.1 hx;rw[(Vbn.1 hr).2] at hx;obtain⟨u,_,rfl⟩:=Vbd.1 hx;rfl) (λp hp=>by obtain⟨q,_,rfl⟩:=Vbd.1 hp;exact h.opV q.2) (by simpa [Vdb] using hf)
   refine⟨C',?_,r1,by rw[r2,Yvz],r3⟩;refine run_buildSlice w t e n _ C' ti zv ht hti hzv (by rw[hsi];omega) (by rw[hsi];exact hnz) ?_;rw[<-hC',hsi,<-hzs]
   congr 1
   simp[Vdb]
 obtain⟨C',Yt,hCs,X8,Xh⟩:=key;obtain⟨c1,c2,c3⟩:=Yuw n cs X8;obtain⟨fp,k1,k2,k3,k4,k5,k6,k7,k8,k9,k10⟩:=Yqh (us:=C'.toList) _ h (by rw[c1];simpa using hCs) (λj u x hu hx=>Xh j u x (by simpa using hu) (by rw[c1] at hx;exact hx)) hs;have hrl:rows.length=n:=by rw[k2,c3]
 refine .value (v:=.slice (some ⟨w.heap.size,0,none⟩) n n) (w':=w.alloc (.cells C' e)) (by simp[execOp,ho,Yt]) ?_;have hmx:n<=maxLen:=by
  have:n<=n*P.cellsOf e:=Nat.le_mul_of_pos_right _ (Vdt Ws);unfold maxLen;omega
 cases c with
 | true=>exact Z31 k1 k7 k8 Zw Ym hk hrl hmx (k3 _ c2) (by rw[hrl,hCs,X8]) (λ_=>k5 rfl) (λhf=>by cases hf)
 | false=>
  refine Z31 (r:=[]) (k1.less (Va4 _ _)) k7 k8 Zw Ym hk hrl hmx (k3 _ c2) (by rw[hrl,hCs,X8]) (λhf=>by cases hf) (λ_=>⟨rfl,λj x hx=>?_⟩);have Z5:=(ZZh.1 hx).1;have hu:C'.toList[j]?=some (C'.toList[j]'(by omega)):=Vac (by omega);exact⟨_,hu,k6 j _ x hu hx⟩
theorem Yk6 (h:Rel P B io w a.tmps s ρ F fl) {t e:TypeId} {l c:Operand} {n:Nat} {z:List V} (ho:o.op=.makeSlice t l c) (Wx:Wd P t=some e) (hz:Zc8 P e=some z) (hl:Xq (s.opV l)=some n) (hc:Xq (s.opV c)=some n)
  (hby:n*P.bytesOf e<=70368744177664) (h63:n<=9223372036854775807) (hzl:z.length=Zx P e) (Ws:Zx P e≠0) {id:Id} (Zw:ρ id=none) (Ym:id.1=s.ep) (hk:id.2 / 1024=k):
  OpR P o a w (Stp P B io w a.tmps s ρ fl k (.sl id 0 n) (s.setB id ⟨false,true,true,e,List.replicate n (z.map Zbv)⟩)):=by
 have ht:=Zbi Wx;obtain⟨ti,zv,hti,hzv,rfl,hsc⟩:=Zwh hz;simp only[Zx] at hzl Ws;have hzs:zv.cells.size=P.cellsOf e:=by simpa using hzl
 have hsi:ti.size=P.cellsOf e:=by simp[Program.cellsOf,hti]
 have hbi:ti.bytes=P.bytesOf e:=by simp[Program.bytesOf,hti]
 obtain⟨kl,hl⟩:=Zxq (h.opV l) hl;obtain⟨kc,hc⟩:=Zxq (h.opV c) hc;have hb2:(ti.bytes:Int)*(n:Int)<=281474976710656:=by
  rw[hbi];have h1:=Nat.mul_comm n (P.bytesOf e);have h2:((P.bytesOf e*n:Nat):Int)<=281474976710656:=by omega
  rwa [Int.natCast_mul] at h2
 have Yt:=run_make (P:=P) w t e ti zv ht hti hzv kl kc n n (by omega) (Vcj _) hb2 (by omega);simp only[Vcb] at Yt;refine .value (v:=.slice (some ⟨w.heap.size,0,none⟩) n n) (w':=w.alloc (.cells (madeCells zv.cells (n*ti.size)) e)) (by simp[execOp,ho,hl,hc,Yt]) ?_;have X8:(madeCells zv.cells (n*ti.size)).toList=(List.replicate n zv.cells.toList).flatten:=by rw[hsi,<-hzs];exact Zpv _ _
 exact Z31 (r:=[]) h rfl rfl Zw Ym hk (by simp) (by unfold maxLen;omega) (λq hq=>by rw[(Vbn.1 hq).2];simp[hzs]) (by rw[size_madeCells];simp[hsi]) (λ_=>by rw[X8];exact OwL.zerosRep hsc n) (λhf=>by cases hf)
end
section
variable {P:Program} {B:Nat} {io:Nat->Prop} {w w':World} {a:Act} {tmps:Array Value} {s s':St} {ρ ρ':Rho} {F F':Id->List Nat} {fl fl':List Nat} {k:Nat} {o:Oper} {v:V}
theorem Yea {u:Value} (h:Q8 u=true):u.oneCell'=true:=by
 cases u<;>simp_all [Q8,Value.oneCell']
theorem Yyd {id:Id} {b:Blk} (h:s.heap id=some b):s.setB id b=s:=by
 unfold St.setB
 congr 1
 funext x
 unfold upd;split
 .rename_i e;rw[e,h]
 .rfl
theorem Yy6 (h:Rel P B io w a.tmps s ρ F fl) {t e:TypeId} {x:Operand} {id:Id} {off n:Nat} {b:Blk} {z:List V} (ho:o.op=.call {callee:=.builtin .clear,args:=#[x],argTypes:=#[t]}) (Wx:Wd P t=some e) (hz:Zc8 P e=some z) (hx:s.opV x=.sl id off n)
  (hb:s.heap id=some b) (Yc:b.own=true) (Xi:b.box=false) (Yl:off+n<=b.rows.length) (hel:b.el=e) (hzl:z.length=Zx P e) (Ws:Zx P e≠0):
  OpR P o a w (Stp P B io w a.tmps s ρ fl k (.tup []) (s.setB id {b with rows:=b.rows.take off++List.replicate n (z.map Zbv)++b.rows.drop (off+n)})):=by
 have ht:=Zbi Wx;obtain⟨ti,zv,hti,hzv,rfl,hsc⟩:=Zwh hz;simp only[Zx] at hzl Ws;have hzs:zv.cells.size=P.cellsOf e:=by simpa using hzl
 have hx':=h.opV x;rw[hx] at hx';generalize hq:a.eval x=q at hx';have Xk:n=0->(∃A c,q=.slice A 0 c)->OpR P o a w (Stp P B io w a.tmps s ρ fl k (.tup []) (s.setB id {b with rows:=b.rows.take off++List.replicate n (zv.cells.toList.map V.lit |>.map Zbv)++b.rows.drop (off+n)})):=by
  rintro rfl ⟨A,c,rfl⟩;have Z09:({b with rows:=b.rows.take off++List.replicate 0 (zv.cells.toList.map V.lit |>.map Zbv)++b.rows.drop (off+0)}:Blk)=b:=by simp
  rw[Z09,Yyd hb];refine .value (v:=.tuple #[]) (w':=w) ?_ (.same h (.tup (by simp) (λk v x hv=>by simp at hv)));cases A<;>simp[execOp,ho,resolve,invoke,builtin,hq,Builtin.clear_,run_underlying ht]
 cases hx' with
 | @sle _ A _ hρ=>exact Xk rfl ⟨A,0,rfl⟩
 | @sl _ g o0 c sz _ _ hρ hoc=>
  by_cases hn:n=0
  .subst hn;exact Xk rfl ⟨_,_,rfl⟩
  have hB:=h.heap id b hb;rw[hρ] at hB;unfold Xg at hB;rw[Xi,Yc] at hB;rcases hB with⟨Yj,_⟩|⟨g',o',c',cur,Yj,hg,hl,hm,Jc,hzc,fp,hFe,h1,h2⟩
  .cases Yj
  .cases Yj
   subst hel
   let us:=(List.replicate n zv.cells.toList).flatten
   let ys:=(List.replicate n ((zv.cells.toList.map V.lit).map Zbv)).flatten
   have husd:us=(List.replicate n zv.cells.toList).flatten:=rfl;have hysd:ys=(List.replicate n ((zv.cells.toList.map V.lit).map Zbv)).flatten:=rfl;have hul:us.length=n*P.cellsOf b.el:=by rw[husd,Je (sz:=P.cellsOf b.el) (λr hr=>by rw[(Vbn.1 hr).2];simp[hzs])];simp
   have hyl:ys.length=n*P.cellsOf b.el:=by rw[hysd,Je (sz:=P.cellsOf b.el) (λr hr=>by rw[(Vbn.1 hr).2];simp[hzs])];simp
   have hO0:∀{w:World},OwL w us ys []:=OwL.zerosRep hsc n;have Yh1:∀u∈us,u.oneCell'=true:=λu hu=>by
    obtain⟨r,hr,hu⟩:=Vbw.1 hu;rw[(Vbn.1 hr).2] at hu;exact Yea (hsc u hu)
   have hrc:b.rows.length*P.cellsOf b.el<=c*P.cellsOf b.el:=Vbq _ hl;have hon:(off+n)*P.cellsOf b.el<=b.rows.length*P.cellsOf b.el:=Vbq _ Yl;rw[Nat.add_mul] at hon;have hst:=run_storeCells_at P g (o0+off*P.cellsOf b.el) b.el us 0 cur w hg (by omega) Yh1;simp only[Va3] at hst;generalize Y3:(cur.toList.take (o0+off*P.cellsOf b.el)++us++cur.toList.drop (o0+off*P.cellsOf b.el+us.length)).toArray=new at hst;have Yt:(execOp a.eval o).run P w=.ok (.value (.tuple #[])) (w.setRow g new):=by
    have hzt:(Builtin.zeroCells zv.cells n).toList=us:=by rw[husd];exact Zpv zv.cells n
    have hnn:n≠0:=hn;cases n with
    | zero=>exact absurd rfl hn
    | succ n=>simp[execOp,ho,resolve,invoke,builtin,hq,Builtin.clear_,run_underlying ht,zeroValue,typeInfo,hti,hzv,hzt,hst]
   have Zuv:new.size=cur.size:=by rw[<-Y3];simp;omega
   have Zc2:∀k',k'≠g->(w.setRow g new).heap[k']?=w.heap[k']?:=λk' W9=>setRow_other w g k' _ W9;have Z8b:∀m,new[o0+m]?=if off*P.cellsOf b.el<=m/\m < off*P.cellsOf b.el+us.length then us[m - off*P.cellsOf b.el]? else cur[o0+m]?:=by
    intro m;rw[<-Y3];have:=Zcr (cur:=cur.toList) (n:=o0+off*P.cellsOf b.el) (vs:=us) (by simp;omega) (j:=o0+m);rw[Vcs,this];by_cases hc:off*P.cellsOf b.el<=m/\m < off*P.cellsOf b.el+us.length
    .rw[ZZj (by omega),ZZj hc];congr 1;omega
    .rw[ZZi (by omega),ZZi hc];simp
   have Z79:=Je Jc;have Z9e:(b.rows.take off++List.replicate n ((zv.cells.toList.map V.lit).map Zbv)++b.rows.drop (off+n)).flatten=b.rows.flatten.take (off*P.cellsOf b.el)++ys++b.rows.flatten.drop (off*P.cellsOf b.el+ys.length):=by
    rw[List.flatten_append,List.flatten_append,Zyx off Jc,hyl,<-Nat.add_mul,Zmq (off+n) Jc]
   have Zzq:∀r'∈b.rows.take off++List.replicate n ((zv.cells.toList.map V.lit).map Zbv)++b.rows.drop (off+n),r'.length=P.cellsOf b.el:=λr' Jx=>by
    rcases Vat.1 Jx with h4|h4
    .rcases Vat.1 h4 with h4|h4
     .exact Jc r' (Vby h4)
     .rw[(Vbn.1 h4).2];simp[hzs]
    .exact Jc r' (Vbm h4)
   have Z07:(b.rows.take off++List.replicate n ((zv.cells.toList.map V.lit).map Zbv)++b.rows.drop (off+n)).length=b.rows.length:=by simp;omega
   have Zh4:(new.toList.drop o0).take (b.rows.length*P.cellsOf b.el)=((cur.toList.drop o0).take (b.rows.length*P.cellsOf b.el)).take (off*P.cellsOf b.el)++us++((cur.toList.drop o0).take (b.rows.length*P.cellsOf b.el)).drop (off*P.cellsOf b.el+us.length):=by
    apply Vcr;intro m;rw[Zcr (by simp;omega),Vai,Vai,Vau,Vau];have hm:=Z8b m;simp only[Vcu];rw[hm];by_cases hc:off*P.cellsOf b.el<=m/\m < off*P.cellsOf b.el+us.length
    .rw[ZZj hc,ZZj hc,ZZj (by omega)]
    .rw[ZZi hc,ZZi hc]
   have hgr:g ∉ fp:=by
    have:=h.once id b hb Yc;rw[hFe] at this;exact (Vay.1 this).1
   let b':Blk:={b with rows:=b.rows.take off++List.replicate n ((zv.cells.toList.map V.lit).map Zbv)++b.rows.drop (off+n)}
   have Wy:tops s ρ g:=⟨id,b,_,_,_,hb,Yc,hρ⟩;have hrd:∀{u:Value} {z:V},Rd w (okS s ρ w) u z->Rd (w.setRow g new) (okS (s.setB id b') ρ (w.setRow g new)) u z:=λhu=>
    hu.mono (λg' Z7 _=>Zc2 g' (λe=>Z7.1 (e▸Wy))) (λg' Z7=>⟨λht=>Z7.1 ((Z02 (b':=b') hb rfl g').1 ht),by simpa using Z7.2⟩)
   have fin:∀(Fs:List Nat),(∃r',Fs=g::r')->(∀k'∈Fs,k'∈F id)->Fs.Nodup->
     Xg P (w.setRow g new) (okS (s.setB id b') ρ (w.setRow g new)) ρ (some (.blk g o0 c (P.cellsOf b.el))) Fs b'->
     OpR P o a w (Stp P B io w a.tmps s ρ fl k (.tup []) (s.setB id b')):=by
    intro Fs hFs hFm hno Y0w;obtain⟨w1,w2,w3⟩:=h.write (b':=b') (Fs:=Fs) (fl':=fl) (new:=new) hb Yc Yc hρ hg ⟨fp,hFe⟩ hFs (λk hk=>.inl (hFm k hk)) hno (λ_ h=>h) h.flOnce (λk' W9=>h.flApart id b hb Yc k' (hFm k' W9)) (by omega) Y0w;exact .value Yt ⟨rfl,rfl,w2,ρ,upd F id Fs,w1,.tup (by simp) (λk v x hv=>by simp at hv),λ_ _ h=>h,λ_ h=>.inl h⟩
   show OpR P o a w (Stp P B io w a.tmps s ρ fl k (.tup []) (s.setB id b'));cases X8:b.cl with
   | true=>
    have hO1:=(h1 X8).frame (w':=w.setRow g new) (λk' W9=>Zc2 k' (λe=>hgr (e▸W9)));obtain⟨f',hO,hf1,hf2⟩:=hO1.put (hO0 (w:=w.setRow g new)) (off*P.cellsOf b.el);rw[<-Zh4,show us.length=ys.length by omega,<-Z9e] at hO;have hno:=h.once id b hb Yc;rw[hFe] at hno;have hf1':∀k'∈f',k'∈fp:=λk' W9=>by
     rcases hf1 k' W9 with h4|h4
     .exact h4
     .simp at h4
    refine fin (g::f') ⟨f',rfl⟩ (λk' W9=>?_) (Vay.2 ⟨λhf=>hgr (hf1' g hf),hf2 (by simpa using (Vay.1 hno).2)⟩) (.mkRow (fp:=f') Xi Yc rfl (setRow_heap w g cur new _ _ hg) (by show (b'.rows).length<=c;simp only[b'];rw[Z07];exact hl) hm Zzq (by rw[Zuv];exact hzc) rfl (λ_=>by simp only[b'];rw[Z07];exact hO) (λhf=>by simp[b',X8] at hf));rw[hFe];rcases Vav.1 W9 with rfl|W9
    .exact Vab
    .exact Vad _ (hf1' k' W9)
   | false=>
    refine fin [g] ⟨[],rfl⟩ (λk' W9=>by rw[List.mem_singleton.1 W9,hFe];exact Vab) (by simp) (.mkRow (fp:=[]) Xi Yc rfl (setRow_heap w g cur new _ _ hg) (by show (b'.rows).length<=c;simp only[b'];rw[Z07];exact hl) hm Zzq (by rw[Zuv];exact hzc) rfl (λhf=>by simp[b',X8] at hf) (λ_=>⟨rfl,λm z hmz=>?_⟩));simp only[b'] at hmz;rw[Z9e,Zcr (by rw[Z79];omega)] at hmz;rw[Z8b m,show us.length=ys.length by omega];split at hmz
    .rename_i hc
     rw[ZZj hc];obtain⟨u,hu,hr⟩:=(hO0 (w:=w)).rd (ok:=okS s ρ w) (λg hg=>by simp at hg) hmz;exact⟨u,hu,hrd hr⟩
    .rename_i hc
     rw[ZZi hc];obtain⟨u,hu,hr⟩:=(h2 X8).2 m z hmz;exact⟨u,hu,hrd hr⟩
theorem Yqp:∀{rows:List (List V)} {bs:List UInt8},Z2a rows=some bs->∃ns:List Int,rows=ns.map (λn=>[V.lit (.int .u8 n)])/\bs=ns.map λn=>UInt8.ofNat n.toNat:=by
 intro rows
 induction rows with
 | nil=>intro bs h;simp only[Z2a,Vck,Z2z,ZZd] at h;subst h;exact⟨[],rfl,rfl⟩
 | cons r rows ih=>
  intro bs h;simp only[Z2a,Va7] at h;split at h
  .rename_i n
   simp only[Z2z] at h;obtain⟨bs',hb,rfl⟩:=ZZc.1 h;obtain⟨ns,h1,h2⟩:=ih hb;exact⟨n::ns,by rw[h1];rfl,by rw[h2];rfl⟩
  .simp[Z2z] at h
theorem Yxm (ns:List Int) (s:ByteArray):ns.foldl (λr n=>r.push (UInt8.ofNat n.toNat)) s=⟨s.data++(ns.map λn=>UInt8.ofNat n.toNat).toArray⟩:=by
 induction ns generalizing s with
 | nil=>simp
 | cons n ns ih=>
  rw[Vd7,ih]
  congr 1
  apply Vdk;simp[ByteArray.push]
theorem Yzy (h:Rel P B io w a.tmps s ρ F fl) {src dst e:TypeId} {x:Operand} {rows:List (List V)} {bs:List UInt8} (ho:o.op=.convert src dst x) (hs:P.underlying src=some (.slice e)) (hd:P.underlying dst=some .string) (he:P.underlying e=some (.int .u8))
  (hr:s.rowsOf (s.opV x)=some rows) (hb:Z2a rows=some bs):OpR P o a w (Stp P B io w a.tmps s ρ fl k (.lit (.string ⟨bs.toArray⟩)) s):=by
 obtain⟨ns,X3,hbs⟩:=Yqp hb;have Yt:(Conv.bytesToString (a.eval x)).run P w=.ok (.string ⟨bs.toArray⟩) w:=by
  have hu:=h.opV x;generalize a.eval x=u at hu;rcases Z3x h hu hr (sz:=1) (λq hq=>by
   rw[X3] at hq;obtain⟨n,_,rfl⟩:=Vbd.1 hq;rfl) with⟨rfl,A,c,rfl⟩|⟨us,hC⟩
  .have:ns=[]:=by cases ns with|nil=>rfl|cons n ns=>simp at X3
   subst this;simp only[Vck] at hbs;subst hbs;cases A with
   | none=>simp[Conv.bytesToString];rfl
   | some ad=>
    have:=run_bytesToString (P:=P) w ad 0 c [] (by simp[loadCells,loadCellsFrom]);rw[List.foldl_nil] at this;exact this
  .obtain⟨ad,c,rfl,hc⟩:=hC.val
   have husn:us=ns.map (Value.int .u8):=by
    apply Vcr;intro j;have Yl:us.length=ns.length:=by have:=hC.len;rw[X3] at this;simpa using this
    by_cases hj:j < ns.length
    .have h1:rows.flatten[j]?=some (V.lit (.int .u8 ns[j])):=by
      rw[X3];have:=Zdx (sz:=1) (rows:=ns.map λn=>[V.lit (.int .u8 n)]) (i:=j) (j:=0) (x:=V.lit (.int .u8 ns[j])) (λr hr=>by obtain⟨n,_,rfl⟩:=Vbd.1 hr;rfl) (by rw[Va8,Vac hj];rfl) rfl;simpa using this
     have hsee:∃v,us[j]?=some v/\Rd w (okS s ρ w) v (V.lit (.int .u8 ns[j])):=by
      cases X8:Zaq rows with
      | true=>exact (hC.own X8).rd (λg hg=>by simp at hg) h1
      | false=>exact (hC.see X8).2 j _ h1
     obtain⟨v,hv,hr⟩:=hsee;cases hr;rw[hv,Va8,Vac hj];rfl
    .rw[Vb7 (by omega),Vb7 (by simp;omega)]
   have hld:(loadCells ad rows.length).run P w=.ok (ns.map (Value.int .u8)).toArray w:=by
    have:=run_loadCells_list (P:=P) (w:=w) ad us (λj u hj=>hc j u hj);rw[husn] at this;rw[X3];simpa using this
   have:=run_bytesToString (P:=P) w ad rows.length c ns hld;rw[this,Yxm,hbs];simp
 refine .value (v:=.string ⟨bs.toArray⟩) (w':=w) ?_ (.same h (.lit rfl));have hsh:∃A n c,a.eval x=.slice A n c:=by
  have hu:=h.opV x;generalize a.eval x=u at hu;rcases Z3x h hu hr (sz:=1) (λq hq=>by
   rw[X3] at hq;obtain⟨n,_,rfl⟩:=Vbd.1 hq;rfl) with⟨_,A,c,rfl⟩|⟨us,hC⟩
  .exact⟨_,_,_,rfl⟩
  .obtain⟨ad,c,rfl,_⟩:=hC.val;exact⟨_,_,_,rfl⟩
 obtain⟨A,n,c,hq⟩:=hsh;rw[hq] at Yt;simp[execOp,ho,hq,convert,run_underlying hs,run_underlying hd,run_underlying he,Yt]
def Ykm:BinOp->Bool|.neq=>true|_=>false
theorem Zz2 (h:Rel P B io w a.tmps s ρ F fl) {op:BinOp} {t yt e:TypeId} {x y z:Operand} {rows:List (List V)} {r:List V} (ho:o.op=.binOp op t x y yt) (Wx:Wd P t=some e) (hop:op=.eql\/op=.neq)
  (hz:(z=x/\s.opV y=.lit (.slice none 0 0))\/(z=y/\s.opV x=.lit (.slice none 0 0))) (hr:s.rowsOf (s.opV z)=some (r::rows)) (he:v=.lit (.bool (Ykm op))):
  OpR P o a w (Stp P B io w a.tmps s ρ fl k v s):=by
 have ht:=Zbi Wx;have hzv:∃ad n c,a.eval z=.slice (some ad) n c:=by
  have hR:=h.rowsOf (ok':=λg=>g < w.heap.size) (h.opV z) hr (λg hg=>hg.2) (λ_ _ _ _ _ _ _ _ _ _ _ _ hg _=>hg);generalize a.eval z=q at hR;cases hR with
  | tr=>exact⟨_,_,_,rfl⟩
 obtain⟨ad,n,c,hzv⟩:=hzv;have Zsz:∀{y:Operand},s.opV y=.lit (.slice none 0 0)->a.eval y=.slice none 0 0:=λ{y} hy=>by
  have:=h.opV y;rw[hy] at this;generalize a.eval y=q at this;cases this;rfl
 subst he;refine .value (v:=.bool (Ykm op)) (w':=w) ?_ (.same h (.lit rfl));have g1:∀d (u v:Value),(u=.slice (some ad) n c/\v=.slice none 0 0)\/(u=.slice none 0 0/\v=.slice (some ad) n c)->(Op.equalIn (d+1) t u v).run P w=.ok false w:=by
  rintro d u v (⟨rfl,rfl⟩|⟨rfl,rfl⟩)<;>simp[Op.equalIn,run_underlying ht]
 have g2:∀(u v:Value),(u=.slice (some ad) n c/\v=.slice none 0 0)\/(u=.slice none 0 0/\v=.slice (some ad) n c)->(Op.equal t u v).run P w=.ok false w:=λu v h=>g1 9999 u v h;have g3:∀(u v:Value) (x y:Operand),(u=.slice (some ad) n c/\v=.slice none 0 0)\/(u=.slice none 0 0/\v=.slice (some ad) n c)->(eqGuard op t x y u v).run P w=.ok () w:=by
  rintro u v x y (⟨rfl,rfl⟩|⟨rfl,rfl⟩)<;>rcases hop with rfl|rfl<;>simp[eqGuard]
 have g4:∀(u v:Value),(u=.slice (some ad) n c/\v=.slice none 0 0)\/(u=.slice none 0 0/\v=.slice (some ad) n c)->(binOp op t u v).run P w=.ok (.bool (Ykm op)) w:=by
  intro u v h;have:=g2 u v h;rcases h with⟨rfl,rfl⟩|⟨rfl,rfl⟩<;>rcases hop with rfl|rfl<;>simp[binOp,this,Ykm]
 rcases hz with⟨rfl,hy⟩|⟨rfl,hx⟩
 .have hh:(a.eval z=.slice (some ad) n c/\a.eval y=.slice none 0 0)\/(a.eval z=.slice none 0 0/\a.eval y=.slice (some ad) n c):=.inl ⟨hzv,Zsz hy⟩
  simp only[execOp,ho,Sem.run_bind,Sem.run_pure,Result.andThen_ok,g3 _ _ _ _ hh,g4 _ _ hh]
 .have hh:(a.eval x=.slice (some ad) n c/\a.eval z=.slice none 0 0)\/(a.eval x=.slice none 0 0/\a.eval z=.slice (some ad) n c):=.inr ⟨Zsz hx,hzv⟩
  simp only[execOp,ho,Sem.run_bind,Sem.run_pure,Result.andThen_ok,g3 _ _ _ _ hh,g4 _ _ hh]
end
def OpW (P:Program) (o:Oper) (a:Act) (w:World) (Post:Value->World->Prop):Prop:=∀(K:Act->World->Prop) (Q:Exit->Act->World->Prop),(∀v w',Post v w'->K (a.put o.dst v) w')->o.wp P a w K Q
theorem OpR.toW {P:Program} {o:Oper} {a:Act} {w:World} {Post:Value->World->Prop} (h:OpR P o a w Post):OpW P o a w Post:=λ_ _ hK=>h.wp hK
theorem Zn3 {α:Type} {a:Array α} {x:α} (h:a.toList=[x]):a=#[x]:=by apply Vdk;simpa using h
theorem Z4c {α:Type} {a:Array α} {x y:α} (h:a.toList=[x,y]):a=#[x,y]:=by apply Vdk;simpa using h
def Yc4 (P:Program) (B:Nat) (io:Nat->Prop) (w:World) (tmps:Array Value) (s:St) (ρ:Rho) (fl:List Nat) (k:Nat) (v:V) (s':St) (M:Yp) (C:Qo):Prop:=
 ∀(g:FuncId) (args:List V) (us:Array Value),us.size=args.length->(∀(j:Nat) (u:Value) (x:V),us[j]?=some u->args[j]?=some x->En w (okS s ρ w) ρ u x)->Zos P M C s k g args=some (v,s')->
  ∃fn,P.funcs[g]?=some fn/\fn.body.isSome=true/\(fn.name == "runtime.NumGoroutine")=false/\Calls P g us w (λe w'=>∃val,e=.returned val/\Stp P B io w tmps s ρ fl k v s' val w')
section
variable {P:Program} {B:Nat} {io:Nat->Prop} {w w':World} {a:Act} {s s':St} {ρ:Rho} {F:Id->List Nat} {fl:List Nat} {k:Nat} {o:Oper} {v:V} {M:Yp} {C:Qo}
theorem Y19 (h:Rel P B io w a.tmps s ρ F fl) {f:Operand} {ars:Array Operand} {ts:Array TypeId} {g:FuncId} {caps:List V} (ho:o.op=.call {callee:=.value f,args:=ars,argTypes:=ts}) (hf:s.opV f=.fn g caps)
  (he:Zos P M C s k g (ars.toList.map s.opV++caps)=some (v,s')) (Zs0:Yc4 P B io w a.tmps s ρ fl k v s' M C):OpW P o a w (Stp P B io w a.tmps s ρ fl k v s'):=by
 have hfv:=h.opV f;rw[hf] at hfv;generalize hq:a.eval f=q at hfv;have key:∀(vs:Array Value),q=.func (.func g) #[] vs->vs.size=caps.length->(∀(j:Nat) (u:Value) (x:V),vs[j]?=some u->caps[j]?=some x->En w (okS s ρ w) ρ u x)->OpW P o a w (Stp P B io w a.tmps s ρ fl k v s'):=by
  rintro vs rfl hl hr;obtain⟨fn,h1,h2,h3,h4⟩:=Zs0 g _ (ars.map a.eval++vs) (by simp[hl]) (λj u x hu hx=>by
   by_cases hj:j < ars.size
   .rw[Vb6 (by simpa using hj)] at hu
    rw[Vaj (by simpa using hj)] at hx;simp only[Array.getElem?_map,Va8,ZZc] at hu hx;obtain⟨y,hy,rfl⟩:=hu;obtain⟨z,hz,rfl⟩:=hx;have:y=z:=by
     have h1:ars.toList[j]?=some y:=by simpa using hy
     rw[h1] at hz;injection hz
    subst this;exact h.opV y
   .rw[Array.getElem?_append_right (by simp;omega)] at hu
    rw[Vah (by simp;omega)] at hx;simp only[Array.size_map,Vcg,Array.length_toList] at hu hx;exact hr _ u x hu hx) he
  have hb:fn.body.isNone=false:=by cases hbb:fn.body with
   | none=>rw[hbb] at h2;cases h2
   | some c=>rfl
  have Yt:(execOp a.eval o).run P w=.ok (.enter g (ars.map a.eval++vs)) w:=by
   have h3':¬fn.name = "runtime.NumGoroutine" := by simpa using h3
   have Yb:¬fn.body=none:=λhh=>by rw[hh] at h2;cases h2
   simp[execOp,ho,resolve,hq,Deferred.ofValue,invoke,callFunc,h1,h3',Yb]
  intro K Q hK;unfold Oper.wp;rw[Yt,Oper.upon_enter];refine h4.mono ?_;rintro e w'' ⟨val,rfl,hp⟩;exact hK _ _ hp
 cases hfv with
 | fn hl hr=>exact key _ rfl hl hr
theorem Y1l (h:Rel P B io w a.tmps s ρ F fl) (he:Zyp P M C s k o=some (v,s')) (Y3:∀id:Id,id.1=s.ep->id.2 / 1024=k->ρ id=none) (Zs0:Yc4 P B io w a.tmps s ρ fl k v s' M C):
  OpW P o a w (Stp P B io w a.tmps s ρ fl k v s'):=by
 have Zw:ρ (s.ep,1024*k)=none:=Y3 _ rfl (by simp);have hkk:(s.ep,1024*k).2 / 1024=k:=by simp
 have sc:∀{x:Option V},x=Xd P s.opV o->(x.map λy=>(y,s))=some (v,s')->OpW P o a w (Stp P B io w a.tmps s ρ fl k v s'):=by
  rintro _ rfl hx;obtain⟨y,hy,he⟩:=ZZc.1 hx;simp only[ZZe] at he;obtain⟨rfl,rfl⟩:=he;exact (Ywh h hy).toW
 unfold Zyp Xb at he;simp only at he;split at he
 .rename_i x ho
  split at he
  .cases he
  .simp only[ZZd,ZZe] at he
   obtain⟨hv,rfl⟩:=he;exact (Ysy h (.inl ho) hv).toW
 .rename_i x ho
  split at he
  .cases he
  .simp only[ZZd,ZZe] at he
   obtain⟨hv,rfl⟩:=he;exact (Ysy h (.inr ho) hv).toW
 .rename_i c x y ho
  split at he
  .rename_i t hc
   simp only[ZZd,ZZe] at he;obtain⟨hv,rfl⟩:=he;exact (Y2h h ho hc hv).toW
  .cases he
 .rename_i t i ho
  split at he
  .rename_i vs ht
   obtain⟨y,hy,he⟩:=ZZc.1 he;simp only[ZZe] at he;obtain⟨rfl,rfl⟩:=he;exact (Yur h ho ht hy).toW
  .cases he
 .rename_i x ho
  split at he
  .rename_i i j n hx
   simp only[ZZd,ZZe] at he;obtain⟨rfl,rfl⟩:=he;exact (Z1g h ho hx (.inl ⟨_,_,_,rfl⟩)).toW
  .rename_i b r n hx
   simp only[ZZd,ZZe] at he;obtain⟨rfl,rfl⟩:=he;exact (Z1g h ho hx (.inr (.inl ⟨_,_,_,rfl⟩))).toW
  .rename_i f cs hx
   simp only[ZZd,ZZe] at he;obtain⟨rfl,rfl⟩:=he;exact (Z1g h ho hx (.inr (.inr ⟨_,_,rfl⟩))).toW
  .cases he
 .rename_i t ho
  obtain⟨z,hz,he⟩:=ZZc.1 he;simp only[ZZe] at he;obtain⟨rfl,rfl⟩:=he;exact (Y0q h ho hz Zw rfl hkk).toW
 .rename_i t x ho
  obtain⟨cs,Kj,he⟩:=ZZb.1 he;split at he
  .simp only[ZZd,ZZe] at he
   obtain⟨rfl,rfl⟩:=he;exact (box_ok h ho Kj Zw rfl hkk).toW
  .cases he
 .rename_i t parts ho
  obtain⟨z,hz,he⟩:=ZZb.1 he;split at he
  .rename_i fs hu
   split at he
   .cases he
   .rename_i Qy
    obtain⟨cs,Kj,he⟩:=ZZc.1 he;simp only[ZZe] at he;obtain⟨rfl,rfl⟩:=he;exact (Yy4 h ho hz hu (by cases hh:fs.toList.all (λf=>(P.info? f.type).isSome) with|true=>rfl|false=>exact absurd hh Qy) Kj).toW
  .cases he
 .rename_i t n parts ho
  obtain⟨e,Wx,he⟩:=ZZb.1 he;obtain⟨z,hz,he⟩:=ZZb.1 he;split at he
  .cases he
  .rename_i hc
   obtain⟨cs,Kj,he⟩:=ZZb.1 he;obtain⟨⟨rows,c,s1⟩,hs,he⟩:=ZZc.1 he;simp only[ZZe] at he;obtain⟨rfl,rfl⟩:=he;have hc1:Zx P e≠0:=λhh=>hc (.inl hh);have hc2:n*Zx P e<=1048576:=by
    rcases Vb5 1048576 (n*Zx P e) with hh|hh
    .exact absurd (.inr (.inl hh)) hc
    .exact hh
   have hc3:Zq3 P e=true:=by
    cases hh:Zq3 P e with
    | true=>rfl
    | false=>exact absurd (.inr (.inr hh)) hc
   exact (Yjl h ho Wx hz hc1 hc2 hc3 Kj hs Zw rfl hkk).toW
 .rename_i t x ho
  split at he
  .rename_i i j n hx
   obtain⟨b,hb,he⟩:=ZZb.1 he;obtain⟨row,Yx,he⟩:=ZZb.1 he;split at he
   .rename_i Yl
    obtain⟨y,hy,he⟩:=ZZc.1 he;simp only[ZZe] at he;obtain⟨rfl,rfl⟩:=he;exact (Yss h ho (.inl ⟨i,j,n,b,row,hx,hb,Yx,Yl,hy⟩)).toW
   .cases he
  .rename_i sh row n hx
   split at he
   .rename_i Yl
    obtain⟨y,hy,he⟩:=ZZc.1 he;simp only[ZZe] at he;obtain⟨rfl,rfl⟩:=he;exact (Yss h ho (.inr ⟨sh,row,n,hx,Yl,hy⟩)).toW
   .cases he
  .cases he
 .rename_i t x y ho
  split at he
  .rename_i i j n hx
   obtain⟨b,hb,he⟩:=ZZb.1 he;obtain⟨row,Yx,he⟩:=ZZb.1 he;obtain⟨cs,Kj,he⟩:=ZZb.1 he;split at he
   .rename_i hc
    obtain⟨h1,h2,h3,h4⟩:=hc;split at he
    .rename_i Xi
     simp only[ZZd,ZZe] at he;obtain⟨rfl,rfl⟩:=he;exact (Ypa h ho hx hb Yx Kj h1 Xi h2 h3 h4).toW
    .rename_i Xi
     obtain⟨⟨ys,c,s1⟩,hs,he⟩:=ZZb.1 he;simp only at he;split at he
     .rename_i b1 hb1
      simp only[ZZd,ZZe] at he;obtain⟨rfl,rfl⟩:=he;exact (Yq4 h ho hx hb Yx Kj h1 (by simpa using Xi) h2 h3 h4 hs hb1).toW
     .cases he
   .cases he
  .cases he
 .rename_i t x f ho
  obtain⟨off,Z8f,he⟩:=ZZb.1 he;split at he
  .rename_i i j n hx
   simp only[ZZd,ZZe] at he;obtain⟨rfl,rfl⟩:=he;exact (Z72 h ho Z8f (.inl ⟨_,_,_,hx,rfl⟩)).toW
  .rename_i b r n hx
   simp only[ZZd,ZZe] at he;obtain⟨rfl,rfl⟩:=he;exact (Z72 h ho Z8f (.inr ⟨_,_,_,hx,rfl⟩)).toW
  .cases he
 .rename_i t x ix ho
  obtain⟨e,Wx,he⟩:=ZZb.1 he;split at he
  .cases he
  .rename_i hz
   obtain⟨n,hn,he⟩:=ZZb.1 he;split at he
   .rename_i i off len hx
    split at he
    .rename_i Z5
     obtain⟨b,hb,he⟩:=ZZb.1 he;obtain⟨row,Yx,he⟩:=ZZb.1 he;split at he
     .rename_i hrl
      simp only[ZZd,ZZe] at he;obtain⟨rfl,rfl⟩:=he;exact (Zzc h ho Wx hn (.inl ⟨i,off,len,b,row,hx,Z5,hb,Yx,hrl,rfl⟩) hz).toW
     .cases he
    .cases he
   .rename_i rows hx
    obtain⟨row,Yx,he⟩:=ZZb.1 he;split at he
    .rename_i hrl
     simp only[ZZd,ZZe] at he;obtain⟨rfl,rfl⟩:=he;exact (Zzc h ho Wx hn (.inr ⟨true,rows,row,.inl hx,Yx,hrl,rfl⟩) hz).toW
    .cases he
   .rename_i rows hx
    obtain⟨row,Yx,he⟩:=ZZb.1 he;split at he
    .rename_i hrl
     simp only[ZZd,ZZe] at he;obtain⟨rfl,rfl⟩:=he;exact (Zzc h ho Wx hn (.inr ⟨false,rows,row,.inr hx,Yx,hrl,rfl⟩) hz).toW
    .cases he
   .cases he
 .rename_i t x lo hi ho
  split at he
  .obtain⟨y,hy,he⟩:=ZZc.1 he
   simp only[ZZe] at he;obtain⟨rfl,rfl⟩:=he;exact (Yb9 h ho hy).toW
  .obtain⟨y,hy,he⟩:=ZZc.1 he
   simp only[ZZe] at he;obtain⟨rfl,rfl⟩:=he;exact (Yb9 h ho hy).toW
  .obtain⟨y,hy,he⟩:=ZZc.1 he
   simp only[ZZe] at he;obtain⟨rfl,rfl⟩:=he;exact (Yb9 h ho hy).toW
  .exact sc rfl he
 .rename_i t l c ho
  obtain⟨e,Wx,he⟩:=ZZb.1 he;obtain⟨z,hz,he⟩:=ZZb.1 he;obtain⟨n,hn,he⟩:=ZZb.1 he;obtain⟨m,hm,he⟩:=ZZb.1 he;split at he
  .rename_i hc
   obtain⟨rfl,h2,h3,h4,h5⟩:=hc;simp only[ZZd,ZZe] at he;obtain⟨rfl,rfl⟩:=he;exact (Yk6 h ho Wx hz hn hm h2 h3 h4 h5 Zw rfl hkk).toW
  .cases he
 .rename_i f first caps ho
  split at he
  .rename_i hf
   simp only[ZZd,ZZe] at he;obtain⟨rfl,rfl⟩:=he;have:first=#[]:=Array.eq_empty_of_size_eq_zero hf
   subst this;exact (Yq1 h ho rfl).toW
  .cases he
 .rename_i src dst x ho
  split at he
  .exact sc rfl he
  .split at he
   .rename_i e hs hd
    split at he
    .rename_i hu
     obtain⟨rows,hr,he⟩:=ZZb.1 he;obtain⟨bs,hb,he⟩:=ZZc.1 he;simp only[ZZe] at he;obtain⟨rfl,rfl⟩:=he;exact (Yzy h ho hs hd hu hr hb).toW
    .cases he
   .cases he
   .cases he
 .rename_i c ho
  obtain⟨callee,ars,ts⟩:=c;simp only at he;split at he
  .split at he
   .rename_i b x t t' ha ht
    split at he
    .rename_i htt
     subst htt;have:=Z4c ha;subst this;have:=Z4c ht;subst this;exact (Ywx h ho he Zw rfl hkk).toW
    .cases he
   .cases he
  .split at he
   .rename_i x t ha ht
    have:=Zn3 ha;subst this;have:=Zn3 ht;subst this;split at he
    .rename_i i off n hx
     split at he
     .rename_i Wx
      simp only[ZZd,ZZe] at he;obtain⟨rfl,rfl⟩:=he;exact (Yn5 h ho Wx (.inl ⟨i,off,hx⟩) rfl).toW
     .cases he
    .rename_i rows hx
     split at he
     .rename_i Wx
      simp only[ZZd,ZZe] at he;obtain⟨rfl,rfl⟩:=he;exact (Yn5 h ho Wx (.inr ⟨rows,.inl hx,rfl⟩) rfl).toW
     .cases he
    .rename_i rows hx
     split at he
     .rename_i Wx
      simp only[ZZd,ZZe] at he;obtain⟨rfl,rfl⟩:=he;exact (Yn5 h ho Wx (.inr ⟨rows,.inr hx,rfl⟩) rfl).toW
     .cases he
    .exact sc rfl he
   .cases he
  .split at he
   .rename_i x t ha ht
    have:=Zn3 ha;subst this;have:=Zn3 ht;subst this;obtain⟨e,Wx,he⟩:=ZZb.1 he;obtain⟨z,hz,he⟩:=ZZb.1 he;split at he
    .rename_i i off n hx
     obtain⟨b,hb,he⟩:=ZZb.1 he;split at he
     .rename_i hc
      obtain⟨h1,h2,h3,h4,h5,h6⟩:=hc;simp only[ZZd,ZZe] at he;obtain⟨rfl,rfl⟩:=he;exact (Yy6 h ho Wx hz hx hb h1 h2 h3 h4 h5 h6).toW
     .cases he
    .cases he
   .cases he
  .exact sc rfl he
  .split at he
   .rename_i f g caps hf
    exact Y19 h ho hf he Zs0
   .cases he
  .cases he
 .rename_i op t x y yt ho
  split at he
  .exact sc rfl he
  .exact sc rfl he
  .exact sc rfl he
  .rename_i z1 z2 hx hy
   split at he
   .cases he
   .rename_i Wx
    obtain⟨e,Wx⟩:=Val.1 (show (Wd P t).isSome=true by cases hh:(Wd P t).isSome with|true=>rfl|false=>exact absurd hh Wx);split at he
    .rename_i r rows hr
     simp only[ZZd,ZZe] at he;obtain⟨rfl,rfl⟩:=he;exact (Zz2 h ho Wx (.inl rfl) (.inl ⟨rfl,by assumption⟩) hr rfl).toW
    .rename_i r rows hr
     simp only[ZZd,ZZe] at he;obtain⟨rfl,rfl⟩:=he;exact (Zz2 h ho Wx (.inr rfl) (.inl ⟨rfl,by assumption⟩) hr rfl).toW
    .cases he
  .rename_i z1 z2 hx hy
   split at he
   .cases he
   .rename_i Wx
    obtain⟨e,Wx⟩:=Val.1 (show (Wd P t).isSome=true by cases hh:(Wd P t).isSome with|true=>rfl|false=>exact absurd hh Wx);split at he
    .rename_i r rows hr
     simp only[ZZd,ZZe] at he;obtain⟨rfl,rfl⟩:=he;exact (Zz2 h ho Wx (.inl rfl) (.inr ⟨rfl,by assumption⟩) hr rfl).toW
    .rename_i r rows hr
     simp only[ZZd,ZZe] at he;obtain⟨rfl,rfl⟩:=he;exact (Zz2 h ho Wx (.inr rfl) (.inr ⟨rfl,by assumption⟩) hr rfl).toW
    .cases he
  .cases he
 .exact sc rfl he
end
theorem Rd.okm {w:World} {ok ok':Nat->Prop} {v:Value} {x:V} (h:Rd w ok v x) (Y2:∀g,ok g->ok' g):Rd w ok' v x:=h.mono (λ_ _ _=>rfl) Y2
theorem En.ext {w:World} {ok ok':Nat->Prop} {ρ ρ':Rho} {v:Value} {x:V} (h:En w ok ρ v x) (Y2:∀g,ok g->ok' g) (hρ:∀id i,ρ id=some i->ρ' id=some i):En w ok' ρ' v x:=by
 induction h with
 | undef=>exact .undef
 | lit h=>exact .lit h
 | tr h=>exact .tr (h.okm Y2)
 | vw h=>exact .vw (h.okm Y2)
 | rp h=>exact .rp (h.okm Y2)
 | ptr h=>exact .ptr (hρ _ _ h)
 | sl h hc=>exact .sl (hρ _ _ h) hc
 | sle h=>
  obtain⟨i,hi⟩:=Val.1 h;exact .sle (by rw[hρ _ _ hi];rfl)
 | fn hl hr ih=>exact .fn hl ih
 | agg hl hc hr ih=>exact .agg hl hc ih
 | tup hl hr ih=>exact .tup hl ih
theorem En.world {w w':World} {ok:Nat->Prop} {ρ:Rho} {v:Value} {x:V} (h:En w ok ρ v x) (hw:∀g,ok g->w'.heap[g]?=w.heap[g]?):En w' ok ρ v x:=by
 induction h with
 | undef=>exact .undef
 | lit h=>exact .lit h
 | tr h=>exact .tr (h.mono (λg hg _=>hw g hg) (λ_ h=>h))
 | vw h=>exact .vw (h.mono (λg hg _=>hw g hg) (λ_ h=>h))
 | rp h=>exact .rp (h.mono (λg hg _=>hw g hg) (λ_ h=>h))
 | ptr h=>exact .ptr h
 | sl h hc=>exact .sl h hc
 | sle h=>exact .sle h
 | fn hl hr ih=>exact .fn hl ih
 | agg hl hc hr ih=>exact .agg hl hc ih
 | tup hl hr ih=>exact .tup hl ih
theorem Xg.ext {P:Program} {w:World} {ok ok':Nat->Prop} {ρ ρ':Rho} {i:Option Zq7} {F:List Nat} {b:Blk} (h:Xg P w ok ρ i F b) (Y2:∀g,ok g->ok' g) (hρ:∀id i,ρ id=some i->ρ' id=some i):Xg P w ok' ρ' i F b:=by
 unfold Xg at h ⊢;split at h
 .obtain⟨h1,g,cur,e,row,hi,hg,hr,hs,he,h1c,rfl⟩:=h
  exact⟨h1,g,cur,e,row,hi,hg,hr,hs,λk v x hv hx=>(he k v x hv hx).ext Y2 hρ,h1c,rfl⟩
 .rcases h with h|⟨g,o,c,cur,hi,hg,hl,hm,hu,hz,fp,rfl,h1,h2⟩
  .exact .inl h
  .refine .inr ⟨g,o,c,cur,hi,hg,hl,hm,hu,hz,fp,rfl,h1,λhc=>⟨(h2 hc).1,λk x hx=>?_⟩⟩
   obtain⟨v,hv,hr⟩:=(h2 hc).2 k x hx;exact⟨v,hv,hr.okm Y2⟩
 .obtain⟨h0,h⟩:=h
  refine⟨h0,?_⟩;rcases h with h|⟨g,o,c,sz,hi,hu,hr⟩
  .exact .inl h
  .exact .inr ⟨g,o,c,sz,hi,hu,hr.okm Y2⟩
theorem Xg.world {P:Program} {w w':World} {ok:Nat->Prop} {ρ:Rho} {i:Option Zq7} {F:List Nat} {b:Blk} (h:Xg P w ok ρ i F b) (hw:∀g,ok g->w'.heap[g]?=w.heap[g]?) (hF:∀g∈F,w'.heap[g]?=w.heap[g]?):Xg P w' ok ρ i F b:=by
 unfold Xg at h ⊢;split at h
 .obtain⟨h1,g,cur,e,row,hi,hg,hr,hs,he,h1c,rfl⟩:=h
  exact⟨h1,g,cur,e,row,hi,by rw[hF g Vab];exact hg,hr,hs,λk v x hv hx=>(he k v x hv hx).world hw,h1c,rfl⟩
 .rcases h with h|⟨g,o,c,cur,hi,hg,hl,hm,hu,hz,fp,rfl,h1,h2⟩
  .exact .inl h
  .refine .inr ⟨g,o,c,cur,hi,by rw[hF g Vab];exact hg,hl,hm,hu,hz,fp,rfl,λhc=>(h1 hc).frame λk hk=>hF k (Vad _ hk),λhc=>⟨(h2 hc).1,λk x hx=>?_⟩⟩
   obtain⟨v,hv,hr⟩:=(h2 hc).2 k x hx;exact⟨v,hv,hr.mono (λg hg _=>hw g hg) (λ_ h=>h)⟩
 .obtain⟨h0,h⟩:=h
  refine⟨h0,?_⟩;rcases h with h|⟨g,o,c,sz,hi,hu,hr⟩
  .exact .inl h
  .exact .inr ⟨g,o,c,sz,hi,hu,hr.mono (λg hg _=>hw g hg) (λ_ h=>h)⟩
structure K4 (P:Program) (B:Nat) (io:Nat->Prop) (w:World) (tmps:Array Value) (s:St) (ρ:Rho) (F:Id->List Nat) (fl:List Nat) (ok:Nat->Prop):Prop where
 env:∀(t:Nat) (v:Value),tmps[t]?=some v->En w ok ρ v (s.env t)
 out:∀t,tmps.size<=t->s.env t=.undef
 heap:∀id b,s.heap id=some b->Xg P w ok ρ (ρ id) (F id) b
 mine:∀id b,s.heap id=some b->b.own=true->∀g∈F id,g < w.heap.size
 top:∀id b,s.heap id=some b->b.own=true->Zzm (ρ id)->∀g,(F id).head?=some g->io g\/B<=g
 apart:∀id id' b b',s.heap id=some b->b.own=true->s.heap id'=some b'->b'.own=true->id≠id'->∀g∈F id,g ∉ F id'
 once:∀id b,s.heap id=some b->b.own=true->(F id).Nodup
 dom:∀id,(ρ id).isSome=true->id.1<=s.ep
 base0:Zxe B io w
 flMine:∀g∈fl,g < w.heap.size
 flApart:∀id b,s.heap id=some b->b.own=true->∀g∈F id,g ∉ fl
 flOnce:fl.Nodup
inductive Giv (P:Program) (w:World) (ok top:Nat->Prop):Value->V->List Nat->Prop
 | lit {v:Value} (h:Q8 v=true):Giv P w ok top v (.lit v) []
 | tr {v:Value} {rows:List (List V)} (h:Rd w ok v (.tr rows)):Giv P w ok top v (.tr rows) []
 | own {v:Value} {e:TypeId} {rows:List (List V)} {fp:List Nat} (h:OwT P w e v rows fp) (ht:∀g,fp.head?=some g->top g):Giv P w ok top v (.own e rows) fp
inductive Zkf (P:Program) (w:World) (ok top:Nat->Prop):List Value->List V->List Nat->Prop
 | nil:Zkf P w ok top [] [] []
 | cons {v:Value} {x:V} {vs:List Value} {xs:List V} {f1 f2:List Nat} (h:Giv P w ok top v x f1) (hs:Zkf P w ok top vs xs f2):Zkf P w ok top (v::vs) (x::xs) (f1++f2)
theorem Zkf.length {P:Program} {w:World} {ok top:Nat->Prop} {vs:List Value} {xs:List V} {fp:List Nat} (h:Zkf P w ok top vs xs fp):vs.length=xs.length:=by
 induction h with
 | nil=>rfl
 | cons _ _ ih=>simp[ih]
def Zcd (P:Program) (w:World) (ok top:Nat->Prop) (u:Value):V->List Nat->Prop
 | .agg cs,fp=>∃us:Array Value,u=.agg us/\Zkf P w ok top us.toList cs fp
 | .obx cs,fp=>∃g cur e fp',u=.pointer (some ⟨g,0,none⟩)/\w.heap[g]?=some (.cells cur e (0,0))/\Zkf P w ok top cur.toList cs fp'/\fp=g::fp'/\top g
 | x,fp=>Giv P w ok top u x fp
section
variable {P:Program} {B:Nat} {io:Nat->Prop} {w w':World} {tmps:Array Value} {s s':St} {ρ ρ':Rho} {F F':Id->List Nat} {fl fl':List Nat} {ok ok' top:Nat->Prop}
theorem K4.toRel (h:K4 P B io w tmps s ρ F fl ok) (Y2:∀g,ok g->okS s ρ w g):Rel P B io w tmps s ρ F fl:=
 {h with
  env:=λt v hv=>(h.env t v hv).ext Y2 (λ_ _ h=>h)
  heap:=λid b hb=>(h.heap id b hb).ext Y2 (λ_ _ h=>h)}
theorem K4.less (h:K4 P B io w tmps s ρ F fl ok) (hs:fl'.Sublist fl):K4 P B io w tmps s ρ F fl' ok:=
 {h with
  flMine:=λg hg=>h.flMine g (hs.subset hg)
  flApart:=λid b hb ho g hg Z7=>h.flApart id b hb ho g hg (hs.subset Z7)
  flOnce:=h.flOnce.sublist hs}
theorem K4.perm (h:K4 P B io w tmps s ρ F fl ok) (hs:fl'.Perm fl):K4 P B io w tmps s ρ F fl' ok:=
 {h with
  flMine:=λg hg=>h.flMine g (hs.mem_iff.1 hg)
  flApart:=λid b hb ho g hg Z7=>h.flApart id b hb ho g hg (hs.mem_iff.1 Z7)
  flOnce:=hs.nodup_iff.2 h.flOnce}
theorem K4.put (h:K4 P B io w tmps s ρ F fl ok) {p:Nat} {x:V} {u:Value} (hp:tmps[p]?=some u) (hx:En w ok ρ u x):K4 P B io w tmps (s.put (some p) x) ρ F fl ok:=
 {h with
  env:=λt v hv=>by
   simp only[St.put,upd];split
   .rename_i e;subst e;rw[hp] at hv;injection hv with hv;subst hv;exact hx
   .exact h.env t v hv
  out:=λt ht=>by
   simp only[St.put,upd];split
   .rename_i e;subst e
    have:=(Vam.1 hp).1;omega
   .exact h.out t ht}
theorem K4.add {fp:List Nat} (h:K4 P B io w tmps s ρ F (fp++fl) ok) {id:Id} (hs:s.heap id=none) (Ym:id.1<=s.ep) (hρ:∀id' i,ρ id'=some i->ρ' id'=some i) (hρn:∀id',id'≠id->ρ' id'=ρ id') {b:Blk} (hB:Xg P w ok ρ' (ρ' id) fp b)
  (Wy:Zzm (ρ' id)->∀g,fp.head?=some g->io g\/B<=g):K4 P B io w tmps (s.setB id b) ρ' (upd F id fp) fl ok:=by
 have hno:=Vap.1 h.flOnce;refine⟨λt v hv=>(h.env t v hv).ext (λ_ h=>h) hρ,h.out,λid' b' hb=>?_,λid' b' hb ho g hg=>?_,λid' b' hb ho hcc g hg=>?_,λid1 id2 b1 b2 hb1 ho1 hb2 ho2 Yf g hg1 hg2=>?_,λid' b' hb ho=>?_,λid' hi=>?_,h.base0,λg hg=>h.flMine g (Vak _ hg),λid' b' hb ho g hg Z7=>?_,hno.2.1⟩
 .by_cases e:id'=id
  .subst e;rw[Zdy] at hb;injection hb with hb;subst hb;rw[Z1];exact hB
  .rw[Xl e] at hb;rw[hρn id' e,Yo e];exact (h.heap id' b' hb).ext (λ_ h=>h) hρ
 .by_cases e:id'=id
  .subst e;rw[Z1] at hg;exact h.flMine g (Vae _ hg)
  .rw[Xl e] at hb;rw[Yo e] at hg;exact h.mine id' b' hb ho g hg
 .by_cases e:id'=id
  .subst e;rw[Z1] at hg;exact Wy hcc g hg
  .rw[Xl e] at hb;rw[Yo e] at hg;rw[hρn id' e] at hcc;exact h.top id' b' hb ho hcc g hg
 .by_cases e1:id1=id
  .subst e1
   rw[Z1] at hg1;rw[Xl (Ne.symm Yf)] at hb2;rw[Yo (Ne.symm Yf)] at hg2;exact h.flApart id2 b2 hb2 ho2 g hg2 (Vae _ hg1)
  .rw[Xl e1] at hb1
   rw[Yo e1] at hg1;by_cases e2:id2=id
   .subst e2
    rw[Z1] at hg2;exact h.flApart id1 b1 hb1 ho1 g hg1 (Vae _ hg2)
   .rw[Xl e2] at hb2;rw[Yo e2] at hg2
    exact h.apart id1 id2 b1 b2 hb1 ho1 hb2 ho2 Yf g hg1 hg2
 .by_cases e:id'=id
  .subst e;rw[Z1];exact hno.1
  .rw[Xl e] at hb;rw[Yo e];exact h.once id' b' hb ho
 .by_cases e:id'=id
  .subst e;exact Ym
  .rw[hρn id' e] at hi;exact h.dom id' hi
 .by_cases e:id'=id
  .subst e;rw[Z1] at hg;exact hno.2.2 g hg g Z7 rfl
  .rw[Xl e] at hb;rw[Yo e] at hg;exact h.flApart id' b' hb ho g hg (Vak _ Z7)
structure Za6 (P:Program) (B:Nat) (io:Nat->Prop) (w:World) (tmps:Array Value) (s:St) (ρ:Rho) (fl:List Nat) (ok top:Nat->Prop) (J:Id->Prop) (s':St) (ρ':Rho) (F':Id->List Nat):Prop where
 rel:K4 P B io w tmps s' ρ' F' fl ok
 ext:∀id i,ρ id=some i->ρ' id=some i
 dom:∀id,(ρ' id).isSome=true->(ρ id).isSome=true\/J id
 env:s'.env=s.env
 ep:s'.ep=s.ep
 heap:∀id,¬J id->s'.heap id=s.heap id
 tops:∀g,Ev.tops s' ρ' g->Ev.tops s ρ g\/top g
theorem Za6.trans {fl1:List Nat} {J K:Id->Prop} {s1 s2:St} {ρ1 ρ2:Rho} {F1 F2:Id->List Nat} (h1:Za6 P B io w tmps s ρ fl1 ok top J s1 ρ1 F1) (h2:Za6 P B io w tmps s1 ρ1 fl ok top K s2 ρ2 F2):Za6 P B io w tmps s ρ fl ok top (λid=>J id\/K id) s2 ρ2 F2 where
 rel:=h2.rel
 ext:=λid i h=>h2.ext id i (h1.ext id i h)
 dom:=λid h=>by
  rcases h2.dom id h with h|h
  .rcases h1.dom id h with h|h
   .exact .inl h
   .exact .inr (.inl h)
  .exact .inr (.inr h)
 env:=h2.env.trans h1.env
 ep:=h2.ep.trans h1.ep
 heap:=λid h=>(h2.heap id λhk=>h (.inr hk)).trans (h1.heap id λhj=>h (.inl hj))
 tops:=λg h=>by
  rcases h2.tops g h with h|h
  .exact h1.tops g h
  .exact .inr h
theorem Za6.mono {J K:Id->Prop} {s1:St} {ρ1:Rho} {F1:Id->List Nat} (h:Za6 P B io w tmps s ρ fl ok top J s1 ρ1 F1) (hJ:∀id,J id->K id):Za6 P B io w tmps s ρ fl ok top K s1 ρ1 F1:=
 {h with
  dom:=λid hi=>(h.dom id hi).imp (λh=>h) (hJ id)
  heap:=λid hk=>h.heap id λhj=>hk (hJ id hj)}
theorem Za6.refl (h:K4 P B io w tmps s ρ F fl ok):Za6 P B io w tmps s ρ fl ok top (λ_=>False) s ρ F:=
 ⟨h,λ_ _ h=>h,λ_ h=>.inl h,rfl,rfl,λ_ _=>rfl,λ_ h=>.inl h⟩
theorem Zza {id:Id} {b:Blk} (hρn:∀id',id'≠id->ρ' id'=ρ id') {g:Nat} (h:tops (s.setB id b) ρ' g):tops s ρ g\/(b.own=true/\∃o c sz,ρ' id=some (.blk g o c sz)):=by
 obtain⟨id',b',o,c,sz,hb,ho,hρ⟩:=h;by_cases e:id'=id
 .subst e;rw[Zdy] at hb;injection hb with hb;subst hb;exact .inr ⟨ho,o,c,sz,hρ⟩
 .rw[Xl e] at hb;rw[hρn id' e] at hρ;exact .inl ⟨id',b',o,c,sz,hb,ho,hρ⟩
theorem Yy7 {fp:List Nat} (h:K4 P B io w tmps s ρ F (fp++fl) ok) {u:Value} {e:TypeId} {rows:List (List V)} (hO:OwT P w e u rows fp) (ht:∀g,fp.head?=some g->top g) (Wy:∀g,top g->io g\/B<=g) {id:Id} (Zw:ρ id=none) (hs:s.heap id=none) (Ym:id.1<=s.ep):
  ∃ρ' F',Za6 P B io w tmps s ρ fl ok top (λid'=>id'=id) (s.setB id ⟨false,true,true,e,rows⟩) ρ' F'/\En w ok ρ' u (.sl id 0 rows.length):=by
 rcases hO with⟨A,rfl,rfl,rfl⟩|⟨g,o,c,cur,fp',rfl,hg,hl,hm,Jc,hz,hO,rfl⟩
 .refine⟨upd ρ id (some .emp),upd F id [],⟨h.add hs Ym (Jk Zw) (λid' e=>Yo e) (by rw[Z1];exact .mkEmp rfl rfl rfl rfl rfl) (λ_ g hg=>by simp at hg),Jk Zw,λid' hi=>?_,rfl,rfl,λid' e=>Xl e,λg hg=>?_⟩,.sle (by rw[Z1];rfl)⟩
  .by_cases e:id'=id
   .exact .inr e
   .rw[Yo e] at hi;exact .inl hi
  .rcases Zza (λid' e=>Yo e) hg with h1|⟨_,o,c,sz,h1⟩
   .exact .inl h1
   .rw[Z1] at h1;cases h1
 .refine⟨upd ρ id (some (.blk g o c (P.cellsOf e))),upd F id (g::fp'),⟨h.add hs Ym (Jk Zw) (λid' e=>Yo e) (by
   rw[Z1];exact .mkRow rfl rfl rfl hg hl hm Jc hz rfl (λ_=>hO) (λhf=>by cases hf)) (λ_ g' Z7=>Wy g' (ht g' Z7)),Jk Zw,λid' hi=>?_,rfl,rfl,λid' e=>Xl e,λg' Z7=>?_⟩,?_⟩
  .by_cases e:id'=id
   .exact .inr e
   .rw[Yo e] at hi;exact .inl hi
  .rcases Zza (λid' e=>Yo e) Z7 with h1|⟨_,o',c',sz,h1⟩
   .exact .inl h1
   .rw[Z1] at h1
    injection h1 with h1;injection h1 with h1;subst h1;exact .inr (ht _ rfl)
  .have:=En.sl (w:=w) (ok:=ok) (off:=0) (len:=rows.length) (Z1 ρ id (some (.blk g o c (P.cellsOf e)))) (by omega)
   simpa using this
theorem Yaj {fp:List Nat} (h:K4 P B io w tmps s ρ F (fp++fl) ok) {u:Value} {x y:V} (hg:Giv P w ok top u x fp) (Wy:∀g,top g->io g\/B<=g) {id:Id} (Zw:ρ id=none) (hs:s.heap id=none) (Ym:id.1<=s.ep) (ht:s.takeCell id x=some (y,s')):
  ∃ρ' F',Za6 P B io w tmps s ρ fl ok top (λid'=>id'=id) s' ρ' F'/\En w ok ρ' u y/\cellish y=true:=by
 cases hg with
 | lit hsc=>
  simp only[St.takeCell,ZZd,ZZe] at ht;obtain⟨rfl,rfl⟩:=ht;exact⟨ρ,F,(Za6.refl h).mono (λ_ h=>h.elim),.lit hsc,rfl⟩
 | tr hr=>
  simp only[St.takeCell,ZZd,ZZe] at ht;obtain⟨rfl,rfl⟩:=ht;exact⟨ρ,F,(Za6.refl h).mono (λ_ h=>h.elim),.tr hr,rfl⟩
 | own hO htp=>
  simp only[St.takeCell,ZZd,ZZe] at ht;obtain⟨rfl,rfl⟩:=ht;obtain⟨ρ',F',h1,h2⟩:=Yy7 h hO htp Wy Zw hs Ym;exact⟨ρ',F',h1,h2,rfl⟩
theorem Zxv {e:Nat}:∀(xs:List V) {us:List Value} {k:Nat} {fp fl:List Nat} {s s':St} {ρ:Rho} {F:Id->List Nat} {ys:List V},K4 P B io w tmps s ρ F (fp++fl) ok->Zkf P w ok top us xs fp->(∀g,top g->io g\/B<=g)->e<=s.ep->
  (∀j,k<=j->j < k+xs.length->ρ (e,j)=none/\s.heap (e,j)=none)->s.takeCells e k xs=some (ys,s')->
  ∃ρ' F',Za6 P B io w tmps s ρ fl ok top (λid=>id.1=e/\k<=id.2/\id.2 < k+xs.length) s' ρ' F'/\us.length=ys.length/\(∀y∈ys,cellish y=true)/\(∀(j:Nat) (u:Value) (y:V),us[j]?=some u->ys[j]?=some y->En w ok ρ' u y):=by
 intro xs
 induction xs with
 | nil=>
  intro us k fp fl s s' ρ F ys h hg Wy Ym Y3 ht;cases hg;simp only[St.takeCells,ZZd,ZZe] at ht;obtain⟨rfl,rfl⟩:=ht;exact⟨ρ,F,(Za6.refl h).mono (λ_ h=>h.elim),rfl,by simp,λj u y hu=>by simp at hu⟩
 | cons x xs ih=>
  intro us k fp fl s s' ρ F ys h hg Wy Ym Y3 ht;cases hg with
  | @cons u _ us _ f1 f2 hg hgs=>
   simp only[St.takeCells] at ht;obtain⟨⟨y,s1⟩,h1,ht⟩:=ZZb.1 ht;obtain⟨⟨zs,s2⟩,h2,ht⟩:=ZZc.1 ht;simp only[ZZe] at ht;obtain⟨rfl,rfl⟩:=ht;simp only at h2;obtain⟨hn1,hn2⟩:=Y3 k (Vaw _) (by simp);obtain⟨ρ1,F1,t1,e1,c1⟩:=Yaj (fl:=f2++fl) (by rw[<-List.append_assoc];exact h) hg Wy hn1 hn2 Ym h1;obtain⟨ρ2,F2,t2,l2,c2,e2⟩:=ih t1.rel hgs Wy (by rw[t1.ep];exact Ym) (λj hj Z5=>by
    obtain⟨a1,a2⟩:=Y3 j (by omega) (by simp only[Vaa];omega);have Yf:¬((e,j):Id)=(e,k):=λhh=>by injection hh with _ hh;omega
    refine⟨?_,by rw[t1.heap _ Yf];exact a2⟩;cases hr:ρ1 (e,j) with
    | none=>rfl
    | some i=>
     rcases t1.dom (e,j) (by rw[hr];rfl) with hh|hh
     .rw[a1] at hh;cases hh
     .exact absurd hh Yf) h2
   refine⟨ρ2,F2,(t1.trans t2).mono (λid Zw=>?_),by simp[l2],λz hz=>?_,λj u' z hu hz=>?_⟩
   .rcases Zw with rfl|⟨a,b,c⟩
    .exact⟨rfl,Vaw _,by simp⟩
    .exact⟨a,by omega,by simp only[Vaa];omega⟩
   .rcases Vav.1 hz with rfl|hz
    .exact c1
    .exact c2 z hz
   .cases j with
    | zero=>
     have a1:u=u':=by simpa using hu
     have a2:y=z:=by simpa using hz
     subst a1;subst a2;exact e1.ext (λ_ h=>h) t2.ext
    | succ j=>exact e2 j u' z (by simpa using hu) (by simpa using hz)
theorem Z4j {fp:List Nat} (h:K4 P B io w tmps s ρ F (fp++fl) ok) {u:Value} {x y:V} (hg:Zcd P w ok top u x fp) (Wy:∀g,top g->io g\/B<=g) {e k:Nat} (Ym:e<=s.ep) (Y3:∀j,k<=j->j < k+64->ρ (e,j)=none/\s.heap (e,j)=none) (ht:s.takeOne e k x=some (y,s')):
  ∃ρ' F',Za6 P B io w tmps s ρ fl ok top (λid=>id.1=e/\k<=id.2/\id.2 < k+64) s' ρ' F'/\En w ok ρ' u y:=by
 have one:∀{x},Giv P w ok top u x fp->s.takeCell (e,k) x=some (y,s')->∃ρ' F',Za6 P B io w tmps s ρ fl ok top (λid=>id.1=e/\k<=id.2/\id.2 < k+64) s' ρ' F'/\En w ok ρ' u y:=by
  intro x hg ht;obtain⟨a1,a2⟩:=Y3 k (Vaw _) (by omega);obtain⟨ρ',F',h1,h2,_⟩:=Yaj h hg Wy a1 a2 Ym ht;exact⟨ρ',F',h1.mono (λid Zw=>by subst Zw;exact⟨rfl,Vaw _,by omega⟩),h2⟩
 unfold St.takeOne at ht;split at ht
 .rename_i cs
  split at ht
  .rename_i hl
   obtain⟨⟨ys,s1⟩,h1,ht⟩:=ZZc.1 ht;simp only[ZZe] at ht;obtain⟨rfl,rfl⟩:=ht;obtain⟨us,rfl,hgl⟩:=hg;obtain⟨ρ',F',t,l,c,en⟩:=Zxv cs h hgl Wy Ym (λj hj Z5=>Y3 j hj (by omega)) h1;exact⟨ρ',F',t.mono (λid Zw=>⟨Zw.1,Zw.2.1,by omega⟩),.agg (by simpa using l) c (λj v z hv hz=>en j v z (by simpa using hv) hz)⟩
  .cases ht
 .rename_i cs
  split at ht
  .rename_i hl
   obtain⟨⟨ys,s1⟩,h1,ht⟩:=ZZc.1 ht;simp only[ZZe] at ht;obtain⟨rfl,rfl⟩:=ht;obtain⟨g,cur,e',fp',rfl,hgc,hgl,rfl,htg⟩:=hg;have Yv0:((fp'++([g]++fl)):List Nat).Perm (g::fp'++fl):=by
    exact Vd3
   obtain⟨ρ1,F1,t,l,c,en⟩:=Zxv cs (fl:=[g]++fl) (h.perm Yv0) hgl Wy Ym (λj hj Z5=>Y3 j hj (by omega)) h1;obtain⟨n1,n2⟩:=Y3 (k+63) (by omega) (by omega);have hn1:ρ1 (e,k+63)=none:=by
    cases hr:ρ1 (e,k+63) with
    | none=>rfl
    | some i=>
     rcases t.dom _ (by rw[hr];rfl) with hh|⟨_,_,hh⟩
     .rw[n1] at hh;cases hh
     .simp only at hh;omega
   have hn2:s1.heap (e,k+63)=none:=by rw[t.heap _ (λhh=>by have:=hh.2.2;simp only at this;omega)];exact n2
   have Zsy:=t.rel.add (fp:=[g]) (fl:=fl) (id:=(e,k+63)) (ρ':=upd ρ1 (e,k+63) (some (.blk g 0 1 ys.length))) (b:=⟨true,true,true,0,[ys]⟩) hn2 (by rw[t.ep];exact Ym) (Jk hn1) (λid' e=>Yo e) (by
    rw[Z1];exact .mkBox rfl rfl rfl hgc rfl (by simpa using l) (λj v z hv hz=>(en j v z (by simpa using hv) hz).ext (λ_ h=>h) (Jk hn1)) c rfl) (λ_ g' Z7=>by
    have:g=g':=by simpa using Z7
    subst this;exact Wy g htg)
   refine⟨_,_,⟨Zsy,λid i hi=>Jk hn1 id i (t.ext id i hi),λid hi=>?_,t.env,t.ep,λid Zw=>?_,λg' Z7=>?_⟩,?_⟩
   .by_cases e1:id=(e,k+63)
    .subst e1;exact .inr ⟨rfl,by simp,by simp⟩
    .rw[Yo e1] at hi
     rcases t.dom id hi with hh|hh
     .exact .inl hh
     .exact .inr ⟨hh.1,hh.2.1,by omega⟩
   .rw[Xl (λhh=>Zw (by subst hh;exact⟨rfl,by simp,by simp⟩))]
    exact t.heap id (λhh=>Zw ⟨hh.1,hh.2.1,by omega⟩)
   .rcases Zza (λid' e=>Yo e) Z7 with h3|⟨_,o,c',sz,h3⟩
    .exact t.tops g' h3
    .rw[Z1] at h3
     injection h3 with h3;injection h3 with h3;subst h3;exact .inr htg
   .have:=En.ptr (w:=w) (ok:=ok) (i:=0) (off:=0) (Z1 ρ1 (e,k+63) (some (.blk g 0 1 ys.length)))
    simpa using this
  .cases ht
 .rename_i h1 h2
  exact one (by
   cases x with
   | agg cs=>exact absurd rfl (h1 cs)
   | obx cs=>exact absurd rfl (h2 cs)
   | _=>exact hg) ht
end
def Zas (s s':St) (ρ:Rho) (F:Id->List Nat) (g:Nat):Prop:=∃id b,s.heap id=some b/\b.own=true/\s'.heap id=none/\(F id).head?=some g/\Zzm (ρ id)
structure Wl (s s':St):Prop where
 env:s'.env=s.env
 ep:s'.ep=s.ep
 sub:∀id b,s'.heap id=some b->s.heap id=some b
theorem Wl.refl (s:St):Wl s s:=⟨rfl,rfl,λ_ _ h=>h⟩
theorem Wl.trans {a b c:St} (h:Wl a b) (k:Wl b c):Wl a c:=⟨k.env.trans h.env,k.ep.trans h.ep,λid x hx=>h.sub id x (k.sub id x hx)⟩
theorem Wl.none {a b:St} (h:Wl a b) {id:Id} (hn:a.heap id=none):b.heap id=none:=by
 cases hb:b.heap id with
 | none=>rfl
 | some x=>rw[h.sub id x hb] at hn;cases hn
theorem Wl.kill (s:St) (id:Id):Wl s (s.kill id):=⟨rfl,rfl,λ_ _ h=>Zcv h⟩
theorem Zas.left {a b c:St} {ρ:Rho} {F:Id->List Nat} {g:Nat} (h:Zas a b ρ F g) (k:Wl b c):Zas a c ρ F g:=by
 obtain⟨id,x,h1,h2,h3,h4⟩:=h;exact⟨id,x,h1,h2,k.none h3,h4⟩
theorem Zas.right {a b c:St} {ρ:Rho} {F:Id->List Nat} {g:Nat} (h:Zas b c ρ F g) (k:Wl a b):Zas a c ρ F g:=by
 obtain⟨id,x,h1,h2,h3,h4⟩:=h;exact⟨id,x,k.sub id x h1,h2,h3,h4⟩
theorem Giv.top {P:Program} {w:World} {ok top top':Nat->Prop} {v:Value} {x:V} {fp:List Nat} (h:Giv P w ok top v x fp) (ht:∀g,top g->top' g):Giv P w ok top' v x fp:=by
 cases h with
 | lit h=>exact .lit h
 | tr h=>exact .tr h
 | own h k=>exact .own h λg hg=>ht g (k g hg)
theorem Zkf.top {P:Program} {w:World} {ok top top':Nat->Prop} {v:List Value} {x:List V} {fp:List Nat} (h:Zkf P w ok top v x fp) (ht:∀g,top g->top' g):Zkf P w ok top' v x fp:=by
 induction h with
 | nil=>exact .nil
 | cons h _ ih=>exact .cons (h.top ht) ih
theorem Zcd.top {P:Program} {w:World} {ok top top':Nat->Prop} {v:Value} {x:V} {fp:List Nat} (h:Zcd P w ok top v x fp) (ht:∀g,top g->top' g):Zcd P w ok top' v x fp:=by
 cases x
 case agg cs=>obtain⟨us,h1,h2⟩:=h;exact⟨us,h1,h2.top ht⟩
 case obx cs=>obtain⟨g,cur,e,fp',h1,h2,h3,h4,h5⟩:=h;exact⟨g,cur,e,fp',h1,h2,h3.top ht,h4,ht g h5⟩
 all_goals exact Giv.top h ht
section
variable {P:Program} {B:Nat} {io:Nat->Prop} {w w':World} {tmps:Array Value} {s s' s1:St} {ρ ρ':Rho} {F F':Id->List Nat} {fl fl':List Nat} {ok ok' top:Nat->Prop}
theorem Zyr (h:Wl s s') {g:Nat} (hg:okS s ρ w g):okS s' ρ w g:=
 ⟨λ⟨id,b,o,c,sz,h1,h2,h3⟩=>hg.1 ⟨id,b,o,c,sz,h.sub id b h1,h2,h3⟩,hg.2⟩
theorem Rel.head_tops (h:Rel P B io w tmps s ρ F fl) {id:Id} {b:Blk} {g:Nat} (hb:s.heap id=some b) (ho:b.own=true) (hg:(F id).head?=some g):tops s ρ g:=by
 have hB:=h.heap id b hb;unfold Xg at hB;split at hB
 .obtain⟨_,g',cur,e,row,hi,_,_,_,_,_,hF⟩:=hB
  rw[hF] at hg;have:g'=g:=by simpa using hg
  subst this;exact⟨id,b,_,_,_,hb,ho,hi⟩
 .rcases hB with⟨_,_,hF⟩|⟨g',o',c',cur,hi,_,_,_,_,_,fp,hF,_⟩
  .rw[hF] at hg;simp at hg
  .rw[hF] at hg
   have:g'=g:=by simpa using hg
   subst this;exact⟨id,b,_,_,_,hb,ho,hi⟩
 .rename_i h2;rw[ho] at h2;cases h2
theorem Z1n (h:Rel P B io w tmps s ρ F fl) {u:Value} {x y:V} {t:Option TypeId} (hu:En w ok ρ u x) (Y2:∀g,ok g->okS s ρ w g) (hg:s.giveCell t x=some (y,s')):
  ∃fp,Rel P B io w tmps s' ρ F (fp++fl)/\Giv P w ok (Zas s s' ρ F) u y fp/\Wl s s':=by
 unfold St.giveCell at hg;split at hg
 .obtain⟨e,_,he⟩:=ZZc.1 hg
  simp only[ZZe] at he;obtain⟨rfl,rfl⟩:=he;cases hu;exact⟨[],h,.own (.inl ⟨none,rfl,rfl,rfl⟩) (λg hg=>by simp at hg),.refl _⟩
 .simp only[ZZd,ZZe] at hg
  obtain⟨rfl,rfl⟩:=hg;cases hu with|lit hs=>exact⟨[],h,.lit hs,.refl _⟩
 .simp only[ZZd,ZZe] at hg
  obtain⟨rfl,rfl⟩:=hg;cases hu with|tr hr=>exact⟨[],h,.tr hr,.refl _⟩
 .simp only[ZZd,ZZe] at hg
  obtain⟨rfl,rfl⟩:=hg;cases hu with|vw hr=>exact⟨[],h,.tr hr,.refl _⟩
 .rename_i id off len
  obtain⟨⟨e,rows⟩,hw,he⟩:=ZZc.1 hg;simp only[ZZe] at he;obtain⟨rfl,rfl⟩:=he;obtain⟨fp,hR,hO,hh⟩:=h.whole2 (hu.ext Y2 (λ_ _ h=>h)) hw;refine⟨fp,hR,.own hO (λg hg=>?_),.kill s id⟩;unfold St.whole at hw;obtain⟨b,hb,hw⟩:=ZZb.1 hw;split at hw
  .rename_i hc
   exact⟨id,b,hb,hc.2.1,Q7,(hh g hg).1,(hh g hg).2⟩
  .cases hw
 .cases hg
theorem Z6r:∀(xs:List V) {us:List Value} {ts:List (Option TypeId)} {s s':St} {fl:List Nat} {ys:List V},Rel P B io w tmps s ρ F fl->us.length=xs.length->(∀(j:Nat) (u:Value) (x:V),us[j]?=some u->xs[j]?=some x->En w ok ρ u x)->
  (∀g,ok g->okS s ρ w g)->s.giveCells ts xs=some (ys,s')->∃fp,Rel P B io w tmps s' ρ F (fp++fl)/\Zkf P w ok (Zas s s' ρ F) us ys fp/\Wl s s'/\ys.length=xs.length:=by
 intro xs
 induction xs with
 | nil=>
  intro us ts s s' fl ys h hl Xh Y2 hg;have:us=[]:=Vas (by simpa using hl);subst this;simp only[St.giveCells,ZZd,ZZe] at hg;obtain⟨rfl,rfl⟩:=hg;exact⟨[],h,.nil,.refl _,rfl⟩
 | cons x xs ih=>
  intro us ts s s' fl ys h hl Xh Y2 hg
  match us,hl with
  | u::us,hl=>
   simp only[St.giveCells] at hg;obtain⟨⟨y,s1⟩,h1,hg⟩:=ZZb.1 hg;obtain⟨⟨zs,s2⟩,h2,hg⟩:=ZZc.1 hg;simp only[ZZe] at hg;obtain⟨rfl,rfl⟩:=hg;simp only at h2;obtain⟨f1,r1,g1,l1⟩:=Z1n h (Xh 0 u x rfl rfl) Y2 h1;obtain⟨f2,r2,g2,l2,l3⟩:=ih r1 (by simpa using hl) (λj v z hv hz=>Xh (j+1) v z (by simpa using hv) (by simpa using hz)) (λg hg=>Zyr l1 (Y2 g hg)) h2;refine⟨f1++f2,r2.perm ?_,.cons (g1.top λg hg=>hg.left l2) (g2.top λg hg=>hg.right l1),l1.trans l2,by simp[l3]⟩;rw[List.append_assoc];exact (Vbo _ _ _)
theorem Z3l (h:Rel P B io w tmps s ρ F fl) {ts:List (Option TypeId)} {u:Value} {x y:V} (hu:En w ok ρ u x) (Y2:∀g,ok g->okS s ρ w g) (hg:s.giveArg ts x=some (y,s')):
  ∃fp,Rel P B io w tmps s' ρ F (fp++fl)/\Zcd P w ok (Zas s s' ρ F) u y fp/\Wl s s':=by
 unfold St.giveArg at hg;split at hg
 .rename_i cs
  obtain⟨⟨ys,s1⟩,h1,he⟩:=ZZc.1 hg;simp only[ZZe] at he;obtain⟨rfl,rfl⟩:=he;cases hu with
  | @agg vs _ hl hc hr=>
   obtain⟨fp,a,b,c,_⟩:=Z6r cs (us:=vs.toList) h (by simpa using hl) (λj v z hv hz=>hr j v z (by simpa using hv) hz) Y2 h1;exact⟨fp,a,⟨vs,rfl,b⟩,c⟩
 .rename_i Yf
  obtain⟨fp,a,b,c⟩:=Z1n h hu Y2 hg;refine⟨fp,a,?_,c⟩;cases b with
  | lit h=>exact .lit h
  | tr h=>exact .tr h
  | own h k=>exact .own h k
theorem Z4f (h:Rel P B io w tmps s ρ F fl) {ts:List (Option TypeId)} {u:Value} {id:Id} {ys:List V} (hu:En w ok ρ u (.ptr id 0 0)) (Y2:∀g,ok g->okS s ρ w g) (hbx:∀b row,s.heap id=some b->b.rows=[row]->b.box=true->∀(j:Nat) (cur:Array Value) (e:TypeId) (g o c sz:Nat) (v:Value) (x:V),ρ id=some (.blk g o c sz)->w.heap[g]?=some (.cells cur e (0,0))->cur[j]?=some v->row[j]?=some x->En w ok ρ v x)
  (hg:s.giveBox ts id=some (ys,s')):∃fp,Rel P B io w tmps s' ρ F (fp++fl)/\Zcd P w ok (Zas s s' ρ F) u (.obx ys) fp/\Wl s s'/\∃g,ρ id=some (.blk g 0 1 ys.length):=by
 unfold St.giveBox at hg;obtain⟨b,hb,hg⟩:=ZZb.1 hg;split at hg
 .rename_i hc
  obtain⟨Xi,Yc⟩:=hc;split at hg
  .rename_i row hr
   have hB:=h.heap id b hb;unfold Xg at hB;rw[Xi] at hB;obtain⟨_,g,cur,e,row',hi,hgc,Jx,hs,he,hce,hF⟩:=hB;rw[hr] at Jx;injection Jx with Jx _;subst Jx;have Q9:=h.float hb Yc;obtain⟨fp,a,b',c,d⟩:=Z6r row (us:=cur.toList) Q9 (by simpa using hs) (λj v z hv hz=>hbx b row hb hr Xi j cur e g _ _ _ v z hi hgc (by simpa using hv) hz) (λg hg=>Zyr (.kill s id) (Y2 g hg)) hg;rw[hF] at a;refine⟨g::fp,a.perm (Vd3 (l₁:=fp) (l₂:=fl)).symm,?_,(Wl.kill s id).trans c,g,by rw[d];exact hi⟩;generalize hq:(V.ptr id 0 0)=q at hu;cases hu<;>cases hq;rename_i g' o' c' sz hρ;rw[hi] at hρ;injection hρ with hρ;injection hρ with h1 h2 h3 h4;subst h1;subst h2;refine⟨g,cur,e,fp,by simp,hgc,b'.top (λg hg=>hg.right (.kill s id)),rfl,⟨id,b,hb,Yc,c.none Q7,by rw[hF];rfl,g,0,1,_,hi,Nat.one_pos⟩⟩
  .cases hg
 .cases hg
end
def ArgR (P:Program) (w:World) (ok top:Nat->Prop) (m:Yh) (u:Value) (x:V) (fp:List Nat):Prop:=
 match m with
 | .rd=>(∀ρ,En w ok ρ u x)/\fp=[]
 | .io=>∃cs,x=.agg cs/\Zcd P w ok top u (.obx cs) fp
 | .mv|.iov=>(∀cs,x≠.obx cs)/\Zcd P w ok top u x fp
inductive Zt6 (P:Program) (w:World) (ok top:Nat->Prop):List Yh->List Value->List V->List Nat->Prop
 | nil {ms:List Yh}:Zt6 P w ok top ms [] [] []
 | cons {ms:List Yh} {u:Value} {us:List Value} {x:V} {xs:List V} {f1 f2:List Nat} (h:ArgR P w ok top (ms.headD .rd) u x f1) (hs:Zt6 P w ok top ms.tail us xs f2):Zt6 P w ok top ms (u::us) (x::xs) (f1++f2)
def ArgP (P:Program) (w:World) (ok top:Nat->Prop) (ρ:Rho) (m:Yh) (u:Value) (x:V) (fp:List Nat):Prop:=
 match m with
 | .rd=>En w ok ρ u x/\fp=[]
 | .io=>∃cs,x=.agg cs/\Zcd P w ok top u (.obx cs) fp
 | .mv|.iov=>(∀cs,x≠.obx cs)/\Zcd P w ok top u x fp
inductive Z0k (P:Program) (w:World) (ok top:Nat->Prop) (ρ:Rho):List Yh->List Value->List V->List Nat->Prop
 | nil {ms:List Yh}:Z0k P w ok top ρ ms [] [] []
 | cons {ms:List Yh} {u:Value} {us:List Value} {x:V} {xs:List V} {f1 f2:List Nat} (h:ArgP P w ok top ρ (ms.headD .rd) u x f1) (hs:Z0k P w ok top ρ ms.tail us xs f2):Z0k P w ok top ρ ms (u::us) (x::xs) (f1++f2)
theorem Giv.okm {P:Program} {w:World} {ok ok' top:Nat->Prop} {v:Value} {x:V} {fp:List Nat} (h:Giv P w ok top v x fp) (ht:∀g,ok g->ok' g):Giv P w ok' top v x fp:=by
 cases h with
 | lit h=>exact .lit h
 | tr h=>exact .tr (Rd.okm h ht)
 | own h k=>exact .own h k
theorem Zkf.okm {P:Program} {w:World} {ok ok' top:Nat->Prop} {v:List Value} {x:List V} {fp:List Nat} (h:Zkf P w ok top v x fp) (ht:∀g,ok g->ok' g):Zkf P w ok' top v x fp:=by
 induction h with
 | nil=>exact .nil
 | cons h _ ih=>exact .cons (h.okm ht) ih
theorem Zcd.okm {P:Program} {w:World} {ok ok' top:Nat->Prop} {v:Value} {x:V} {fp:List Nat} (h:Zcd P w ok top v x fp) (ht:∀g,ok g->ok' g):Zcd P w ok' top v x fp:=by
 cases x
 case agg cs=>obtain⟨us,h1,h2⟩:=h;exact⟨us,h1,h2.okm ht⟩
 case obx cs=>obtain⟨g,cur,e,fp',h1,h2,h3,h4,h5⟩:=h;exact⟨g,cur,e,fp',h1,h2,h3.okm ht,h4,h5⟩
 all_goals exact Giv.okm h ht
theorem ArgP.top {P:Program} {w:World} {ok top top':Nat->Prop} {ρ:Rho} {m:Yh} {u:Value} {x:V} {fp:List Nat} (h:ArgP P w ok top ρ m u x fp) (ht:∀g,top g->top' g):ArgP P w ok top' ρ m u x fp:=by
 cases m
 .exact h
 .obtain⟨cs,h1,h2⟩:=h;exact⟨cs,h1,h2.top ht⟩
 .exact⟨h.1,h.2.top ht⟩
 .exact⟨h.1,h.2.top ht⟩
theorem Z0k.top {P:Program} {w:World} {ok top top':Nat->Prop} {ρ:Rho} {ms:List Yh} {us:List Value} {xs:List V} {fp:List Nat} (h:Z0k P w ok top ρ ms us xs fp) (ht:∀g,top g->top' g):Z0k P w ok top' ρ ms us xs fp:=by
 induction h with
 | nil=>exact .nil
 | cons h _ ih=>exact .cons (h.top ht) ih
section
variable {P:Program} {B:Nat} {io:Nat->Prop} {w w':World} {tmps:Array Value} {s s' s1:St} {ρ ρ':Rho} {F F':Id->List Nat} {fl fl':List Nat} {ok ok' top:Nat->Prop}
theorem Rel.boxCellsEn (h:Rel P B io w tmps s ρ F fl) {id:Id}:∀b row,s.heap id=some b->b.rows=[row]->b.box=true->∀(j:Nat) (cur:Array Value) (e:TypeId) (g o c sz:Nat) (v:Value) (x:V),ρ id=some (.blk g o c sz)->w.heap[g]?=some (.cells cur e (0,0))->cur[j]?=some v->row[j]?=some x->En w (okS s ρ w) ρ v x:=by
 intro b row hb hr Xi j cur e g o c sz v x hρ hg hv hx;have hB:=h.heap id b hb;unfold Xg at hB;rw[Xi] at hB;obtain⟨_,g',cur',e',row',hi,hgc,Jx,hs,he,hce,hF⟩:=hB;rw[hr] at Jx;injection Jx with Jx _;subst Jx;rw[hρ] at hi;injection hi with hi;injection hi with h1;subst h1;rw[hg] at hgc;injection hgc with hgc;injection hgc with h1;subst h1;exact he j v x hv hx
theorem Yax {ts:List (Option TypeId)} {x y:V} (h1:s.giveArg ts x=some (y,s')):∀cs,y≠.obx cs:=λcs e=>by
 subst e;unfold St.giveArg at h1;split at h1
 .obtain⟨_,_,he⟩:=ZZc.1 h1;simp at he
 .unfold St.giveCell at h1
  split at h1<;>simp at h1
theorem En.thin1 {u:Value} {x:V} (h:En w ok ρ u x):En w ok ρ u (Ev.thin1 x):=by
 unfold Ev.thin1;split
 .cases h with
  | sl=>exact .tr .emp
  | sle=>exact .tr .emp
 .exact h
theorem Yj6 {x:V} (h:cellish x=true):cellish (thin1 x)=true:=by
 unfold thin1;split
 .rfl
 .exact h
theorem En.thin {u:Value} {x:V} (h:En w ok ρ u x):En w ok ρ u (Ev.thin x):=by
 unfold Ev.thin;split
 .rename_i cs
  cases h with
  | agg hl hc hr=>
   refine .agg (by simpa using hl) (λy hy=>?_) (λk v y hv hy=>?_)
   .obtain⟨z,hz,rfl⟩:=Vbd.1 hy
    exact Yj6 (hc z hz)
   .rw[Va8] at hy
    obtain⟨z,hz,rfl⟩:=ZZc.1 hy;exact (hr k v z hv hz).thin1
 .exact h.thin1
theorem Yzu (h0:Rel P B io w tmps s ρ F fl):∀(xs:List V) {us:List Value} {ts:List TypeId} {ms:List Yh} {s1 s':St} {fl1:List Nat} {ys:List V},Rel P B io w tmps s1 ρ F fl1->Wl s s1->us.length=xs.length->
  (∀(j:Nat) (u:Value) (x:V),us[j]?=some u->xs[j]?=some x->En w (okS s ρ w) ρ u x)->s1.gives P ts ms xs=some (ys,s')->∃fp,Rel P B io w tmps s' ρ F (fp++fl1)/\Z0k P w (okS s ρ w) (Zas s1 s' ρ F) ρ ms us ys fp/\Wl s1 s':=by
 intro xs
 induction xs with
 | nil=>
  intro us ts ms s1 s' fl1 ys h Ku hl Xh hg;have:us=[]:=Vas (by simpa using hl);subst this;simp only[St.gives,ZZd,ZZe] at hg;obtain⟨rfl,rfl⟩:=hg;exact⟨[],h,.nil,.refl _⟩
 | cons x xs ih=>
  intro us ts ms s1 s' fl1 ys h Ku hl Xh hg
  match us,hl with
  | u::us,hl=>
   simp only[St.gives] at hg;obtain⟨⟨y,s2⟩,h1,hg⟩:=ZZb.1 hg;obtain⟨⟨zs,s3⟩,h2,hg⟩:=ZZc.1 hg;simp only[ZZe] at hg;obtain⟨rfl,rfl⟩:=hg;simp only at h2;have hu:=Xh 0 u x rfl rfl;have Y2:∀g,okS s ρ w g->okS s1 ρ w g:=λg hg=>Zyr Ku hg;have one:∃fp,Rel P B io w tmps s2 ρ F (fp++fl1)/\ArgP P w (okS s ρ w) (Zas s1 s2 ρ F) ρ (ms.headD .rd) u y fp/\Wl s1 s2:=by
    unfold St.give at h1;split at h1
    .rename_i hm
     simp only[ZZd,ZZe] at h1;obtain⟨rfl,rfl⟩:=h1;rw[hm];exact⟨[],h,⟨hu,rfl⟩,.refl _⟩
    .rename_i hm
     rw[hm];split at h1
     .rename_i bid _
      obtain⟨⟨cs,s4⟩,h3,he⟩:=ZZc.1 h1;simp only[ZZe] at he;obtain⟨rfl,rfl⟩:=he;obtain⟨fp,a,b,c,_⟩:=Z4f h hu Y2 (λb row hb=>h0.boxCellsEn b row (Ku.sub bid b hb)) h3;exact⟨fp,a,⟨cs,rfl,b⟩,c⟩
     .cases h1
    .rename_i hm
     rw[hm];obtain⟨fp,a,b,c⟩:=Z3l h hu Y2 h1;exact⟨fp,a,⟨Yax h1,b⟩,c⟩
    .rename_i hm
     rw[hm];obtain⟨fp,a,b,c⟩:=Z3l h hu.thin Y2 h1;exact⟨fp,a,⟨Yax h1,b⟩,c⟩
   obtain⟨f1,r1,a1,l1⟩:=one;obtain⟨f2,r2,a2,l2⟩:=ih r1 (Ku.trans l1) (by simpa using hl) (λj v z hv hz=>Xh (j+1) v z (by simpa using hv) (by simpa using hz)) h2;refine⟨f1++f2,r2.perm ?_,.cons (a1.top λg hg=>hg.left l2) (a2.top λg hg=>hg.right l1),l1.trans l2⟩;rw[List.append_assoc];exact (Vbo _ _ _)
def Zxg (s1:St) (ρ:Rho) (ok:Nat->Prop):Prop:=∀id b g o c sz,s1.heap id=some b->b.own=true->ρ id=some (.blk g o c sz)->ok g
theorem Yik (h:Rel P B io w tmps s ρ F fl) (hl:Wl s s1) {u:Value} {x y:V} (hu:En w (okS s ρ w) ρ u x) (Y2:∀g,okS s ρ w g->ok' g) (hp:Zvj x=true\/Zxg s1 ρ ok') (hr:s1.rdCell x=some y):Rd w ok' u y:=by
 unfold St.rdCell at hr;split at hr
 .simp only[ZZd] at hr;subst hr;cases hu;exact .emp
 .simp only[ZZd] at hr;subst hr;cases hu with|lit h=>exact .lit h
 .simp only[ZZd] at hr;subst hr;cases hu with|tr h=>exact h.okm Y2
 .simp only[ZZd] at hr;subst hr;cases hu with|vw h=>exact h.okm Y2
 .rename_i id off len
  obtain⟨rows,X3,rfl⟩:=ZZc.1 hr;have hal:Zxg s1 ρ ok':=by
   rcases hp with hp|hp
   .simp[Zvj] at hp
   .exact hp
  have Zzq:s.rowsOf (.sl id off len)=some rows:=by
   simp only[St.rowsOf] at X3 ⊢;obtain⟨b,hb,hh⟩:=ZZb.1 X3;rw[hl.sub id b hb];exact hh
  have Z8h:∃b,s1.heap id=some b:=by
   unfold St.rowsOf at X3;obtain⟨b,hb,_⟩:=ZZb.1 X3;exact⟨b,hb⟩
  refine h.rowsOf hu Zzq Y2 (λid' off' len' b g o c sz e hb ho hρ _ _=>?_);cases e;obtain⟨b',Yb⟩:=Z8h;have:=hl.sub id b' Yb;rw[hb] at this;injection this with this;subst this;exact hal id b g o c sz Yb ho hρ
 .simp only[ZZd] at hr
  subst hr;cases hu with
  | rp h=>
   cases h with
   | rp hg hu hr=>exact (Rd.rp hg hu hr).okm Y2
 .cases hr
theorem Yeh (h:Rel P B io w tmps s ρ F fl) (hl:Wl s s1) (Y2:∀g,okS s ρ w g->ok' g):∀(xs:List V) {ys:List V} {us:Nat->Value},(∀(j:Nat) (x:V),xs[j]?=some x->En w (okS s ρ w) ρ (us j) x)->(xs.all Zvj=true\/Zxg s1 ρ ok')->s1.rdCells xs=some ys->
  ys.length=xs.length/\∀(j:Nat) (y:V),ys[j]?=some y->Rd w ok' (us j) y:=by
 intro xs
 induction xs with
 | nil=>
  intro ys us _ _ hr;simp only[St.rdCells,ZZd] at hr;subst hr;exact⟨rfl,λj y hy=>by simp at hy⟩
 | cons x xs ih=>
  intro ys us Xh hp hr;simp only[St.rdCells] at hr;obtain⟨y,h1,hr⟩:=ZZb.1 hr;obtain⟨zs,h2,rfl⟩:=ZZc.1 hr;obtain⟨l,e⟩:=ih (us:=λj=>us (j+1)) (λj z hz=>Xh (j+1) z (by simpa using hz)) (hp.imp (λh=>by simp only[Va6,ZZg] at h;exact h.2) (λh=>h)) h2;refine⟨by simp[l],λj z hz=>?_⟩;cases j with
  | zero=>
   have:y=z:=by simpa using hz
   subst this;exact Yik h hl (Xh 0 x rfl) Y2 (hp.imp (λh=>by simp only[Va6,ZZg] at h;exact h.1) (λh=>h)) h1
  | succ j=>exact e j z (by simpa using hz)
theorem Yez (h:Rel P B io w tmps s ρ F fl) (hl:Wl s s1) {u:Value} {x y:V} (hu:En w (okS s ρ w) ρ u x) (Y2:∀g,okS s ρ w g->ok' g) (hp:Zvj x=true\/Zxg s1 ρ ok') (hr:s1.rdPlace x=some y):Rd w ok' u y:=by
 unfold St.rdPlace at hr;split at hr
 .rename_i id i off
  obtain⟨b,hb,hr⟩:=ZZb.1 hr;split at hr
  case isFalse=>cases hr
  rename_i Yc;obtain⟨row,Yx,hr⟩:=ZZb.1 hr;obtain⟨cs,Kj,rfl⟩:=ZZc.1 hr;have hal:Zxg s1 ρ ok':=by
   rcases hp with hp|hp
   .simp[Zvj] at hp
   .exact hp
  have hb0:=hl.sub id b hb;generalize hq:V.ptr id i off=q at hu;cases hu<;>cases hq;rename_i g o c sz hρ;have Zcq:∀(j:Nat) (x:V),row[j]?=some x->∃u,w.cell? ⟨g,o+i*sz+j,none⟩=some u/\En w (okS s ρ w) ρ u x:=λj x hx=>by
   obtain⟨u,h1,h2,h3⟩:=h.cell hb0 hρ Yx hx;cases Xi:b.box with
   | true=>exact⟨u,h1,h2 Xi⟩
   | false=>exact⟨u,h1,(h3 Xi).en⟩
  have each:∀j,∃u:Value,∀x,row[j]?=some x->w.cell? ⟨g,o+i*sz+j,none⟩=some u/\En w (okS s ρ w) ρ u x:=λj=>by
   cases hj:row[j]? with
   | none=>exact⟨undef,λx hx=>by cases hx⟩
   | some z=>
    obtain⟨u,h1,h2⟩:=Zcq j z hj;exact⟨u,λx hx=>by injection hx with hx;subst hx;exact⟨h1,h2⟩⟩
  obtain⟨uf,huf⟩:=Vc9 each;obtain⟨l,e⟩:=Yeh h hl Y2 row (us:=uf) (λj x hx=>(huf j x hx).2) (.inr hal) Kj;refine .rp (u:=uf) (hal id b g o c sz hb Yc hρ) (λj y hy=>?_) (λj y hy=>e j y hy);have Z5:=(ZZh.1 hy).1;exact (huf j _ (Vac (by omega))).1
 .exact Yik h hl hu Y2 hp hr
theorem Yr2 (h:Rel P B io w tmps s ρ F fl) (hl:Wl s s1) (Y2:∀g,okS s ρ w g->ok' g):∀(xs:List V) {ys:List V} {us:Nat->Value},(∀(j:Nat) (x:V),xs[j]?=some x->En w (okS s ρ w) ρ (us j) x)->(xs.all Zvj=true\/Zxg s1 ρ ok')->s1.rdPlaces xs=some ys->
  ys.length=xs.length/\∀(j:Nat) (y:V),ys[j]?=some y->Rd w ok' (us j) y:=by
 intro xs
 induction xs with
 | nil=>
  intro ys us _ _ hr;simp only[St.rdPlaces,ZZd] at hr;subst hr;exact⟨rfl,λj y hy=>by simp at hy⟩
 | cons x xs ih=>
  intro ys us Xh hp hr;simp only[St.rdPlaces] at hr;obtain⟨y,h1,hr⟩:=ZZb.1 hr;obtain⟨zs,h2,rfl⟩:=ZZc.1 hr;obtain⟨l,e⟩:=ih (us:=λj=>us (j+1)) (λj z hz=>Xh (j+1) z (by simpa using hz)) (hp.imp (λh=>by simp only[Va6,ZZg] at h;exact h.2) (λh=>h)) h2;refine⟨by simp[l],λj z hz=>?_⟩;cases j with
  | zero=>
   have:y=z:=by simpa using hz
   subst this;exact Yez h hl (Xh 0 x rfl) Y2 (hp.imp (λh=>by simp only[Va6,ZZg] at h;exact h.1) (λh=>h)) h1
  | succ j=>exact e j z (by simpa using hz)
theorem Yze (h:Rel P B io w tmps s ρ F fl) (hl:Wl s s1) {u:Value} {x y:V} (hu:En w (okS s ρ w) ρ u x) (Y2:∀g,okS s ρ w g->ok' g) (hp:plain x=true\/Zxg s1 ρ ok') (hr:s1.rdArg x=some y) (ρ':Rho):En w ok' ρ' u y:=by
 unfold St.rdArg at hr;split at hr
 .rename_i cs
  obtain⟨ys,h1,rfl⟩:=ZZc.1 hr;cases hu with
  | @agg vs _ Yl hc hr=>
   obtain⟨l,e⟩:=Yeh h hl Y2 cs (us:=λj=>vs.getD j undef) (λj x hx=>by
    have Z5:=(ZZh.1 hx).1;have hv:vs[j]?=some vs[j]:=Vaf (by omega);rw[Vbg,hv];exact hr j _ x hv hx) hp h1
   refine .agg (by omega) (λy hy=>?_) (λj v y hv hy=>?_)
   .obtain⟨j,hj⟩:=Va1 hy
    exact (e j y hj).cellish
   .have:=e j y hy
    rw[Vbg,hv] at this;exact this.en
 .rename_i f caps
  obtain⟨ys,h1,rfl⟩:=ZZc.1 hr;cases hu with
  | @fn _ vs _ Yl hr=>
   obtain⟨l,e⟩:=Yr2 h hl Y2 caps (us:=λj=>vs.getD j undef) (λj x hx=>by
    have Z5:=(ZZh.1 hx).1;have hv:vs[j]?=some vs[j]:=Vaf (by omega);rw[Vbg,hv];exact hr j _ x hv hx) hp h1
   refine .fn (by omega) (λj v y hv hy=>?_);have:=e j y hy;rw[Vbg,hv] at this;exact this.en
 .rename_i h1 h2
  refine (Yez h hl hu Y2 (hp.imp (λhp=>?_) (λh=>h)) hr).en;cases x<;>first|exact hp|exact absurd rfl (h1 _)|exact absurd rfl (h2 _ _)
theorem Yl8 (h:Rel P B io w tmps s ρ F fl) (hl:Wl s s1) (Y2:∀g,okS s ρ w g->ok' g):∀{ms:List Yh} {us:List Value} {xs ys:List V} {fp:List Nat},Z0k P w (okS s ρ w) top ρ ms us xs fp->(Zmc ms xs=true\/Zxg s1 ρ ok')->s1.rdAll ms xs=some ys->Zt6 P w ok' top ms us ys fp:=by
 intro ms us xs ys fp ha
 induction ha generalizing ys with
 | nil=>
  intro _ hr;simp only[St.rdAll,ZZd] at hr;subst hr;exact .nil
 | @cons ms u us x xs f1 f2 hx hxs ih=>
  intro hp hr;simp only[St.rdAll] at hr;obtain⟨y,h1,hr⟩:=ZZb.1 hr;obtain⟨zs,h2,rfl⟩:=ZZc.1 hr;refine .cons ?_ (ih (hp.imp (λh=>by simp only[Zmc,ZZg] at h;exact h.2) (λh=>h)) h2);have hp1:=hp.imp (λh=>by simp only[Zmc,ZZg] at h;exact h.1) (λh:Zxg s1 ρ ok'=>h);cases hm:ms.headD .rd with
  | rd=>
   rw[hm] at hx h1 hp1;simp only[St.rdArgM] at h1;simp only[Ymm] at hp1;exact⟨λρ'=>Yze h hl hx.1 Y2 hp1 h1 ρ',hx.2⟩
  | io=>
   rw[hm] at hx h1;simp only[St.rdArgM,ZZd] at h1;subst h1;obtain⟨cs,h1,h2⟩:=hx;exact⟨cs,h1,h2.okm Y2⟩
  | mv=>
   rw[hm] at hx h1;simp only[St.rdArgM,ZZd] at h1;subst h1;exact⟨hx.1,hx.2.okm Y2⟩
  | iov=>
   rw[hm] at hx h1;simp only[St.rdArgM,ZZd] at h1;subst h1;exact⟨hx.1,hx.2.okm Y2⟩
end
end Go.Proofs.YtagdmghmblplbaaGreat.Ev
