/- A part of the proof of FnExactReadScript: see the text YthdljdelfgofdaaGreatDoorLawFnExactReadScript for what is proved and its conditions. Conditions here: those in each line. -/
import Derived.Below
import Derived.Calls
import Derived.Great.BuildSlice
import Derived.Laws.Append
import Derived.Laws.AppendOwn
import Derived.Laws.BytesString
import Derived.Laws.Cells
import Derived.Laws.CopyRow
import Derived.Laws.Entries
import Derived.Laws.MakeOwn
import Derived.Laws.NewBlocks
import Derived.Laws.Rows
import Derived.Laws.Sem
import Derived.Laws.Slices
import Derived.Laws.Tables
import Derived.Orders
import Derived.Test.YthdljdelfgofdaaGreatDoorProg
set_option linter.unusedSimpArgs false
set_option linter.unusedVariables false
set_option linter.unusedSectionVars false
namespace Go.Proofs.YthdljdelfgofdaaGreatDoor.Ev
open Go
abbrev Vaa:=@List.mem_cons_self
abbrev Vab:=@List.getElem?_eq_getElem
abbrev Vac:=@List.mem_cons_of_mem
abbrev Vad:=@List.length_cons
abbrev Vae:=@List.mem_append_left
abbrev Vaf:=@Nat.le_refl
abbrev Vag:=@List.mem_of_getElem?
abbrev Vah:=@Array.getElem?_eq_getElem
abbrev Vai:=@List.getElem_mem
abbrev Vaj:=@List.getElem?_append_right
abbrev Vak:=@List.mem_append
abbrev Val:=@List.getElem?_take
abbrev Vam:=@List.getElem?_append_left
abbrev Van:=@Array.getElem?_eq_some_iff
abbrev Vao:=@List.mem_append_right
abbrev Vap:=@List.mem_cons
abbrev Vaq:=@Option.isSome_iff_exists
abbrev Var:=@List.eq_nil_of_length_eq_zero
abbrev Vas:=@List.length_append
abbrev Vat:=@List.nodup_append
abbrev Vau:=@List.map_cons
abbrev Vav:=@Option.map_some
abbrev Vaw:=@List.getElem?_drop
abbrev Vax:=@List.flatten_cons
abbrev Vay:=@List.getElem?_map
abbrev Vaz:=@List.nodup_cons
abbrev Va0:=@Option.getD_some
abbrev Va1:=@List.length_nil
abbrev Va2:=@List.getElem?_of_mem
abbrev Va3:=@Nat.lt_of_lt_of_le
abbrev Va4:=@List.mem_map
abbrev Va5:=@Nat.add_zero
abbrev Va6:=@List.sublist_append_right
abbrev Va7:=@List.take_of_length_le
abbrev Va8:=@List.getD_eq_getElem?_getD
abbrev Va9:=@List.mem_of_mem_drop
abbrev Vba:=@List.mem_of_mem_take
abbrev Vbb:=@Nat.zero_le
abbrev Vbc:=@List.all_cons
abbrev Vbd:=@List.getElem?_cons_zero
abbrev Vbe:=@List.drop_eq_getElem_cons
abbrev Vbf:=@Array.getElem?_setIfInBounds
abbrev Vbg:=@List.take_succ_eq_append_getElem
abbrev Vbh:=@List.flatMap_cons
abbrev Vbi:=@Array.getD_eq_getD_getElem?
abbrev Vbj:=@List.drop_eq_nil_of_le
abbrev Vbk:=@Nat.zero_add
abbrev Vbl:=@List.length_pos_iff
abbrev Vbm:=@List.perm_append_comm_assoc
abbrev Vbn:=@Array.getElem?_append_left
abbrev Vbo:=@List.foldl_cons
abbrev Vbp:=@List.mem_replicate
abbrev Vbq:=@Nat.add_sub_cancel_left
abbrev Vbr:=@Nat.mul_le_mul_right
abbrev Vbs:=@List.mem_flatten
abbrev Vbt:=@List.map_append
abbrev Vbu:=@Nat.succ_mul
abbrev Vbv:=@Nat.lt_or_ge
abbrev Vbw:=@List.map_nil
abbrev Vbx:=@Bool.or_eq_false_iff
abbrev Vby:=@List.Sublist.refl
abbrev Vbz:=@List.cons_append
abbrev Vb0:=@List.getElem?_eq_none
abbrev Vb1:=@Classical.choose_spec
abbrev Vb2:=@List.append_nil
abbrev Vb3:=@Bool.or_eq_true
abbrev Vb4:=@Function.comp_def
abbrev Vb5:=@Bool.not_eq_true'
abbrev Vb6:=@List.map_congr_left
abbrev Vb7:=@Option.getD_none
abbrev Vb8:=@List.take_length
abbrev Vb9:=@Option.isSome_some
abbrev Vca:=@List.map_map
abbrev Vcb:=@List.length_map
abbrev Vcc:=@List.mem_filter
abbrev Vcd:=@List.cons.injEq
abbrev Vce:=@Array.size_append
abbrev Vcf:=@Nat.le_trans
abbrev Vcg:=@Nat.le_of_not_lt
abbrev Vch:=@List.perm_middle
abbrev Vci:=@List.Sublist.append
abbrev Vcj:=@List.any_cons
abbrev Vck:=@Bool.true_and
abbrev Vcl:=@List.mem_filterMap
abbrev Vcm:=@List.ext_getElem?
abbrev Vcn:=@List.getElem?_toArray
abbrev Vco:=@List.perm_append_comm
abbrev Vcp:=@Array.getElem?_toList
abbrev Vcq:=@List.nodup_nil
abbrev Vcr:=@List.drop_zero
abbrev Vcs:=@Option.none_or
abbrev Vct:=@List.length_take
abbrev Vcu:=@List.mem_flatMap
abbrev Vcv:=@Bool.and_self
abbrev Vcw:=@List.length_set
abbrev Vcx:=@List.nil_append
abbrev Vcy:=@Option.map_none
abbrev Vcz:=@List.getElem?_eq_none_iff
abbrev Vc0:=@Nat.pow_succ
abbrev Vc1:=@Eq.trans
abbrev Vc2:=@Bool.false_and
abbrev Vc3:=@Classical.axiomOfChoice
abbrev Vc4:=@List.foldl_append
abbrev Vc5:=@Array.getElem?_eq_none
abbrev Vc6:=@List.length_drop
abbrev Vc7:=@List.flatMap_def
abbrev Vc8:=@List.not_mem_nil
abbrev Vc9:=@List.take_append_drop
abbrev Vda:=@List.length_filter_le
abbrev Vdb:=@Nat.zero_mul
abbrev Vdc:=@Array.ext'
abbrev Vdd:=@Array.size_replicate
abbrev Vde:=@Nat.pow_le_pow_right
abbrev Vdf:=@List.drop_succ_cons
abbrev Vdg:=@List.take_succ_cons
abbrev Vdh:=@List.getElem?_range
abbrev Vdi:=@List.getElem_of_mem
abbrev Vdj:=@List.flatMap_append
abbrev Vdk:=@List.foldl_nil
abbrev Vdl:=@List.mem_range
abbrev Vdm:=@List.getElem_range
abbrev Vdn:=@Nat.pos_of_ne_zero
abbrev Vdo:=@Nat.eq_zero_or_pos
abbrev Vdp:=@Bool.or_false
abbrev Vdq:=@Bool.and_true
abbrev Vdr:=@Array.toList_setIfInBounds
abbrev Vds:=@List.length_range
abbrev Vdt:=@Int.toNat_natCast
abbrev Vdu:=@List.mem_or_eq_of_mem_set
abbrev Vdv:=@Nat.lt_of_not_le
abbrev Vdw:=@Nat.add_comm
abbrev Vdx:=@Array.size_setIfInBounds
abbrev Vdy:=@List.all_nil
abbrev Vdz:=@List.getElem_map
abbrev Vd0:=@List.getElem?_cons_succ
abbrev Vd1:=@List.Perm.append_right
abbrev Vd2:=@List.sublist_cons_self
abbrev Vd3:=@List.filter_eq_nil_iff
abbrev Vd4:=@List.contains_iff_mem
abbrev Vd5:=@Array.mem_of_getElem?
theorem ZZa {α β : Type} {a : α} {f : α -> Option β} : (some a).bind f = f a := rfl
theorem ZZb {α β : Type} {x : Option α} {f : α -> Option β} {b : β} : x.bind f = some b ↔ ∃ a, x = some a /\ f a = some b := Option.bind_eq_some_iff
theorem ZZc {α β : Type} {x : Option α} {f : α -> β} {b : β} : x.map f = some b ↔ ∃ a, x = some a /\ f a = b := Option.map_eq_some_iff
theorem ZZd {α : Type} (a b : α) : (some a = some b) = (a = b) := Option.some.injEq a b
theorem ZZf : (false = true) = False := Bool.false_eq_true
theorem ZZg (a b : Bool) : ((a && b) = true) = (a = true /\ b = true) := Bool.and_eq_true a b
theorem ZZh {α : Type} {l : List α} {i : Nat} {a : α} : l[i]? = some a ↔ ∃ h : i < l.length, l[i] = a := List.getElem?_eq_some_iff
theorem ZZi {c : Prop} {h : Decidable c} (hn : ¬c) {α : Type} {t e : α} : ite c t e = e := if_neg hn
theorem ZZj {c : Prop} {h : Decidable c} (hn : c) {α : Type} {t e : α} : ite c t e = t := if_pos hn
theorem ZZk {α : Type} {p : α -> Bool} {l : List α} : l.all p = true ↔ ∀ x, x ∈ l -> p x = true := List.all_eq_true
theorem ZZl {p : Prop} [Decidable p] : (decide p = true) = p := decide_eq_true_eq
theorem ZZe {α β : Type} (a : α) (b : β) (c : α) (d : β) : ((a, b) = (c, d)) = (a = c /\ b = d) := Prod.mk.injEq a b c d
abbrev Id:=Nat×Nat
inductive V where
 | undef
 | lit (v:Value)
 | agg (cs:List V)
 | tup (vs:List V)
 | ptr (id:Id) (i off:Nat)
 | rp (sh:Bool) (row:List V) (off:Nat)
 | sl (id:Id) (off len:Nat)
 | tr (rows:List (List V))
 | vw (rows:List (List V))
 | own (e:TypeId) (rows:List (List V))
 | obx (cs:List V)
 | fn (f:FuncId) (caps:List V)
 deriving Inhabited
structure Blk where
 box:Bool
 own:Bool
 cl:Bool
 el:TypeId
 rows:List (List V)
structure St where
 env:Nat->V
 heap:Id->Option Blk
 ep:Nat
def upd {α β:Type} [DecidableEq α] (f:α->β) (a:α) (b:β):α->β:=λx=>if x=a then b else f x
def St.put (s:St) (dst:Option Tmp) (v:V):St:=match dst with|some d=>{s with env:=upd s.env d v}|none=>s
def St.setB (s:St) (id:Id) (b:Blk):St:={s with heap:=upd s.heap id (some b)}
def St.kill (s:St) (id:Id):St:={s with heap:=upd s.heap id none}
def eval? {α:Type} (P:Program):Sem α->Option α
 | .pure a=>some a
 | .program k=>eval? P (k P)
 | _=>none
def Xn:Value->Bool
 | .bool _|.int _ _|.string _|.float _ _|.pointer none|.slice none 0 0|.nilFunc|.nilIface=>true
 | _=>false
def Qt:List V->Option (List Value)
 | []=>some []
 | .lit v::r=>(Qt r).map (v::·)
 | _=>none
def Ys:V->Option Value
 | .lit v=>some v
 | .agg cs=>(Qt cs).map λl=>.agg l.toArray
 | _=>none
def Zby:Value->Option V
 | .agg cs=>if cs.toList.all Xn then some (.agg (cs.toList.map .lit)) else none
 | v=>if Xn v then some (.lit v) else none
def St.opV (s:St):Operand->V
 | .tmp t=>s.env t
 | .const v=>(Zby v).getD .undef
 | .func f=>.fn f []
 | .global _=>.undef
def Zhz {α:Type}:List (Option α)->Option (List α)
 | []=>some []
 | some a::r=>(Zhz r).map (a::·)
 | none::_=>none
def Zbg:Op->Bool
 | .binOp ..|.unOp ..|.convert ..|.index ..|.slice ..|.field ..=>true
 | .call {callee:=.builtin .len,..}|.call {callee:=.builtin .min,..}|.call {callee:=.builtin .max,..}=>true
 | _=>false
def Ye (P:Program) (v:Operand->V) (o:Oper):Option V:=
 if Zbg o.op&&o.op.operands.toList.all (λx=>(Ys (v x)).isSome) then
  match eval? P (execOp (λx=>(Ys (v x)).getD undef) o) with
  | some (.value v)=>Zby v
  | _=>none
 else none
def Jd (P:Program) (t:TypeId):Bool:=match P.underlying t with|some (.struct _)|some (.array _ _)=>true|_=>false
def ptrT (P:Program) (t:TypeId):Bool:=match P.underlying t with|some (.pointer _)=>true|_=>false
def Zi (P:Program) (t:TypeId):Nat:=P.cellsOf t
def Kq (P:Program) (t:TypeId):Option (List V):=((P.info? t).bind (·.zero)).bind λz=>if z.cells.toList.all Xn then some (z.cells.toList.map .lit) else none
def Xe (P:Program) (t:TypeId):Option TypeId:=match P.underlying t with|some (.slice e)=>some e|_=>none
def Zgu (P:Program) (t:TypeId) (k:Nat):Option Nat:=match P.underlying t with|some (.struct fs)=>(fs[k]?).bind λf=>if P.cellsOf f.type=0 then none else some f.offset|_=>none
def Qn:V->V
 | .lit (.slice none 0 0)=>.tr []
 | x=>x
def Zfe:V->Option (List V)
 | .agg cs=>some cs
 | .tup _|.undef|.own _ _|.obx _=>none
 | x=>some [x]
def cellish:V->Bool
 | .lit _|.tr _|.vw _|.rp ..|.ptr ..|.sl ..|.fn ..=>true
 | _=>false
def St.rowsOf (s:St):V->Option (List (List V))
 | .sl id off len=>(s.heap id).bind λb=>if b.box=false/\off+len<=b.rows.length then some ((b.rows.drop off).take len) else none
 | .tr rows|.vw rows=>some rows
 | .lit (.slice none 0 0)=>some []
 | _=>none
def St.whole (s:St) (id:Id) (off len:Nat):Option (TypeId×List (List V)):=
 (s.heap id).bind λb=>if b.box=false/\b.own=true/\b.cl=true/\off+len<=b.rows.length then some (b.el,(b.rows.drop off).take len) else none
def St.sink (s:St):List V->Option (List V×Bool×St)
 | []=>some ([],true,s)
 | x::r=>
  match x with
  | .lit (.slice none 0 0)=>(s.sink r).map λy=>(.tr []::y.1,y.2)
  | .lit v=>(s.sink r).map λy=>(.lit v::y.1,y.2)
  | .tr rows|.vw rows=>(s.sink r).map λy=>(.tr rows::y.1,false,y.2.2)
  | .sl id off len=>match s.whole id off len with
   | some er=>((s.kill id).sink r).map λy=>(.tr er.2::y.1,y.2)
   | none=>match s.heap id with
    | some b=>if b.own=false then (s.rowsOf (.sl id off len)).bind λrows=>(s.sink r).map λy=>(.tr rows::y.1,false,y.2.2) else none
    | none=>none
  | _=>none
def St.sinkRows (s:St):List (List V)->Option (List (List V)×Bool×St)
 | []=>some ([],true,s)
 | row::r=>(s.sink row).bind λy=>(y.2.2.sinkRows r).map λz=>(y.1::z.1,y.2.1&&z.2.1,z.2.2)
def Ww (l:List V) (off:Nat) (vs:List V):List V:=l.take off++vs++l.drop (off+vs.length)
def Zbc (P:Program) (t:TypeId) (cs:List V):Option V:=
 if (P.underlying t).isSome then if Jd P t then some (.agg cs) else match cs with|[x]=>some x|_=>none else none
def Zp7 (P:Program):Nat->TypeId->List (Option TypeId)
 | 0,_=>[]
 | n+1,t=>match P.underlying t with
  | some (.struct fs)=>fs.toList.flatMap λf=>Zp7 P n f.type
  | some (.array k e)=>(List.replicate k (Zp7 P n e)).flatten
  | some (.slice e)=>[some e]
  | _=>[none]
def Zlb (P:Program) (t:TypeId):List (Option TypeId):=match P.underlying t with|some (.pointer e)=>Zp7 P 9 e|_=>Zp7 P 9 t
inductive Zx where
 | rd|io|mv|iov
 deriving DecidableEq
def St.rdCell (s:St):V->Option V
 | .lit (.slice none 0 0)=>some (.tr [])
 | .lit v=>some (.lit v)
 | .tr rows|.vw rows=>some (.tr rows)
 | .sl id off len=>(s.rowsOf (.sl id off len)).map .tr
 | .rp _ row off=>some (.rp true row off)
 | _=>none
def St.rdCells (s:St):List V->Option (List V)
 | []=>some []
 | x::r=>(s.rdCell x).bind λy=>(s.rdCells r).map (y::·)
def St.rdPlace (s:St):V->Option V
 | .ptr id i off=>(s.heap id).bind λb=>if b.own=true then (b.rows[i]?).bind λrow=>(s.rdCells row).map λcs=>.rp true cs off else none
 | x=>s.rdCell x
def St.rdPlaces (s:St):List V->Option (List V)
 | []=>some []
 | x::r=>(s.rdPlace x).bind λy=>(s.rdPlaces r).map (y::·)
def St.rdArg (s:St):V->Option V
 | .agg cs=>(s.rdCells cs).map .agg
 | .fn f caps=>(s.rdPlaces caps).map (.fn f)
 | x=>s.rdPlace x
def St.rdArgM (s:St) (m:Zx) (x:V):Option V:=match m with|.rd=>s.rdArg x|_=>some x
def St.rdAll (s:St):List Zx->List V->Option (List V)
 | _,[]=>some []
 | ms,x::r=>(s.rdArgM (ms.headD .rd) x).bind λy=>(s.rdAll ms.tail r).map (y::·)
def St.giveCell (s:St) (t:Option TypeId):V->Option (V×St)
 | .lit (.slice none 0 0)=>t.map λe=>(.own e [],s)
 | .lit v=>some (.lit v,s)
 | .tr rows|.vw rows=>some (.tr rows,s)
 | .sl id off len=>(s.whole id off len).map λer=>(.own er.1 er.2,s.kill id)
 | _=>none
def St.giveCells (s:St):List (Option TypeId)->List V->Option (List V×St)
 | _,[]=>some ([],s)
 | ts,x::r=>(s.giveCell (ts.headD none) x).bind λy=>(y.2.giveCells ts.tail r).map λz=>(y.1::z.1,z.2)
def St.giveArg (s:St) (ts:List (Option TypeId)):V->Option (V×St)
 | .agg cs=>(s.giveCells ts cs).map λy=>(.agg y.1,y.2)
 | x=>s.giveCell (ts.headD none) x
def thin1:V->V
 | .sl _ _ 0=>.tr []
 | x=>x
def thin:V->V
 | .agg cs=>.agg (cs.map thin1)
 | x=>thin1 x
def St.giveBox (s:St) (ts:List (Option TypeId)) (id:Id):Option (List V×St):=
 (s.heap id).bind λb=>if b.box=true/\b.own=true then match b.rows with
  | [row]=>(s.kill id).giveCells ts row
  | _=>none else none
def St.giveCell2 (s:St) (t:Option TypeId):V->Option (V×St)
 | .ptr id 0 0=>(s.giveBox [] id).map λy=>(.obx y.1,y.2)
 | x=>s.giveCell t x
def St.giveCells2 (s:St):List (Option TypeId)->List V->Option (List V×St)
 | _,[]=>some ([],s)
 | ts,x::r=>(s.giveCell2 (ts.headD none) x).bind λy=>(y.2.giveCells2 ts.tail r).map λz=>(y.1::z.1,z.2)
def St.giveBox2 (s:St) (ts:List (Option TypeId)) (id:Id):Option (List V×St):=
 (s.heap id).bind λb=>if b.box=true/\b.own=true then match b.rows with
  | [row]=>(s.kill id).giveCells2 ts row
  | _=>none else none
def St.give (s:St) (ts:List (Option TypeId)) (m:Zx) (x:V):Option (V×St):=
 match m with
 | .rd=>some (x,s)
 | .io=>match x with
  | .ptr id 0 0=>(s.giveBox2 ts id).map λy=>(.agg y.1,y.2)
  | _=>none
 | .mv=>s.giveArg ts x
 | .iov=>s.giveArg ts (thin x)
def St.gives (P:Program) (s:St):List TypeId->List Zx->List V->Option (List V×St)
 | _,_,[]=>some ([],s)
 | ts,ms,x::r=>(s.give (Zlb P (ts.headD 0)) (ms.headD .rd) x).bind λy=>(y.2.gives P ts.tail ms.tail r).map λz=>(y.1::z.1,z.2)
def St.takeCell (s:St) (id:Id):V->Option (V×St)
 | .own e rows=>some (.sl id 0 rows.length,s.setB id ⟨false,true,true,e,rows⟩)
 | .lit v=>some (.lit v,s)
 | .tr rows=>some (.tr rows,s)
 | _=>none
def St.takeCells (s:St) (e:Nat):(k:Nat)->List V->Option (List V×St)
 | _,[]=>some ([],s)
 | k,x::r=>(s.takeCell (e,k) x).bind λy=>(y.2.takeCells e (k+1) r).map λz=>(y.1::z.1,z.2)
def St.takeOne (s:St) (e k:Nat):V->Option (V×St)
 | .agg cs=>if cs.length<=62 then (s.takeCells e k cs).map λy=>(.agg y.1,y.2) else none
 | .obx cs=>if cs.length<=62 then (s.takeCells e k cs).map λy=>(.ptr (e,k+63) 0 0,y.2.setB (e,k+63) ⟨true,true,true,0,[y.1]⟩) else none
 | x=>s.takeCell (e,k) x
def St.takeAll (s:St) (e:Nat):(k:Nat)->List V->Option (List V×St)
 | _,[]=>some ([],s)
 | k,x::r=>(s.takeOne e (64*k) x).bind λy=>(y.2.takeAll e (k+1) r).map λz=>(y.1::z.1,z.2)
def St.takeRes (s:St) (e k:Nat):V->Option (V×St)
 | .tup vs=>if vs.length<=8 then (s.takeAll e k vs).map λy=>(.tup y.1,y.2) else none
 | x=>s.takeOne e (64*k) x
def wt1:V->Nat
 | .obx cs=>cs.length+1
 | _=>1
def wt:List V->Nat
 | []=>0
 | x::r=>wt1 x+wt r
def St.takeCell2 (s:St) (e k:Nat):V->Option (V×St)
 | .obx cs=>(s.takeCells e (k+1) cs).map λy=>(.ptr (e,k) 0 0,y.2.setB (e,k) ⟨true,true,true,0,[y.1]⟩)
 | x=>s.takeCell (e,k) x
def St.takeCells2 (s:St) (e:Nat):(k:Nat)->List V->Option (List V×St)
 | _,[]=>some ([],s)
 | k,x::r=>(s.takeCell2 e k x).bind λy=>(y.2.takeCells2 e (k+wt1 x) r).map λz=>(y.1::z.1,z.2)
def St.takeTwo (s:St) (e k:Nat) (cs:List V):Option (V×St):=
 if wt cs<=62 then (s.takeCells2 e k cs).map λy=>(.ptr (e,k+63) 0 0,y.2.setB (e,k+63) ⟨true,true,true,0,[y.1]⟩) else none
def St.backCells (s:St):List V->List V->Option St
 | [],_=>some s
 | .sl id 0 _::os,.own e rows::ns=>(s.setB id ⟨false,true,true,e,rows⟩).backCells os ns
 | _::os,_::ns=>s.backCells os ns
 | _::_,[]=>none
def St.back (s:St) (m:Zx) (e k:Nat) (x o:V):Option St:=
 match m with
 | .rd|.mv=>some s
 | .io=>match x,o with
  | .ptr id 0 0,.agg cs=>if wt cs<=62 then (s.takeCells2 e (64*k) cs).map λy=>y.2.setB id ⟨true,true,true,0,[y.1]⟩ else none
  | _,_=>none
 | .iov=>match thin x,o with
  | .agg cs,.agg ns=>s.backCells cs ns
  | x,o=>s.backCells [x] [o]
def St.backs (s:St) (e:Nat):List Zx->(k:Nat)->List V->List V->Option St
 | _,_,[],_=>some s
 | ms,k,x::xs,o::os=>(s.back (ms.headD .rd) e k x o).bind λs=>s.backs e ms.tail (k+1) xs os
 | _,_,_::_,[]=>none
abbrev Xs:=FuncId->List V->Option (V×List V)
def Zcj (n:Nat) (rows:List (List V)):Bool:=rows.all λr=>r.length == n
def Z26:V->Bool|.lit _=>true|_=>false
def Kn (rows:List (List V)):Bool:=rows.all λr=>r.all Z26
def St.moved (s:St) (all:Bool):V->Option (List (List V)×Bool×St)
 | .sl id off len=>match (if id.1=s.ep\/all=true then s.whole id off len else none) with
  | some er=>some (er.2,true,s.kill id)
  | none=>(s.rowsOf (.sl id off len)).map λrows=>(rows,Kn rows,s)
 | x=>(s.rowsOf x).map λrows=>(rows,Kn rows,s)
def Zex (P:Program) (e:TypeId):Bool:=match (P.info? e).bind (·.zero) with|some z=>z.cells.size == P.cellsOf e|none=>false
def Zcc (P:Program) (all:Bool) (s:St) (id:Id) (t:TypeId) (b x:V):Option (V×St):=
 (Xe P t).bind λe=>
 (s.moved all x).bind λm=>
 if Zcj (Zi P e) m.1=true/\Zi P e≠0/\Zex P e=true then
  match b with
  | .lit (.slice none 0 0)=>if m.1.length*P.bytesOf e<=140737488355328/\m.1.length<=9223372036854775807 then some (.sl id 0 m.1.length,m.2.2.setB id ⟨false,true,m.2.1,e,m.1⟩) else none
  | .sl i off len=>(m.2.2.heap i).bind λk=>
   if k.box=false/\k.own=true/\off+len=k.rows.length/\k.el=e/\(len+m.1.length)*P.bytesOf e<=140737488355328/\len+m.1.length<=9223372036854775807 then
    some (.sl id 0 (len+m.1.length),(m.2.2.kill i).setB id ⟨false,true,k.cl&&m.2.1,e,k.rows.drop off++m.1⟩)
   else none
  | _=>none
 else none
def Y3:V->Option Nat
 | .lit (.int _ n)=>if 0<=n then some n.toNat else none
 | _=>none
def Zek (P:Program) (s:St) (t:TypeId) (x:V) (lo hi:Option V):Option V:=
 (Xe P t).bind λe=>(s.rowsOf x).bind λrows=>
 let l:=match lo with|some v=>Y3 v|none=>some 0
 let h:=match hi with|some v=>Y3 v|none=>some rows.length
 l.bind λl=>h.bind λh=>if l<=h/\h<=rows.length/\Zcj (Zi P e) rows=true/\Zi P e≠0 then
  match x with
  | .sl id off _=>some (.sl id (off+l) (h - l))
  | .tr rows=>some (.tr ((rows.drop l).take (h - l)))
  | .vw rows=>some (.vw ((rows.drop l).take (h - l)))
  | _=>none
 else none
def Ze1 (P:Program) (place:Nat->Option (Nat×Nat)) (cells:List V):List (Nat×V)->Option (List V)
 | []=>some cells
 | (i,v)::rest=>(place i).bind λp=>(Zfe v).bind λcs=>
  if cs.length=p.2/\p.1+p.2<=cells.length then Ze1 P place (Ww cells p.1 cs) rest else none
def Ze9 (sz:Nat):Nat->List V->List (List V)
 | 0,_=>[]
 | n+1,l=>l.take sz::Ze9 sz n (l.drop sz)
def Zgt (rows:List (List V)):Option (List UInt8):=Zhz (rows.map λr=>match r with|[.lit (.int .u8 n)]=>some (UInt8.ofNat n.toNat)|_=>none)
def isIntT (P:Program) (t:TypeId):Bool:=match P.underlying t with|some (.int _)=>true|_=>false
structure Z7 where
 modes:FuncId->List Zx
 mv:String->Bool
def Zl8:V->Bool|.tr _=>true|_=>false
def isTr:V->Bool|.obx cs=>cs.any Zl8|x=>Zl8 x
def Za7:V->Bool|.agg cs|.obx cs=>cs.any isTr|x=>isTr x
def Zmd:V->Bool|.tup vs=>vs.any Za7|x=>Za7 x
def Zgq:V->Bool
 | .lit _|.tr _|.vw _|.rp ..=>true
 | _=>false
def plain:V->Bool
 | .agg cs|.fn _ cs=>cs.all Zgq
 | x=>Zgq x
def Zxr (m:Zx) (x:V):Bool:=match m with|.rd=>plain x|_=>true
def Zcm:List Zx->List V->Bool
 | _,[]=>true
 | ms,x::r=>Zxr (ms.headD .rd) x&&Zcm ms.tail r
def Zdk (P:Program) (M:Z7) (C:Xs) (s:St) (k:Nat) (g:FuncId) (args:List V):Option (V×St):=
 if args.length<=8 then
  (s.gives P (((P.funcs[g]?).map (·.params.toList)).getD []) (M.modes g) args).bind λy=>(y.2.rdAll (M.modes g) y.1).bind λxs=>(C g xs).bind λr=>
   if (Zmd r.1||r.2.any Za7)&&!Zcm (M.modes g) args then none else
   (y.2.backs s.ep (M.modes g) (16*k+8) args r.2).bind λs'=>s'.takeRes s.ep (16*k) r.1
 else none
def Yd (P:Program) (M:Z7) (C:Xs) (v:Operand->V) (s:St) (k:Nat) (o:Oper):Option (V×St):=
 let pure1 (x:Option V):Option (V×St):=x.map λy=>(y,s)
 let id:Id:=(s.ep,1024*k)
 match o.op with
 | .move x|.assign x=>match v x with|.undef=>none|y=>some (y,s)
 | .pick c a b=>match v c with|.lit (.bool c)=>some (if c then v a else v b,s)|_=>none
 | .extract t i=>match v t with|.tup vs=>pure1 vs[i]?|_=>none
 | .nilCheck x=>match v x with|.ptr i j n=>some (.ptr i j n,s)|.rp b r n=>some (.rp b r n,s)|.fn f cs=>some (.fn f cs,s)|_=>none
 | .alloc t=>(Kq P t).map λz=>(.ptr id 0 0,s.setB id ⟨true,true,true,t,[z]⟩)
 | .box t x=>(Zfe (v x)).bind λcs=>if cs.length=Zi P t then some (.ptr id 0 0,s.setB id ⟨true,true,true,t,[cs]⟩) else none
 | .build t parts=>(Kq P t).bind λz=>match P.underlying t with
  | some (.struct fs)=>if fs.toList.all (λf=>(P.info? f.type).isSome)=false then none else (Ze1 P (λi=>(fs[i]?).map λf=>(f.offset,P.cellsOf f.type)) z (parts.toList.map λp=>(p.1,v p.2))).map λcs=>(.agg cs,s)
  | _=>none
 | .buildSlice t n parts=>(Xe P t).bind λe=>
  let sz:=Zi P e
  (if n*sz=0 then some [] else Kq P e).bind λz=>
  if sz=0\/n*sz > 1048576\/Zex P e=false then none else
  (Ze1 P (λi=>some (i*sz,sz)) (List.replicate n z).flatten (parts.toList.map λp=>(p.1,v p.2))).bind λcs=>
   (s.sinkRows (Ze9 sz n cs)).map λy=>(.sl id 0 n,y.2.2.setB id ⟨false,true,y.2.1,e,y.1⟩)
 | .load t a=>match v a with
  | .ptr i j n=>(s.heap i).bind λb=>(b.rows[j]?).bind λrow=>if n+Zi P t<=row.length then pure1 (Zbc P t ((row.drop n).take (Zi P t))) else none
  | .rp sh row n=>if n+Zi P t<=row.length then pure1 (Zbc P t ((row.drop n).take (Zi P t))) else none
  | _=>none
 | .store t a x=>match v a with
  | .ptr i j n=>(s.heap i).bind λb=>(b.rows[j]?).bind λrow=>(Zfe (v x)).bind λcs=>
   if b.own=true/\cs.length=Zi P t/\n+Zi P t<=row.length/\Zi P t≠0 then
    if b.box then some (.undef,s.setB i {b with rows:=b.rows.set j (Ww row n cs)})
    else (s.sink cs).bind λy=>match y.2.2.heap i with
     | some b=>some (.undef,y.2.2.setB i {b with cl:=b.cl&&y.2.1,rows:=b.rows.set j (Ww row n y.1)})
     | none=>none
   else none
  | _=>none
 | .fieldAddr t x f=>(Zgu P t f).bind λoff=>match v x with
  | .ptr i j n=>some (.ptr i j (n+off),s)
  | .rp b row n=>some (.rp b row (n+off),s)
  | _=>none
 | .indexAddr t x ix=>(Xe P t).bind λe=>if Zi P e=0 then none else (Y3 (v ix)).bind λn=>match v x with
  | .sl i off len=>if n < len then (s.heap i).bind λb=>(b.rows[off+n]?).bind λrow=>if row.length=Zi P e then some (.ptr i (off+n) 0,s) else none else none
  | .tr rows=>(rows[n]?).bind λrow=>if row.length=Zi P e then some (.rp true row 0,s) else none
  | .vw rows=>(rows[n]?).bind λrow=>if row.length=Zi P e then some (.rp false row 0,s) else none
  | _=>none
 | .slice t x lo hi none=>match v x with
  | .sl ..|.tr _|.vw _=>pure1 (Zek P s t (v x) (lo.map v) (hi.map v))
  | _=>pure1 (Ye P v o)
 | .makeSlice t l c=>(Xe P t).bind λe=>(Kq P e).bind λz=>(Y3 (v l)).bind λn=>(Y3 (v c)).bind λm=>
  if n=m/\n*P.bytesOf e<=70368744177664/\n<=9223372036854775807/\z.length=Zi P e/\Zi P e≠0 then some (.sl id 0 n,s.setB id ⟨false,true,true,e,List.replicate n (z.map Qn)⟩) else none
 | .makeFunc (.func f) first caps=>if first.size=0 then some (.fn f (caps.toList.map v),s) else none
 | .convert src dst x=>match v x with
  | .lit _=>pure1 (Ye P v o)
  | y=>match P.underlying src,P.underlying dst with
   | some (.slice e),some .string=>match P.underlying e with
    | some (.int .u8)=>(s.rowsOf y).bind λrows=>(Zgt rows).map λbs=>(.lit (.string ⟨bs.toArray⟩),s)
    | _=>none
   | some (.slice _),some (.slice _)=>none
   | _,_=>none
 | .call c=>match c.callee with
  | .builtin .append=>match c.args.toList,c.argTypes.toList with
   | [b,x],[t,t']=>if t=t' then Zcc P (M.mv o.pos) s id t (v b) (v x) else none
   | _,_=>none
  | .builtin .len=>match c.args.toList,c.argTypes.toList with
   | [x],[t]=>match v x with
    | .sl _ _ n=>if (Xe P t).isSome then some (.lit (.int .i64 n),s) else none
    | .tr rows|.vw rows=>if (Xe P t).isSome then some (.lit (.int .i64 rows.length),s) else none
    | _=>pure1 (Ye P v o)
   | _,_=>none
  | .builtin .clear=>match c.args.toList,c.argTypes.toList with
   | [x],[t]=>(Xe P t).bind λe=>(Kq P e).bind λz=>match v x with
    | .sl i off n=>(s.heap i).bind λb=>if b.own=true/\b.box=false/\off+n<=b.rows.length/\b.el=e/\z.length=Zi P e/\Zi P e≠0 then
      some (.tup [],s.setB i {b with rows:=b.rows.take off++List.replicate n (z.map Qn)++b.rows.drop (off+n)}) else none
    | _=>none
   | _,_=>none
  | .builtin _=>pure1 (Ye P v o)
  | .value f=>match v f with
   | .fn g caps=>Zdk P M C s k g (c.args.toList.map v++caps)
   | _=>none
  | _=>none
 | .binOp op t x y _=>match v x,v y with
  | .lit _,.lit _|.agg _,_|_,.agg _=>pure1 (Ye P v o)
  | .ptr ..,.lit (.pointer none)=>if ptrT P t then match op with
   | .eql=>some (.lit (.bool false),s)
   | .neq=>some (.lit (.bool true),s)
   | _=>none
   else none
  | a,.lit (.slice none 0 0)|.lit (.slice none 0 0),a=>if (Xe P t).isSome=false then none else match op,s.rowsOf a with
   | .eql,some (_::_)=>some (.lit (.bool false),s)
   | .neq,some (_::_)=>some (.lit (.bool true),s)
   | _,_=>none
  | _,_=>none
 | _=>pure1 (Ye P v o)
def Zkj (P:Program) (M:Z7) (C:Xs) (s:St) (k:Nat) (o:Oper):Option (V×St):=Yd P M C s.opV s k o
def wanted (s:St) (ops:Array Oper) (o:Oper):Option Bool:=
 match o.guard with
 | none=>some true
 | some (j,b)=>match ((ops[j]?).bind (·.dst)).map s.env with
  | some (.lit (.bool c))=>some (c == b)
  | some (.tup [])=>some false
  | _=>none
def Zae (P:Program) (M:Z7) (C:Nat->Xs) (ops:Array Oper) (s:St):(k:Nat)->List Oper->Option St
 | _,[]=>some s
 | k,o::rest=>
  (wanted s ops o).bind λg=>
  if g then (Zkj P M (C k) s k o).bind λy=>Zae P M C ops (y.2.put o.dst y.1) (k+1) rest
  else Zae P M C ops (s.put o.dst (.tup [])) (k+1) rest
def ids1:V->List Id
 | .sl id _ _|.ptr id _ _=>[id]
 | _=>[]
def ids:V->List Id
 | .agg cs|.fn _ cs=>cs.flatMap ids1
 | x=>ids1 x
def St.deep (s:St) (id:Id):List Id:=match s.heap id with|some b=>if b.box then b.rows.flatMap (λr=>r.flatMap ids) else []|none=>[]
def St.storeT (s:St) (d:List Id):V->List Id
 | .ptr i _ _=>match s.heap i with
  | some b=>match b.box,b.rows with
   | true,[_]=>[i]
   | _,_=>d
  | none=>d
 | _=>d
def touch (s:St) (o:Oper):List Id:=
 let d:=o.op.operands.toList.flatMap λx=>ids (s.opV x)
 match o.op with
 | .store _ a _=>s.storeT d (s.opV a)
 | .load ..|.indexAddr ..|.slice ..|.convert ..|.buildSlice ..|.binOp ..=>d
 | .call {callee:=.value _,..}=>let e:=d.flatMap s.deep;d++e++e.flatMap s.deep
 | .call _=>d
 | _=>[]
def Zcl (M:Z7) (f:Operand->V) (o:Oper):Bool:=
 match o.op with
 | .store ..|.buildSlice ..=>true
 | .call c=>match c.callee with
  | .builtin .append|.builtin .clear=>true
  | .value x=>match f x with|.fn g _=>(M.modes g).any λm=>m != .rd|_=>true
  | _=>false
 | _=>false
structure Rec where
 pre:List Nat
 T:List Id
 w:Bool
def St.only (s:St) (T:List Id):St:={s with heap:=λid=>if T.contains id then s.heap id else none}
def Y7 (e k:Nat) (id:Id):Bool:=id.1 == e&&id.2 / 1024 == k
def St.merge (s:St) (k:Nat) (T:List Id) (w:Bool) (y:St):St:={s with heap:=λid=>if Y7 s.ep k id||(w&&T.contains id) then y.heap id else s.heap id}
def Zge (recs:List Rec) (o:Oper):List Nat:=((o.after.toList.filter (Region.binds .any ·)).flatMap λe=>e.on::((recs[e.on]?).map (·.pre)).getD []).eraseDups
def Zc3 (ops:Array Oper) (e:Nat) (recs:List Rec) (pr:List Nat) (k:Nat) (o:Oper) (T:List Id) (w:Bool):Bool:=
 (o.after.toList.all λa=>!Region.binds .any a||decide (a.on < k))&&T.all (λid=>!(id.1 == e&&decide (k<=id.2 / 1024)))&&
 recs.zipIdx.all λp=>pr.contains p.2||
  (match ops[p.2]? with|some q=>q.apart ops o|none=>false)&&T.all (λid=>!Y7 e p.2 id)&&p.1.T.all (λid=>!Y7 e k id)&&(!(p.1.w||w)||T.all (λid=>!p.1.T.contains id))
def Kd (P:Program) (M:Z7) (C:Nat->Xs) (ops:Array Oper) (s:St) (recs:List Rec):(k:Nat)->List Oper->Option St
 | _,[]=>some s
 | k,o::rest=>
  let pr:=Zge recs o
  (wanted s ops o).bind λg=>
  if g then
   let T:=touch s o
   let w:=Zcl M s.opV o
   if Zc3 ops s.ep recs pr k o T w then (Yd P M (C k) s.opV (s.only T) k o).bind λy=>Kd P M C ops ((s.merge k T w y.2).put o.dst y.1) (recs++[⟨pr,T,w⟩]) (k+1) rest else none
  else if Zc3 ops s.ep recs pr k o [] false then Kd P M C ops (s.put o.dst (.tup [])) (recs++[⟨pr,[],false⟩]) (k+1) rest else none
inductive Ex where
 | normal|ret|exit (n:Nat)
 deriving DecidableEq
def Ze8 (P:Program) (s:St):List ResultVar->Option (List V)
 | []=>some []
 | .tmp t::r=>match s.env t with|.undef=>none|x=>(Ze8 P s r).map (x::·)
 | .cell a t::r=>match s.env a with
  | .ptr i j n=>(s.heap i).bind λb=>(b.rows[j]?).bind λrow=>if n+Zi P t<=row.length then (Zbc P t ((row.drop n).take (Zi P t))).bind λx=>(Ze8 P s r).map (x::·) else none
  | _=>none
def St.liftOne (s:St) (ts:List (Option TypeId)):V->Option (V×St)
 | .agg cs=>(s.giveCells ts cs).map λy=>(.agg y.1,y.2)
 | .ptr id 0 0=>(s.giveBox ts id).map λy=>(.obx y.1,y.2)
 | x=>s.giveCell (ts.headD none) x
def St.liftAll (P:Program) (s:St):List TypeId->List V->Option (List V×St)
 | _,[]=>some ([],s)
 | ts,x::r=>(s.liftOne (Zlb P (ts.headD 0)) x).bind λy=>(y.2.liftAll P ts.tail r).map λz=>(y.1::z.1,z.2)
def St.enter (s:St) (p:Nat) (m:Zx) (x:V):Option St:=
 if p < 1000 then match m with
 | .rd=>some (s.put (some p) x)
 | .io=>match x with
  | .agg cs=>(s.takeTwo 0 (64*p) cs).map λy=>y.2.put (some p) y.1
  | _=>none
 | .mv|.iov=>match x with
  | .obx _=>none
  | x=>(s.takeOne 0 (64*p) x).map λy=>y.2.put (some p) y.1
 else none
def St.enters (s:St):(p:Nat)->List Zx->List V->Option St
 | _,_,[]=>some s
 | p,ms,x::r=>(s.enter p (ms.headD .rd) x).bind λs=>s.enters (p+1) ms.tail r
def St.outCells (s:St) (p:Nat):(k:Nat)->List V->Option (List V×St)
 | _,[]=>some ([],s)
 | k,.own e rows::r=>(s.whole (0,64*p+k) 0 rows.length).bind λer=>if er.1=e then ((s.kill (0,64*p+k)).outCells p (k+1) r).map λz=>(.own er.1 er.2::z.1,z.2) else none
 | k,_::r=>(s.outCells p (k+1) r).map λz=>(.undef::z.1,z.2)
def St.out (s:St) (p:Nat) (ts:List (Option TypeId)) (m:Zx) (x:V):Option (V×St):=
 match m with
 | .rd|.mv=>some (.undef,s)
 | .io=>match x with
  | .agg cs=>(s.giveBox2 ts (0,64*p+63)).bind λy=>if y.1.length=cs.length then some (.agg y.1,y.2) else none
  | _=>none
 | .iov=>match x with
  | .agg cs=>(s.outCells p 0 cs).map λy=>(.agg y.1,y.2)
  | x=>(s.outCells p 0 [x]).bind λy=>(y.1.head?).map λv=>(v,y.2)
def St.outs (P:Program) (s:St):(p:Nat)->List TypeId->List Zx->List V->Option (List V)
 | _,_,_,[]=>some []
 | p,ts,ms,x::r=>(s.out p (Zlb P (ts.headD 0)) (ms.headD .rd) x).bind λy=>(y.2.outs P (p+1) ts.tail ms.tail r).map (y.1::·)
def Znx:List V->V
 | [x]=>x
 | l=>.tup l
end Go.Proofs.YthdljdelfgofdaaGreatDoor.Ev
namespace Go.Proofs.YthdljdelfgofdaaGreatDoor.Ev
open Go Go.RowKit
inductive Rd (w:World) (ok:Nat->Prop):Value->V->Prop
 | lit {v:Value} (h:Xn v=true):Rd w ok v (.lit v)
 | emp {A:Option Addr} {c:Nat}:Rd w ok (.slice A 0 c) (.tr [])
 | tr {g o n c sz:Nat} {rows:List (List V)} {u:Nat->Value} (hn:rows.length=n) (hc:n<=c) (hm:c<=maxLen) (hs:∀r∈rows,r.length=sz) (hg:ok g)
   (hu:∀(k:Nat) (x:V),rows.flatten[k]?=some x->w.cell? ⟨g,o+k,none⟩=some (u k)) (hr:∀(k:Nat) (x:V),rows.flatten[k]?=some x->Rd w ok (u k) x):
   Rd w ok (.slice (some ⟨g,o,none⟩) n c) (.tr rows)
 | rp {g o off:Nat} {sh:Bool} {row:List V} {u:Nat->Value} (hg:ok g)
   (hu:∀(k:Nat) (x:V),row[k]?=some x->w.cell? ⟨g,o+k,none⟩=some (u k)) (hr:∀(k:Nat) (x:V),row[k]?=some x->Rd w ok (u k) x):
   Rd w ok (.pointer (some ⟨g,o+off,none⟩)) (.rp sh row off)
 | fn {f:FuncId} {vs:Array Value} {caps:List V} (hl:vs.size=caps.length) (hr:∀(k:Nat) (v:Value) (x:V),vs[k]?=some v->caps[k]?=some x->Rd w ok v x):
   Rd w ok (.func (.func f) #[] vs) (.fn f caps)
theorem Zla {w:World} {g o:Nat} {v:Value} (h:w.cell? ⟨g,o,none⟩=some v):g < w.heap.size:=by
 unfold World.cell? at h;split at h
 .rename_i c e f hc
  exact (Van.1 hc).1
 .cases h
theorem Zkz {w w':World} {g o:Nat} (h:w'.heap[g]?=w.heap[g]?):w'.cell? ⟨g,o,none⟩=w.cell? ⟨g,o,none⟩:=by
 unfold World.cell?;rw[h]
theorem Rd.frame {w w':World} {ok ok':Nat->Prop} {v:Value} {x:V} (h:Rd w ok v x) (hw:∀g,ok g->g < w.heap.size->w'.heap[g]?=w.heap[g]?) (Zy:∀g,ok g->g < w.heap.size->ok' g) (Zp:∀g,ok g->g < w.heap.size\/ok' g):Rd w' ok' v x:=by
 induction h with
 | lit h=>exact .lit h
 | emp=>exact .emp
 | @tr g o n c sz rows u hn hc hm hs hg hu hr ih=>
  refine .tr hn hc hm hs ?_ (λk x hk=>?_) ih
  .rcases Zp g hg with h1|h1
   .exact Zy g hg h1
   .exact h1
  .have:=hu k x hk
   rw[Zkz (hw g hg (Zla this))];exact this
 | @rp g o off sh row u hg hu hr ih=>
  refine .rp ?_ (λk x hk=>?_) ih
  .rcases Zp g hg with h1|h1
   .exact Zy g hg h1
   .exact h1
  .have:=hu k x hk
   rw[Zkz (hw g hg (Zla this))];exact this
 | fn hl hr ih=>exact .fn hl ih
theorem Rd.mono {w w':World} {ok ok':Nat->Prop} {v:Value} {x:V} (h:Rd w ok v x) (hw:∀g,ok g->g < w.heap.size->w'.heap[g]?=w.heap[g]?) (Zy:∀g,ok g->ok' g):Rd w' ok' v x:=
 h.frame hw (λg h _=>Zy g h) (λg h=>.inr (Zy g h))
mutual
inductive Ow (w:World):Value->V->List Nat->Prop
 | lit {v:Value} (h:Xn v=true):Ow w v (.lit v) []
 | emp {A:Option Addr}:Ow w (.slice A 0 0) (.tr []) []
 | tr {g o n c sz:Nat} {cur:Array Value} {e:TypeId} {rows:List (List V)} {fp:List Nat} (hb:w.heap[g]?=some (.cells cur e (0,0))) (hn:rows.length=n) (hc:n<=c) (hm:c<=maxLen) (hs:∀r∈rows,r.length=sz)
   (hz:o+c*sz=cur.size) (hl:OwL w ((cur.toList.drop o).take (n*sz)) rows.flatten fp):Ow w (.slice (some ⟨g,o,none⟩) n c) (.tr rows) (g::fp)
inductive OwL (w:World):List Value->List V->List Nat->Prop
 | nil:OwL w [] [] []
 | cons {v:Value} {x:V} {vs:List Value} {xs:List V} {f1 f2:List Nat} (h:Ow w v x f1) (hs:OwL w vs xs f2):OwL w (v::vs) (x::xs) (f1++f2)
end
theorem Ow.frame {w w':World} {v:Value} {x:V} {fp:List Nat} (h:Ow w v x fp):(∀g∈fp,w'.heap[g]?=w.heap[g]?)->Ow w' v x fp:=by
 apply Ow.rec (motive_1:=λv x fp _=>(∀g∈fp,w'.heap[g]?=w.heap[g]?)->Ow w' v x fp) (motive_2:=λvs xs fp _=>(∀g∈fp,w'.heap[g]?=w.heap[g]?)->OwL w' vs xs fp) ?_ ?_ ?_ ?_ ?_ h
 .intro v h _;exact .lit h
 .intro A _;exact .emp
 .intro g o n c sz cur e rows fp hb hn hc hm hs hz hl ih hw
  exact .tr (by rw[hw g Vaa];exact hb) hn hc hm hs hz (ih λk hk=>hw k (Vac _ hk))
 .intro _;exact .nil
 .intro v x vs xs f1 f2 h hs ih1 ih2 hw
  exact .cons (ih1 λk hk=>hw k (Vae _ hk)) (ih2 λk hk=>hw k (Vao _ hk))
theorem OwL.frame {w w':World} {vs:List Value} {xs:List V} {fp:List Nat} (h:OwL w vs xs fp):(∀g∈fp,w'.heap[g]?=w.heap[g]?)->OwL w' vs xs fp:=by
 induction xs generalizing vs fp with
 | nil=>intro _;cases h;exact .nil
 | cons x xs ih=>
  intro hw;cases h with
  | cons h hs=>exact .cons (h.frame λg hg=>hw g (Vae _ hg)) (ih hs λg hg=>hw g (Vao _ hg))
theorem OwL.get {w:World} {vs:List Value} {xs:List V} {fp:List Nat} (h:OwL w vs xs fp):∀(k:Nat) (x:V),xs[k]?=some x->∃v f,vs[k]?=some v/\Ow w v x f/\∀g∈f,g∈fp:=by
 induction xs generalizing vs fp with
 | nil=>intro k x hk;simp at hk
 | cons y ys ih=>
  intro k x hk;cases h with
  | @cons v _ vs _ f1 f2 h hs=>
   cases k with
   | zero=>
    have hxy:y=x:=by simpa using hk
    subst hxy;exact⟨v,f1,rfl,h,λg hg=>Vae _ hg⟩
   | succ k=>
    obtain⟨v',f,h1,h2,h3⟩:=ih hs k x (by simpa using hk);exact⟨v',f,by simpa using h1,h2,λg hg=>Vao _ (h3 g hg)⟩
theorem OwL.length {w:World} {vs:List Value} {xs:List V} {fp:List Nat} (h:OwL w vs xs fp):vs.length=xs.length:=by
 induction xs generalizing vs fp with
 | nil=>cases h;rfl
 | cons y ys ih=>cases h with|cons h hs=>simp[ih hs]
theorem Ow.rd {w:World} {ok:Nat->Prop} {v:Value} {x:V} {fp:List Nat} (h:Ow w v x fp):(∀g∈fp,ok g)->Rd w ok v x:=by
 apply Ow.rec (motive_1:=λv x fp _=>(∀g∈fp,ok g)->Rd w ok v x) (motive_2:=λvs xs fp _=>(∀g∈fp,ok g)->∀(k:Nat) (x:V),xs[k]?=some x->∃v,vs[k]?=some v/\Rd w ok v x) ?_ ?_ ?_ ?_ ?_ h
 .intro v h _;exact .lit h
 .intro A _;exact .emp
 .intro g o n c sz cur e rows fp hb hn hc hm hs hz hl ih hw
  have ih':=ih λk hk=>hw k (Vac _ hk);refine .tr (u:=λk=>((cur.toList.drop o).take (n*sz)).getD k undef) hn hc hm hs (hw g Vaa) (λk x hk=>?_) (λk x hk=>?_)
  .obtain⟨v,hv,_⟩:=ih' k x hk
   rw[cell_of_row w g _ cur e (0,0) hb,Va8,hv];rw[Val] at hv;split at hv
   .simpa using hv
   .cases hv
  .obtain⟨v,hv,hr⟩:=ih' k x hk
   rw[Va8,hv];exact hr
 .intro _ k x hk;simp at hk
 .intro v x vs xs f1 f2 h hs ih1 ih2 hw k y hk
  cases k with
  | zero=>
   have:x=y:=by simpa using hk
   subst this;exact⟨v,rfl,ih1 λg hg=>hw g (Vae _ hg)⟩
  | succ k=>
   obtain⟨v',h1,h2⟩:=ih2 (λg hg=>hw g (Vao _ hg)) k y (by simpa using hk);exact⟨v',by simpa using h1,h2⟩
theorem OwL.rd {w:World} {ok:Nat->Prop} {vs:List Value} {xs:List V} {fp:List Nat} (h:OwL w vs xs fp) (hg:∀g∈fp,ok g) {k:Nat} {x:V} (hk:xs[k]?=some x):∃v,vs[k]?=some v/\Rd w ok v x:=by
 obtain⟨v,f,h1,h2,h3⟩:=h.get k x hk;exact⟨v,h1,h2.rd λg h=>hg g (h3 g h)⟩
theorem Ow.lt {w:World} {v:Value} {x:V} {fp:List Nat} (h:Ow w v x fp):∀g∈fp,g < w.heap.size:=by
 apply Ow.rec (motive_1:=λv x fp _=>∀g∈fp,g < w.heap.size) (motive_2:=λvs xs fp _=>∀g∈fp,g < w.heap.size) ?_ ?_ ?_ ?_ ?_ h
 .intro v h g hg;simp at hg
 .intro A g hg;simp at hg
 .intro g o n c sz cur e rows fp hb hn hc hm hs hz hl ih k hk
  rcases Vap.1 hk with rfl|hk
  .exact (Van.1 hb).1
  .exact ih k hk
 .intro g hg;simp at hg
 .intro v x vs xs f1 f2 h hs ih1 ih2 g hg
  rcases Vak.1 hg with hg|hg
  .exact ih1 g hg
  .exact ih2 g hg
theorem OwL.lt {w:World} {vs:List Value} {xs:List V} {fp:List Nat} (h:OwL w vs xs fp):∀g∈fp,g < w.heap.size:=by
 induction xs generalizing vs fp with
 | nil=>cases h;intro g hg;simp at hg
 | cons x xs ih=>
  cases h with
  | cons h hs=>
   intro g hg;rcases Vak.1 hg with hg|hg
   .exact h.lt g hg
   .exact ih hs g hg
theorem OwL.append {w:World} {vs us:List Value} {xs ys:List V} {f1 f2:List Nat} (h1:OwL w vs xs f1) (h2:OwL w us ys f2):OwL w (vs++us) (xs++ys) (f1++f2):=by
 induction xs generalizing vs f1 with
 | nil=>cases h1;exact h2
 | cons x xs ih=>
  cases h1 with
  | cons h hs=>rw[List.append_assoc];exact .cons h (ih hs)
theorem Ow.one {w:World} {v:Value} {x:V} {fp:List Nat} (h:Ow w v x fp):v.oneCell'=true:=by
 cases h with
 | lit h=>cases v<;>simp_all [Xn,Value.oneCell']
 | emp=>rfl
 | tr=>rfl
theorem OwL.one {w:World} {vs:List Value} {xs:List V} {fp:List Nat} (h:OwL w vs xs fp):∀u∈vs,u.oneCell'=true:=by
 induction xs generalizing vs fp with
 | nil=>cases h;intro u hu;simp at hu
 | cons x xs ih=>
  cases h with
  | cons h hs=>
   intro u hu;rcases Vap.1 hu with rfl|hu
   .exact h.one
   .exact ih hs u hu
theorem Rd.one {w:World} {ok:Nat->Prop} {v:Value} {x:V} (h:Rd w ok v x):v.oneCell'=true:=by
 cases h with
 | lit h=>cases v<;>simp_all [Xn,Value.oneCell']
 | emp=>rfl
 | tr=>rfl
 | rp=>rfl
 | fn=>rfl
inductive Zff where
 | emp
 | blk (g o c sz:Nat)
abbrev Rho:=Id->Option Zff
inductive En (w:World) (ok:Nat->Prop) (ρ:Rho):Value->V->Prop
 | undef {v:Value}:En w ok ρ v .undef
 | lit {v:Value} (h:Xn v=true):En w ok ρ v (.lit v)
 | tr {v:Value} {rows:List (List V)} (h:Rd w ok v (.tr rows)):En w ok ρ v (.tr rows)
 | vw {v:Value} {rows:List (List V)} (h:Rd w ok v (.tr rows)):En w ok ρ v (.vw rows)
 | rp {v:Value} {sh:Bool} {row:List V} {off:Nat} (h:Rd w ok v (.rp sh row off)):En w ok ρ v (.rp sh row off)
 | ptr {id:Id} {g o c sz i off:Nat} (h:ρ id=some (.blk g o c sz)):En w ok ρ (.pointer (some ⟨g,o+i*sz+off,none⟩)) (.ptr id i off)
 | sl {id:Id} {g o c sz off len:Nat} (h:ρ id=some (.blk g o c sz)) (hc:off+len<=c):En w ok ρ (.slice (some ⟨g,o+off*sz,none⟩) len (c - off)) (.sl id off len)
 | sle {id:Id} {A:Option Addr} {off:Nat} (h:(ρ id).isSome=true):En w ok ρ (.slice A 0 0) (.sl id off 0)
 | fn {f:FuncId} {vs:Array Value} {caps:List V} (hl:vs.size=caps.length) (hr:∀(k:Nat) (v:Value) (x:V),vs[k]?=some v->caps[k]?=some x->En w ok ρ v x):En w ok ρ (.func (.func f) #[] vs) (.fn f caps)
 | agg {vs:Array Value} {cs:List V} (hl:vs.size=cs.length) (hc:∀x∈cs,cellish x=true) (hr:∀(k:Nat) (v:Value) (x:V),vs[k]?=some v->cs[k]?=some x->En w ok ρ v x):En w ok ρ (.agg vs) (.agg cs)
 | tup {vs:Array Value} {cs:List V} (hl:vs.size=cs.length) (hr:∀(k:Nat) (v:Value) (x:V),vs[k]?=some v->cs[k]?=some x->En w ok ρ v x):En w ok ρ (.tuple vs) (.tup cs)
structure Ze7 (w w':World) (ok ok':Nat->Prop):Prop where
 heap:∀g,ok g->g < w.heap.size->w'.heap[g]?=w.heap[g]?
 ok_lt:∀g,ok g->g < w.heap.size->ok' g
 size:w.heap.size<=w'.heap.size
theorem Rd.keep {w w':World} {ok ok':Nat->Prop} (hk:Ze7 w w' ok ok') {v:Value} {x:V} (h:Rd w (λg=>ok g/\g < w.heap.size) v x):Rd w' (λg=>ok' g/\g < w'.heap.size) v x:=
 h.mono (λg hg _=>hk.heap g hg.1 hg.2) (λg hg=>⟨hk.ok_lt g hg.1 hg.2,Va3 hg.2 hk.size⟩)
theorem En.keep {w w':World} {ok ok':Nat->Prop} {ρ ρ':Rho} (hk:Ze7 w w' ok ok') (hρ:∀id i,ρ id=some i->ρ' id=some i) {v:Value} {x:V} (h:En w (λg=>ok g/\g < w.heap.size) ρ v x):
  En w' (λg=>ok' g/\g < w'.heap.size) ρ' v x:=by
 induction h with
 | undef=>exact .undef
 | lit h=>exact .lit h
 | tr h=>exact .tr (h.keep hk)
 | vw h=>exact .vw (h.keep hk)
 | rp h=>exact .rp (h.keep hk)
 | ptr h=>exact .ptr (hρ _ _ h)
 | sl h hc=>exact .sl (hρ _ _ h) hc
 | sle h=>
  refine .sle ?_;obtain⟨i,hi⟩:=Vaq.1 h;rw[hρ _ _ hi];rfl
 | fn hl hr ih=>exact .fn hl ih
 | agg hl hc hr ih=>exact .agg hl hc ih
 | tup hl hr ih=>exact .tup hl ih
def tops (s:St) (ρ:Rho) (g:Nat):Prop:=∃id b o c sz,s.heap id=some b/\b.own=true/\ρ id=some (.blk g o c sz)
def okS (s:St) (ρ:Rho) (w:World) (g:Nat):Prop:=¬tops s ρ g/\g < w.heap.size
def Yi (P:Program) (w:World) (ok:Nat->Prop) (ρ:Rho) (i:Option Zff) (F:List Nat) (b:Blk):Prop:=
 match b.box,b.own with
 | true,_=>b.own=true/\∃g cur e row,i=some (.blk g 0 1 row.length)/\w.heap[g]?=some (.cells cur e (0,0))/\b.rows=[row]/\cur.size=row.length/\
   (∀(k:Nat) (v:Value) (x:V),cur[k]?=some v->row[k]?=some x->En w ok ρ v x)/\(∀x∈row,cellish x=true)/\F=[g]
 | false,true=>(i=some .emp/\b.rows=[]/\F=[])\/
   ∃g o c cur,i=some (.blk g o c (P.cellsOf b.el))/\w.heap[g]?=some (.cells cur b.el (0,0))/\b.rows.length<=c/\c<=maxLen/\(∀r∈b.rows,r.length=P.cellsOf b.el)/\o+c*P.cellsOf b.el=cur.size/\
    ∃fp,F=g::fp/\(b.cl=true->OwL w ((cur.toList.drop o).take (b.rows.length*P.cellsOf b.el)) b.rows.flatten fp)/\
     (b.cl=false->fp=[]/\∀(k:Nat) (x:V),b.rows.flatten[k]?=some x->∃v,cur[o+k]?=some v/\Rd w ok v x)
 | false,false=>F=[]/\((i=some .emp/\b.rows=[])\/∃g o c sz,i=some (.blk g o c sz)/\(∀r∈b.rows,r.length=sz)/\Rd w ok (.slice (some ⟨g,o,none⟩) b.rows.length c) (.tr b.rows))
theorem Yi.mkBox {P:Program} {w:World} {ok:Nat->Prop} {ρ:Rho} {i:Option Zff} {F:List Nat} {b:Blk} (Yf:b.box=true) (Zo:b.own=true) {g:Nat} {cur:Array Value} {e:TypeId} {row:List V} (hi:i=some (.blk g 0 1 row.length)) (hg:w.heap[g]?=some (.cells cur e (0,0))) (hr:b.rows=[row]) (hs:cur.size=row.length)
  (he:∀(k:Nat) (v:Value) (x:V),cur[k]?=some v->row[k]?=some x->En w ok ρ v x) (hc:∀x∈row,cellish x=true) (hF:F=[g]):Yi P w ok ρ i F b:=by
 unfold Yi;rw[Yf];exact⟨Zo,g,cur,e,row,hi,hg,hr,hs,he,hc,hF⟩
theorem Yi.mkRow {P:Program} {w:World} {ok:Nat->Prop} {ρ:Rho} {i:Option Zff} {F:List Nat} {b:Blk} (Yf:b.box=false) (Zo:b.own=true) {g o c:Nat} {cur:Array Value} {fp:List Nat} (hi:i=some (.blk g o c (P.cellsOf b.el))) (hg:w.heap[g]?=some (.cells cur b.el (0,0))) (hl:b.rows.length<=c) (hm:c<=maxLen)
  (hu:∀r∈b.rows,r.length=P.cellsOf b.el) (hz:o+c*P.cellsOf b.el=cur.size) (hF:F=g::fp) (h1:b.cl=true->OwL w ((cur.toList.drop o).take (b.rows.length*P.cellsOf b.el)) b.rows.flatten fp)
  (h2:b.cl=false->fp=[]/\∀(k:Nat) (x:V),b.rows.flatten[k]?=some x->∃v,cur[o+k]?=some v/\Rd w ok v x):Yi P w ok ρ i F b:=by
 unfold Yi;rw[Yf,Zo];exact .inr ⟨g,o,c,cur,hi,hg,hl,hm,hu,hz,fp,hF,h1,h2⟩
theorem Yi.mkEmp {P:Program} {w:World} {ok:Nat->Prop} {ρ:Rho} {i:Option Zff} {F:List Nat} {b:Blk} (Yf:b.box=false) (Zo:b.own=true) (hi:i=some .emp) (hr:b.rows=[]) (hF:F=[]):Yi P w ok ρ i F b:=by
 unfold Yi;rw[Yf,Zo];exact .inl ⟨hi,hr,hF⟩
def Zh2 (i:Option Zff):Prop:=∃g o c sz,i=some (.blk g o c sz)/\0 < c
class Anchor where
 w:World
def Zj3 [A:Anchor] (w:World) (T:Nat->Prop):Prop:=A.w.heap.size<=w.heap.size/\(∀k,k < A.w.heap.size->w.heap[k]?=A.w.heap[k]?)/\∀g,T g->A.w.heap.size<=g
structure Zhi [Anchor] (B:Nat) (io:Nat->Prop) (w:World):Prop where
 base:B<=w.heap.size
 anch:Zj3 w (λg=>io g\/B<=g)
variable [Anchor]
structure Rel (P:Program) (B:Nat) (io:Nat->Prop) (w:World) (tmps:Array Value) (s:St) (ρ:Rho) (F:Id->List Nat) (fl:List Nat):Prop where
 env:∀(t:Nat) (v:Value),tmps[t]?=some v->En w (okS s ρ w) ρ v (s.env t)
 out:∀t,tmps.size<=t->s.env t=.undef
 heap:∀id b,s.heap id=some b->Yi P w (okS s ρ w) ρ (ρ id) (F id) b
 mine:∀id b,s.heap id=some b->b.own=true->∀g∈F id,g < w.heap.size
 top:∀id b,s.heap id=some b->b.own=true->Zh2 (ρ id)->∀g,(F id).head?=some g->io g\/B<=g
 apart:∀id id' b b',s.heap id=some b->b.own=true->s.heap id'=some b'->b'.own=true->id≠id'->∀g∈F id,g ∉ F id'
 once:∀id b,s.heap id=some b->b.own=true->(F id).Nodup
 dom:∀id,(ρ id).isSome=true->id.1<=s.ep
 base0:Zhi B io w
 flMine:∀g∈fl,g < w.heap.size
 flApart:∀id b,s.heap id=some b->b.own=true->∀g∈F id,g ∉ fl
 flOnce:fl.Nodup
structure Y9 (B:Nat) (io:Nat->Prop) (w w':World):Prop where
 os:w'.os=w.os
 tape:w'.tape=w.tape
 output:w'.output=w.output
 size:w.heap.size<=w'.heap.size
 block:∀k,k < B->¬io k->w'.heap[k]?=w.heap[k]?
theorem Zhi.step {B:Nat} {io:Nat->Prop} {w w':World} (h:Zhi B io w) (hs:w.heap.size<=w'.heap.size) (hA:∀k,k < B->¬io k->w'.heap[k]?=w.heap[k]?):Zhi B io w':=
 ⟨Vcf h.base hs,Vcf h.anch.1 hs,λk hk=>by
  rw[hA k (by
   refine Vdv (λhle=>?_);have:=h.anch.2.2 k (.inr hle);omega) (λhio=>by have:=h.anch.2.2 k (.inl hio);omega)]
  exact h.anch.2.1 k hk,h.anch.2.2⟩
theorem Zhi.left {B:Nat} {io:Nat->Prop} {w w':World} (h:Zhi B io w) (hl:Y9 B io w w'):Zhi B io w':=h.step hl.size hl.block
theorem Rel.base {P:Program} {B:Nat} {io:Nat->Prop} {w:World} {tmps:Array Value} {s:St} {ρ:Rho} {F:Id->List Nat} {fl:List Nat} (h:Rel P B io w tmps s ρ F fl):B<=w.heap.size:=h.base0.base
theorem Y9.refl (B:Nat) (io:Nat->Prop) (w:World):Y9 B io w w:=⟨rfl,rfl,rfl,Vaf _,λ_ _ _=>rfl⟩
theorem Y9.trans {B:Nat} {io:Nat->Prop} {a b c:World} (h:Y9 B io a b) (k:Y9 B io b c):Y9 B io a c:=
 ⟨k.os.trans h.os,k.tape.trans h.tape,k.output.trans h.output,Vcf h.size k.size,λi hi hn=>(k.block i hi hn).trans (h.block i hi hn)⟩
theorem Y9.below {B:Nat} {w w':World} (h:Y9 B (λ_=>False) w w'):Below B w w':=⟨h.os,h.tape,h.output,h.size,λk hk=>h.block k hk id⟩
theorem Yi.top {P:Program} {w:World} {ok:Nat->Prop} {ρ:Rho} {g o c sz:Nat} {F:List Nat} {b:Blk} (h:Yi P w ok ρ (some (.blk g o c sz)) F b) (ho:b.own=true):g∈F:=by
 unfold Yi at h;split at h
 .obtain⟨_,g',cur,e,row,hi,_,_,_,_,_,hF⟩:=h
  cases hi;rw[hF];exact Vaa
 .rcases h with⟨hi,_⟩|⟨g',o',c',cur,hi,_,_,_,_,_,fp,hF,_⟩
  .cases hi
  .cases hi
   rw[hF];exact Vaa
 .rename_i h1 h2
  rw[ho] at h2;cases h2
theorem Yi.keep {P:Program} {w w':World} {ok ok':Nat->Prop} {ρ ρ':Rho} {i:Option Zff} {F:List Nat} {b:Blk} (hk:Ze7 w w' ok ok') (hρ:∀id i,ρ id=some i->ρ' id=some i)
  (h:Yi P w (λg=>ok g/\g < w.heap.size) ρ i F b) (hF:∀g∈F,w'.heap[g]?=w.heap[g]?):Yi P w' (λg=>ok' g/\g < w'.heap.size) ρ' i F b:=by
 unfold Yi at h ⊢;split at h
 .obtain⟨h1,g,cur,e,row,hi,hg,hr,hs,he,h1c,rfl⟩:=h
  exact⟨h1,g,cur,e,row,hi,by rw[hF g Vaa];exact hg,hr,hs,λk v x hv hx=>(he k v x hv hx).keep hk hρ,h1c,rfl⟩
 .rcases h with h|⟨g,o,c,cur,hi,hg,hl,hm,hu,hz,fp,rfl,h1,h2⟩
  .exact .inl h
  .refine .inr ⟨g,o,c,cur,hi,by rw[hF g Vaa];exact hg,hl,hm,hu,hz,fp,rfl,λhc=>(h1 hc).frame λk Xi=>hF k (Vac _ Xi),λhc=>⟨(h2 hc).1,λk x hx=>?_⟩⟩
   obtain⟨v,hv,hr⟩:=(h2 hc).2 k x hx;exact⟨v,hv,hr.keep hk⟩
 .obtain⟨h0,h⟩:=h
  refine⟨h0,?_⟩;rcases h with h|⟨g,o,c,sz,hi,hu,hr⟩
  .exact .inl h
  .exact .inr ⟨g,o,c,sz,hi,hu,hr.keep hk⟩
end Go.Proofs.YthdljdelfgofdaaGreatDoor.Ev
namespace Go.Proofs.YthdljdelfgofdaaGreatDoor.Ev
open Go Go.RowKit
variable [Anchor]
theorem Zye {α:Type} {P:Program} {x:Sem α} {a:α} (h:eval? P x=some a) (w:World):x.run P w=.ok a w:=by
 induction x with
 | pure b=>simp only[eval?,ZZd] at h;subst h;rfl
 | program k ih=>simp only[eval?] at h;exact ih P h
 | _=>simp[eval?] at h
def OpR (P:Program) (o:Oper) (a:Act) (w:World) (Post:Value->World->Prop):Prop:=
 match (execOp a.eval o).run P w with
 | .ok (.value v) w'=>Post v w'
 | .ok .skip w'=>Post undef w'
 | _=>False
theorem OpR.wp {P:Program} {o:Oper} {a:Act} {w:World} {Post:Value->World->Prop} (h:OpR P o a w Post) {K:Act->World->Prop} {Q:Exit->Act->World->Prop} (hK:∀v w',Post v w'->K (a.put o.dst v) w'):o.wp P a w K Q:=by
 unfold OpR at h;unfold Oper.wp;split at h
 .rename_i W5;rw[W5];exact hK _ _ h
 .rename_i W5;rw[W5];exact hK _ _ h
 .exact h.elim
theorem OpR.value {P:Program} {o:Oper} {a:Act} {w w':World} {v:Value} {Post:Value->World->Prop} (h:(execOp a.eval o).run P w=.ok (.value v) w') (hp:Post v w'):OpR P o a w Post:=by
 unfold OpR;rw[h];exact hp
theorem OpR.skip {P:Program} {o:Oper} {a:Act} {w w':World} {Post:Value->World->Prop} (h:(execOp a.eval o).run P w=.ok .skip w') (hp:Post undef w'):OpR P o a w Post:=by
 unfold OpR;rw[h];exact hp
theorem Zgf {ρ ρ':Operand->Value} {o:Oper} (hp:Zbg o.op=true) (h:∀x∈o.op.operands.toList,ρ x=ρ' x):execOp ρ o=execOp ρ' o:=by
 obtain⟨dst,op,type,pos,after,guard⟩:=o;cases op<;>simp only[Zbg,ZZf] at hp
 case binOp op t x y yt=>
  have h1:=h x (by simp[Op.operands]);have h2:=h y (by simp[Op.operands]);simp only[execOp,h1,h2]
 case unOp op t x=>
  have h1:=h x (by simp[Op.operands]);simp only[execOp,h1]
 case convert s d x=>
  have h1:=h x (by simp[Op.operands]);simp only[execOp,h1]
 case field t x i=>
  have h1:=h x (by simp[Op.operands]);simp only[execOp,h1]
 case index t x i=>
  have h1:=h x (by simp[Op.operands]);have h2:=h i (by simp[Op.operands]);simp only[execOp,h1,h2]
 case slice t x l hi m=>
  have h1:=h x (by simp[Op.operands]);have h2:l.map ρ=l.map ρ':=by cases l<;>simp;exact h _ (by simp[Op.operands])
  have h3:hi.map ρ=hi.map ρ':=by cases hi<;>simp;exact h _ (by simp[Op.operands])
  have h4:m.map ρ=m.map ρ':=by cases m<;>simp;exact h _ (by simp[Op.operands])
  simp only[execOp,h1,h2,h3,h4]
 case call c=>
  obtain⟨callee,args,ats⟩:=c;have ha:∀b:Builtin,callee=.builtin b->args.map ρ=args.map ρ':=by
   intro b hb;apply Array.map_congr_left;intro x hx;exact h x (by simp[Op.operands,Call.operands,hb];exact hx)
  cases callee with
  | value f=>simp at hp
  | invoke r m=>simp at hp
  | builtin b=>simp only[execOp,resolve,ha b rfl]
theorem Z6y {w:World} {ok:Nat->Prop} {ρ:Rho} {v v':Value} {x:V} (h:En w ok ρ v x) (ht:Ys x=some v'):v=v':=by
 cases x<;>simp only[Ys] at ht<;>try cases ht
 case lit=>cases h;rfl
 case agg cs=>
  cases h with
  | @agg vs _ hl hc hr=>
   cases hL:Qt cs with
   | none=>rw[hL] at ht;cases ht
   | some l=>
    rw[hL] at ht;simp only[Vav,ZZd] at ht;subst ht
    congr 1
    have key:∀(cs:List V) (l:List Value),Qt cs=some l->cs=l.map .lit:=by
     intro cs
     induction cs with
     | nil=>intro l h;simp only[Qt,ZZd] at h;subst h;rfl
     | cons c cs ih=>
      intro l h;cases c<;>simp only[Qt] at h<;>try cases h
      rename_i v;cases hr:Qt cs with
      | none=>rw[hr] at h;cases h
      | some l'=>rw[hr] at h;simp only[Vav,ZZd] at h;subst h;rw[ih l' hr];rfl
    have X5:=key cs l hL;subst X5;apply Array.ext_getElem?;intro k;rw[Vcb] at hl;simp only[Vcn];by_cases hk:k < vs.size
    .have h1:vs[k]?=some vs[k]:=Vah hk
     have h2:l[k]?=some (l[k]'(by omega)):=Vab (by omega);have h3:=hr k vs[k] (.lit (l[k]'(by omega))) h1 (by rw[Vay,h2];rfl);rw[h1,h2];generalize (l[k]'(by omega))=y at h3;generalize vs[k]=z at h3;cases h3;rfl
    .rw[Vc5 (by omega),Vb0 (by omega)]
theorem Zrv {w:World} {ok:Nat->Prop} {ρ:Rho} {v:Value} {x:V} (h:Zby v=some x):En w ok ρ v x:=by
 unfold Zby at h;split at h
 .split at h
  .rename_i cs hs
   simp only[ZZd] at h;subst h;refine .agg (by simp) (λx hx=>by obtain⟨u,_,rfl⟩:=Va4.1 hx;rfl) (λk v x hv hx=>?_);simp only[Vay,ZZc] at hx;obtain⟨u,hu,rfl⟩:=hx;have:u=v:=by
    have h1:cs.toList[k]?=some v:=by simpa using hv
    rw[h1] at hu;injection hu with hu;exact hu.symm
   subst this;exact .lit (ZZk.1 hs _ (Vag hu))
  .cases h
 .split at h
  .rename_i hs
   simp only[ZZd] at h;subst h;exact .lit hs
  .cases h
theorem Rel.opV {P:Program} {B:Nat} {io:Nat->Prop} {w:World} {a:Act} {s:St} {ρ:Rho} {F:Id->List Nat} {fl:List Nat} (h:Rel P B io w a.tmps s ρ F fl) (x:Operand):En w (okS s ρ w) ρ (a.eval x) (s.opV x):=by
 cases x with
 | tmp t=>
  simp only[St.opV,Act.eval];by_cases ht:t < a.tmps.size
  .have h1:a.tmps[t]?=some a.tmps[t]:=Vah ht
   have:=h.env t a.tmps[t] h1;rw[Vbi,h1];exact this
  .rw[h.out t (Vcg ht)];exact .undef
 | const v=>
  simp only[St.opV,Act.eval];cases hv:Zby v with
  | none=>exact .undef
  | some x=>exact Zrv hv
 | global g=>exact .undef
 | func f=>exact .fn rfl (λk v x hv hx=>by simp at hx)
structure Stp (P:Program) (B:Nat) (io:Nat->Prop) (w:World) (tmps:Array Value) (s:St) (ρ:Rho) (fl:List Nat) (k:Nat) (v:V) (s':St) (val:Value) (w':World):Prop where
 env:s'.env=s.env
 ep:s'.ep=s.ep
 left:Y9 B io w w'
 ex:∃ρ' F',Rel P B io w' tmps s' ρ' F' fl/\En w' (okS s' ρ' w') ρ' val v/\(∀id i,ρ id=some i->ρ' id=some i)/\(∀id,(ρ' id).isSome=true->(ρ id).isSome=true\/(id.1=s.ep/\id.2 / 1024=k))
theorem Stp.same {P:Program} {B:Nat} {io:Nat->Prop} {w:World} {a:Act} {s:St} {ρ:Rho} {F:Id->List Nat} {fl:List Nat} {k:Nat} {v:V} {val:Value} (h:Rel P B io w a.tmps s ρ F fl) (hv:En w (okS s ρ w) ρ val v):Stp P B io w a.tmps s ρ fl k v s val w:=
 ⟨rfl,rfl,Y9.refl _ _ _,ρ,F,h,hv,λ_ _ h=>h,λ_ h=>.inl h⟩
theorem Z5n {P:Program} {B:Nat} {io:Nat->Prop} {w:World} {a:Act} {s:St} {ρ:Rho} {F:Id->List Nat} {fl:List Nat} {k:Nat} {o:Oper} {v:V} (h:Rel P B io w a.tmps s ρ F fl) (he:Ye P s.opV o=some v):
  OpR P o a w (Stp P B io w a.tmps s ρ fl k v s):=by
 unfold Ye at he;split at he
 .rename_i hc
  rw[ZZg] at hc;obtain⟨hp,Xp⟩:=hc;split at he
  .rename_i val hev
   have hcg:execOp a.eval o=execOp (λx=>(Ys (s.opV x)).getD undef) o:=Zgf hp (λx hx=>by
    have h1:=ZZk.1 Xp x hx;obtain⟨u,hu⟩:=Vaq.1 h1;rw[hu];exact Z6y (h.opV x) hu)
   exact .value (by rw[hcg];exact Zye hev w) (.same h (Zrv he))
  .cases he
 .cases he
theorem K9 {α:Type} {sz:Nat}:∀{rows:List (List α)} {i j:Nat} {row:List α} {x:α},(∀r∈rows,r.length=sz)->rows[i]?=some row->row[j]?=some x->rows.flatten[i*sz+j]?=some x:=by
 intro rows
 induction rows with
 | nil=>intro i j row x _ h;simp at h
 | cons r rs ih=>
  intro i j row x hs hi hj;have hr:r.length=sz:=hs r Vaa;cases i with
  | zero=>
   have:r=row:=by simpa using hi
   subst this;rw[Vax,Vam (by have:=(ZZh.1 hj).1;omega)];simpa using hj
  | succ i=>
   have h1:=ih (λr h=>hs r (Vac _ h)) (by simpa using hi) hj;rw[Vax,Vaj (by rw[hr,Vbu];omega),hr];rw[show (i+1)*sz+j - sz=i*sz+j by rw[Vbu];omega];exact h1
theorem Rd.en {w:World} {ok:Nat->Prop} {ρ:Rho} {v:Value} {x:V} (h:Rd w ok v x):En w ok ρ v x:=by
 induction h with
 | lit h=>exact .lit h
 | emp=>exact .tr .emp
 | tr hn hc hm hs hg hu hr ih=>exact .tr (.tr hn hc hm hs hg hu hr)
 | rp hg hu hr ih=>exact .rp (.rp hg hu hr)
 | fn hl hr ih=>exact .fn hl ih
theorem Rd.cellish {w:World} {ok:Nat->Prop} {v:Value} {x:V} (h:Rd w ok v x):cellish x=true:=by
 cases h<;>rfl
section
variable {P:Program} {B:Nat} {io:Nat->Prop} {w:World} {a:Act} {tmps:Array Value} {s:St} {ρ:Rho} {F:Id->List Nat} {fl:List Nat}
theorem Rel.cell (h:Rel P B io w tmps s ρ F fl) {id:Id} {b:Blk} {g o c sz i j:Nat} {row:List V} {x:V} (hb:s.heap id=some b) (hρ:ρ id=some (.blk g o c sz)) (hi:b.rows[i]?=some row) (hj:row[j]?=some x):
  ∃u,w.cell? ⟨g,o+i*sz+j,none⟩=some u/\(b.box=true->En w (okS s ρ w) ρ u x)/\(b.box=false->Rd w (okS s ρ w) u x):=by
 have hB:=h.heap id b hb;rw[hρ] at hB;have hF:b.own=true->∀k∈F id,k≠g->okS s ρ w k:=λho k hk Zp=>by
  refine⟨?_,h.mine id b hb ho k hk⟩;rintro⟨id',b',o',c',sz',Zn,Xy,hρ'⟩;have ht:k∈F id':=by
   have:=h.heap id' b' Zn;rw[hρ'] at this;exact this.top Xy
  by_cases e:id'=id
  .subst e
   rw[hρ] at hρ';injection hρ' with hρ';injection hρ' with hg;exact Zp hg.symm
  .exact h.apart id' id b' b Zn Xy hb ho e k ht hk
 unfold Yi at hB;split at hB
 .rename_i Yf
  obtain⟨_,g',cur,e,row',Yu,hg,hr,hs,he,h1,_⟩:=hB;cases Yu;rw[hr] at hi;have:i=0/\row'=row:=by
   cases i with
   | zero=>exact⟨rfl,by simpa using hi⟩
   | succ i=>simp at hi
  obtain⟨rfl,rfl⟩:=this;have hjl:=(ZZh.1 hj).1;have hc:cur[j]?=some cur[j]:=Vah (by omega);refine⟨cur[j],?_,λ_=>he j _ x hc hj,λhf=>by rw[Yf] at hf;cases hf⟩;rw[show 0+0*row'.length+j=j by omega,cell_of_row w g j cur e (0,0) hg];exact hc
 .rename_i Yf Zo
  rcases hB with⟨Yu,_⟩|⟨g',o',c',cur,Yu,hg,hl,hm,hu,hz,fp,J1,h1,h2⟩
  .cases Yu
  .cases Yu
   have hk:=K9 hu hi hj;cases Y4:b.cl with
   | true=>
    have hfp:∀k∈fp,okS s ρ w k:=λk hk=>hF Zo k (by rw[J1];exact Vac _ hk) (by
     rintro rfl;have:=h.once id b hb Zo;rw[J1] at this;exact (Vaz.1 this).1 hk)
    obtain⟨v,hv,hr⟩:=(h1 Y4).rd hfp hk;refine⟨v,?_,λhf=>(by rw[Yf] at hf;cases hf),λ_=>hr⟩;rw[Val] at hv;split at hv
    .rw[cell_of_row w g _ cur b.el (0,0) hg,Nat.add_assoc]
     simpa using hv
    .cases hv
   | false=>
    obtain⟨v,hv,hr⟩:=(h2 Y4).2 _ x hk;refine⟨v,?_,λhf=>(by rw[Yf] at hf;cases hf),λ_=>hr⟩;rw[cell_of_row w g _ cur b.el (0,0) hg,Nat.add_assoc];exact hv
 .rename_i Yf Zo
  obtain⟨_,hB⟩:=hB;rcases hB with⟨Yu,_⟩|⟨g',o',c',sz',Yu,hu,hr⟩
  .cases Yu
  .cases Yu
   have hk:=K9 hu hi hj;generalize b.rows=rows at hr hi hk hu;generalize hn:rows.length=n at hr;cases hr with
   | emp=>simp at hi
   | @tr _ _ _ _ sz2 _ u hn' hc' hm' hs' Zm W9 Wl=>
    have:=W9 _ x hk;exact⟨u (i*sz+j),by rw[Nat.add_assoc];exact this,λhf=>(by rw[Yf] at hf;cases hf),λ_=>Wl _ x hk⟩
theorem Rel.boxCells (h:Rel P B io w tmps s ρ F fl) {id:Id} {b:Blk} {j:Nat} {row:List V} (hb:s.heap id=some b) (Yf:b.box=true) (hr:b.rows[j]?=some row):∀x∈row,cellish x=true:=by
 have hB:=h.heap id b hb;unfold Yi at hB;rw[Yf] at hB;obtain⟨_,g,cur,e,row',_,_,hrs,_,_,hc,_⟩:=hB;rw[hrs] at hr;cases j with
 | zero=>
      have:row'=row:=by simpa using hr
      subst this;exact hc
 | succ j=>simp at hr
end
section
variable {P:Program} {B:Nat} {io:Nat->Prop} {w:World} {a:Act} {s:St} {ρ:Rho} {F:Id->List Nat} {fl:List Nat} {k:Nat} {o:Oper} {v:V}
theorem Z2m (h:Rel P B io w a.tmps s ρ F fl) {x:Operand} (ho:o.op=.move x\/o.op=.assign x) (he:s.opV x=v):OpR P o a w (Stp P B io w a.tmps s ρ fl k v s):=by
 subst he;have hr:(execOp a.eval o).run P w=.ok (.value (a.eval x)) w:=by
  rcases ho with ho|ho<;>simp[execOp,ho]
 exact .value hr (.same h (h.opV x))
theorem Yag (h:Rel P B io w a.tmps s ρ F fl) {c x y:Operand} {t:Bool} (ho:o.op=.pick c x y) (hc:s.opV c=.lit (.bool t)) (he:(if t then s.opV x else s.opV y)=v):OpR P o a w (Stp P B io w a.tmps s ρ fl k v s):=by
 have h1:=h.opV c;rw[hc] at h1;generalize hb:a.eval c=b at h1;cases h1;have hr:(execOp a.eval o).run P w=.ok (.value (if t then a.eval x else a.eval y)) w:=by
  cases t<;>simp[execOp,ho,hb,asBool]
 refine .value hr (.same h ?_);subst he;cases t
 .exact h.opV y
 .exact h.opV x
theorem Z3o (h:Rel P B io w a.tmps s ρ F fl) {t:Operand} {i:Nat} {vs:List V} (ho:o.op=.extract t i) (ht:s.opV t=.tup vs) (he:vs[i]?=some v):OpR P o a w (Stp P B io w a.tmps s ρ fl k v s):=by
 have h1:=h.opV t;rw[ht] at h1;generalize hb:a.eval t=b at h1;cases h1 with
 | @tup us _ hl hr=>
  have hi:=(ZZh.1 he).1;have hu:us[i]?=some us[i]:=Vah (by omega);have Z8:(execOp a.eval o).run P w=.ok (.value us[i]) w:=by
   simp[execOp,ho,hb,Instr.extract,hu]
  exact .value Z8 (.same h (hr i _ _ hu he))
theorem Zkc (h:Rel P B io w a.tmps s ρ F fl) {x:Operand} (ho:o.op=.nilCheck x) (hx:s.opV x=v) (hv:(∃i j n,v=.ptr i j n)\/(∃b r n,v=.rp b r n)\/(∃f cs,v=.fn f cs)):OpR P o a w (Stp P B io w a.tmps s ρ fl k v s):=by
 have h1:=h.opV x;rw[hx] at h1;have Z8:(execOp a.eval o).run P w=.ok (.value (a.eval x)) w:=by
  generalize hb:a.eval x=b at h1;rcases hv with⟨i,j,n,rfl⟩|⟨b',r,n,rfl⟩|⟨f,cs,rfl⟩
  .cases h1;simp[execOp,ho,hb]
  .cases h1 with|rp h2=>cases h2;simp[execOp,ho,hb]
  .cases h1;simp[execOp,ho,hb]
 exact .value Z8 (.same h h1)
theorem W8 (g o n:Nat):(⟨g,o,none⟩:Addr).add n=⟨g,o+n,none⟩:=by
 unfold Addr.add;split<;>simp_all
theorem Zoj (h:Rel P B io w a.tmps s ρ F fl) {t:TypeId} {x:Operand} {f off:Nat} (ho:o.op=.fieldAddr t x f) (hf:Zgu P t f=some off)
  (hv:(∃i j n,s.opV x=.ptr i j n/\v=.ptr i j (n+off))\/(∃b r n,s.opV x=.rp b r n/\v=.rp b r (n+off))):OpR P o a w (Stp P B io w a.tmps s ρ fl k v s):=by
 unfold Zgu at hf;split at hf
 .rename_i fs hu
  obtain⟨fl,J2,hf⟩:=ZZb.1 hf;split at hf
  .cases hf
  .rename_i Yx
   simp only[ZZd] at hf;subst hf;have Z4d:∃ti,P.info? fl.type=some ti/\ti.size≠0:=by
    unfold Program.cellsOf at Yx;cases hq:P.info? fl.type with
    | none=>rw[hq] at Yx;simp at Yx
    | some ti=>rw[hq] at Yx;exact⟨ti,rfl,by simpa using Yx⟩
   obtain⟨ti,Qi,Zp⟩:=Z4d;have run:∀ad:Addr,a.eval x=.pointer (some ad)->(execOp a.eval o).run P w=.ok (.value (.pointer (some (ad.add fl.offset)))) w:=by
    intro ad hb;simp[execOp,ho,hb,Instr.fieldAt,underlying,hu,J2,Instr.sureAddr,fieldPlace,Go.sizeOf,typeInfo,Qi,Zp]
   have h1:=h.opV x;rcases hv with⟨i,j,n,hx,rfl⟩|⟨b',r,n,hx,rfl⟩
   .rw[hx] at h1
    generalize hb:a.eval x=b at h1;cases h1 with
    | @ptr _ g o' c sz _ _ hρ=>
     refine .value (run _ hb) (.same h ?_);rw[W8,Nat.add_assoc (o'+j*sz)];exact .ptr hρ
   .rw[hx] at h1
    generalize hb:a.eval x=b at h1;cases h1 with
    | rp h2=>
     cases h2 with
     | @rp g o' _ _ _ u hg hu hr=>
      refine .value (run _ hb) (.same h ?_);rw[W8,Nat.add_assoc o'];exact .rp (.rp hg hu hr)
 .cases hf
theorem Q9 {t e:TypeId} (h:Xe P t=some e):P.underlying t=some (.slice e):=by
 unfold Xe at h;split at h
 .rename_i e' hu;simp only[ZZd] at h;subst h;exact hu
 .cases h
theorem Zim {w:World} {ok:Nat->Prop} {u:Value} {x:V} {n:Nat} (h:En w ok ρ u x) (hn:Y3 x=some n):∃kd,u=.int kd (n:Int):=by
 unfold Y3 at hn;split at hn
 .rename_i kd m
  split at hn
  .rename_i h0
   simp only[ZZd] at hn;cases h;exact⟨kd,by rw[<-hn,Int.toNat_of_nonneg h0]⟩
  .cases hn
 .cases hn
theorem Zig (h:Rel P B io w a.tmps s ρ F fl) {t e:TypeId} {x ix:Operand} {n:Nat} (ho:o.op=.indexAddr t x ix) (ht:Xe P t=some e) (hn:Y3 (s.opV ix)=some n)
  (hv:(∃i off len b row,s.opV x=.sl i off len/\n < len/\s.heap i=some b/\b.rows[off+n]?=some row/\row.length=Zi P e/\v=.ptr i (off+n) 0)\/
   (∃sh rows row,(s.opV x=.tr rows\/s.opV x=.vw rows)/\rows[n]?=some row/\row.length=Zi P e/\v=.rp sh row 0)) (hz:Zi P e≠0):OpR P o a w (Stp P B io w a.tmps s ρ fl k v s):=by
 have hu:=Q9 ht;obtain⟨ti,Qi,Yx⟩:∃ti,P.info? e=some ti/\ti.size=Zi P e:=by
  unfold Zi Program.cellsOf at hz ⊢;cases hq:P.info? e with
  | none=>rw[hq] at hz;simp at hz
  | some ti=>exact⟨ti,rfl,rfl⟩
 obtain⟨kd,hi⟩:=Zim (h.opV ix) hn;have run:∀(ad:Addr) (len c:Nat),a.eval x=.slice (some ad) len c->n < len->(execOp a.eval o).run P w=.ok (.value (.pointer (some (ad.add (n*Zi P e))))) w:=by
  intro ad len c hb hl;have h1:(0:Int)<=(n:Int)/\(n:Int) < (len:Int):=⟨by omega,by omega⟩;simp[execOp,ho,hb,hi,Instr.indexAt,asIntOf,underlying,hu,Go.sizeOf,typeInfo,Qi,Yx,hl]
 have h1:=h.opV x;rcases hv with⟨i,off,len,b,row,hx,hl,hb,Z6,Ks,rfl⟩|⟨sh,rows,row,hx,Z6,Ks,rfl⟩
 .rw[hx] at h1
  generalize hq:a.eval x=q at h1;cases h1 with
  | @sl _ g o' c sz _ _ hρ hc=>
   have hB:=h.heap i b hb;rw[hρ] at hB;have Z8f:sz=Zi P e:=by
    unfold Yi at hB;split at hB
    .obtain⟨_,g',cur,e',row',Yu,hg,hr,hs,he,h1,_⟩:=hB
     cases Yu;rw[hr] at Z6;cases Qc:off+n with
     | zero=>
          rw[Qc] at Z6;have:row'=row:=by simpa using Z6
          rw[this];exact Ks
     | succ m=>rw[Qc] at Z6;simp at Z6
    .rcases hB with⟨Yu,_⟩|⟨g',o'',c',cur,Yu,hg,hl',hm,W9,hz',fp,J1,h1,h2⟩
     .cases Yu
     .cases Yu
      rw[<-W9 row (Vag Z6)];exact Ks
    .obtain⟨_,hB⟩:=hB
     rcases hB with⟨Yu,_⟩|⟨g',o'',c',sz',Yu,W9,hr⟩
     .cases Yu
     .cases Yu
      rw[<-W9 row (Vag Z6)];exact Ks
   refine .value (run _ _ _ hq hl) (.same h ?_);rw[W8,<-Z8f,Nat.add_assoc,<-Nat.add_mul];exact .ptr (off:=0) hρ
  | sle=>omega
 .generalize hq:a.eval x=q at h1
  have h2:Rd w (okS s ρ w) q (.tr rows):=by
   rcases hx with hx|hx
   .rw[hx] at h1;cases h1 with|tr h=>exact h
   .rw[hx] at h1;cases h1 with|vw h=>exact h
  cases h2 with
  | emp=>simp at Z6
  | @tr g o' m c sz _ u hn' hc' hm' hs' Zm W9 Wl=>
   have hnl:=(ZZh.1 Z6).1;have Z8f:sz=Zi P e:=by rw[<-hs' row (Vag Z6)];exact Ks
   refine .value (run _ _ _ hq (by omega)) (.same h ?_);rw[W8,<-Z8f];refine .rp (.rp (off:=0) (u:=λj=>u (n*sz+j)) Zm (λj x hj=>?_) (λj x hj=>Wl _ x (K9 hs' Z6 hj)));have:=W9 _ x (K9 hs' Z6 hj);show w.cell? ⟨g,o'+n*sz+j,none⟩=_;rw[Nat.add_assoc];exact this
end
section
variable {P:Program} {B:Nat} {io:Nat->Prop} {w:World} {a:Act} {s:St} {ρ:Rho} {F:Id->List Nat} {fl:List Nat} {k:Nat} {o:Oper} {v:V}
theorem Zyo {t:TypeId} {x:Operand} {g n:Nat} {us:List Value} {cs:List V} (ho:o.op=.load t x) (hx:a.eval x=.pointer (some ⟨g,n,none⟩)) (hl:us.length=Zi P t) (Y4:us.length=cs.length) (hce:∀x∈cs,cellish x=true)
  (hc:∀j u,us[j]?=some u->w.cell? ⟨g,n+j,none⟩=some u) (he:Zbc P t cs=some v) (Yh:∀(j:Nat) (u:Value) (x:V),us[j]?=some u->cs[j]?=some x->En w (okS s ρ w) ρ u x):
  ∃u,(execOp a.eval o).run P w=.ok (.value u) w/\En w (okS s ρ w) ρ u v:=by
 unfold Zbc at he;split at he
 .rename_i Zhq
  obtain⟨d,hu⟩:=Vaq.1 Zhq;split at he
  .rename_i Zao
   simp only[ZZd] at he;subst he;obtain⟨ti,Qi⟩:∃ti,P.info? t=some ti:=by
    unfold Program.underlying at hu;split at hu
    .rename_i h;exact⟨_,h⟩
    .rename_i h;exact⟨_,h⟩
    .cases hu
   have Yx:ti.size=us.length:=by rw[hl];simp[Zi,Program.cellsOf,Qi]
   have Z8:=run_loadCells_list (P:=P) (w:=w) ⟨g,n,none⟩ us (λj u hj=>by rw[W8];exact hc j u hj);rw[<-Yx] at Z8;refine⟨.agg us.toArray,?_,(.agg (by simpa using Y4) hce (λj u x hj hx=>Yh j u x (by simpa using hj) hx))⟩;cases d<;>simp[Jd,hu] at Zao<;>simp[execOp,ho,hx,Instr.loadAt,Instr.sureAddr,loadVar,isAgg,underlying,hu,Go.sizeOf,typeInfo,Qi,Z8]
  .rename_i Zao
   split at he
   .rename_i y
    simp only[ZZd] at he;subst he
    match us,Y4 with
    | [u],_=>
     refine⟨u,?_,Yh 0 u y rfl rfl⟩;have h0:=hc 0 u rfl;simp only[Va5] at h0;cases d<;>simp[Jd,hu] at Zao<;>simp[execOp,ho,hx,Instr.loadAt,Instr.sureAddr,loadVar,isAgg,underlying,hu,load,Sem.run,h0]
   .cases he
 .cases he
theorem Z2n (h:Rel P B io w a.tmps s ρ F fl) {t:TypeId} {x:Operand} (ho:o.op=.load t x)
  (hv:(∃i j n b row,s.opV x=.ptr i j n/\s.heap i=some b/\b.rows[j]?=some row/\n+Zi P t<=row.length/\Zbc P t ((row.drop n).take (Zi P t))=some v)\/
   (∃sh row n,s.opV x=.rp sh row n/\n+Zi P t<=row.length/\Zbc P t ((row.drop n).take (Zi P t))=some v)):OpR P o a w (Stp P B io w a.tmps s ρ fl k v s):=by
 have h1:=h.opV x;rcases hv with⟨i,j,n,b,row,hx,hb,Z6,Z3,he⟩|⟨sh,row,n,hx,Z3,he⟩
 .rw[hx] at h1
  generalize hq:a.eval x=q at h1;cases h1 with
  | @ptr _ g o' c sz _ _ hρ=>
   have cell:∀(m:Nat) (y:V),row[m]?=some y->∃u,w.cell? ⟨g,o'+j*sz+m,none⟩=some u/\(b.box=true->En w (okS s ρ w) ρ u y)/\(b.box=false->Rd w (okS s ρ w) u y):=λm y hy=>h.cell hb hρ Z6 hy;have each:∀m:Nat,m < Zi P t->∃u,w.cell? ⟨g,o'+j*sz+n+m,none⟩=some u/\∀y,row[n+m]?=some y->(b.box=true->En w (okS s ρ w) ρ u y)/\(b.box=false->Rd w (okS s ρ w) u y):=by
    intro m hm;have hy:row[n+m]?=some (row[n+m]'(by omega)):=Vab (by omega);obtain⟨u,h2,h3⟩:=cell (n+m) _ hy;refine⟨u,by rw[Nat.add_assoc (o'+j*sz)];exact h2,λy hy'=>?_⟩;rw[hy] at hy';injection hy' with hy';rw[<-hy'];exact h3
   let us:List Value:=List.ofFn λm:Fin (Zi P t)=>Classical.choose (each m.1 m.2)
   have Kz:∀(m:Nat) (u:Value),us[m]?=some u->w.cell? ⟨g,o'+j*sz+n+m,none⟩=some u/\∀y,row[n+m]?=some y->(b.box=true->En w (okS s ρ w) ρ u y)/\(b.box=false->Rd w (okS s ρ w) u y):=by
    intro m u hu;obtain⟨hm,rfl⟩:=ZZh.1 hu;have hm':m < Zi P t:=by simpa [us] using hm
    have:=Vb1 (each m hm');simpa [us] using this
   have hul:us.length=Zi P t:=by simp[us]
   obtain⟨u,Z8,Yh⟩:=Zyo (P:=P) (s:=s) (ρ:=ρ) (us:=us) ho hq hul (by rw[hul];simp;omega) (by
     intro x hx;cases Yf:b.box with
     | true=>exact h.boxCells hb Yf Z6 x (Va9 (Vba hx))
     | false=>
      obtain⟨m,hm⟩:=Va2 hx;rw[Val] at hm;split at hm
      .rw[Vaw] at hm
       obtain⟨u,_,h3⟩:=cell _ x hm;exact (h3.2 Yf).cellish
      .cases hm) (λm u hu=>(Kz m u hu).1) he (λm u y hu hy=>by
     have h3:=(Kz m u hu).2;rw[Val] at hy;split at hy
     .rw[Vaw] at hy
      cases Yf:b.box with
      | true=>exact (h3 y hy).1 Yf
      | false=>exact ((h3 y hy).2 Yf).en
     .cases hy)
   exact .value Z8 (.same h Yh)
 .rw[hx] at h1
  generalize hq:a.eval x=q at h1;cases h1 with
  | rp h2=>
   cases h2 with
   | @rp g o' _ _ _ uu hg hu hr=>
    let us:List Value:=List.ofFn λm:Fin (Zi P t)=>uu (n+m.1)
    have Kz:∀(m:Nat) (u:Value),us[m]?=some u->m < Zi P t/\u=uu (n+m):=by
     intro m u hu;obtain⟨hm,rfl⟩:=ZZh.1 hu;exact⟨by simpa [us] using hm,by simp[us]⟩
    have hul:us.length=Zi P t:=by simp[us]
    obtain⟨u,Z8,Yh⟩:=Zyo (P:=P) (s:=s) (ρ:=ρ) (us:=us) ho hq hul (by rw[hul];simp;omega) (by
      intro x hx;obtain⟨m,hm⟩:=Va2 hx;rw[Val] at hm;split at hm
      .rw[Vaw] at hm
       exact (hr _ x hm).cellish
      .cases hm) (λm u hm=>by
      obtain⟨h3,rfl⟩:=Kz m u hm;have hy:row[n+m]?=some (row[n+m]'(by omega)):=Vab (by omega);rw[Nat.add_assoc];exact hu _ _ hy) he (λm u y hm hy=>by
      obtain⟨h3,rfl⟩:=Kz m u hm;rw[Val,ZZj h3,Vaw] at hy;exact (hr _ y hy).en)
    exact .value Z8 (.same h Yh)
theorem Zx4 (h:Rel P B io w a.tmps s ρ F fl) {x:Operand} {t:TypeId} {n:Nat} (ho:o.op=.call {callee:=.builtin .len,args:=#[x],argTypes:=#[t]}) (ht:(Xe P t).isSome=true)
  (hv:(∃i off,s.opV x=.sl i off n)\/(∃rows,(s.opV x=.tr rows\/s.opV x=.vw rows)/\n=rows.length)) (he:v=.lit (.int .i64 n)):OpR P o a w (Stp P B io w a.tmps s ρ fl k v s):=by
 subst he;obtain⟨e,Xw⟩:=Vaq.1 ht;have hu:=Q9 Xw;have hq:∃A c,a.eval x=.slice A n c:=by
  have h1:=h.opV x;generalize a.eval x=q at h1;rcases hv with⟨i,off,hx⟩|⟨rows,hx,rfl⟩
  .rw[hx] at h1
   cases h1 with
   | sl=>exact⟨_,_,rfl⟩
   | sle=>exact⟨_,_,rfl⟩
  .have h2:Rd w (okS s ρ w) q (.tr rows):=by
    rcases hx with hx|hx
    .rw[hx] at h1;cases h1 with|tr h=>exact h
    .rw[hx] at h1;cases h1 with|vw h=>exact h
   cases h2 with
   | emp=>exact⟨_,_,rfl⟩
   | tr hn=>exact⟨_,_,by rw[hn]⟩
 obtain⟨A,c,hq⟩:=hq;have hr:(execOp a.eval o).run P w=.ok (.value (.int .i64 n)) w:=by
  simp[execOp,ho,resolve,invoke,builtin,hq,Builtin.len_,underlying,hu,goInt]
 exact .value hr (.same h (.lit rfl))
theorem Z1f (h:Rel P B io w a.tmps s ρ F fl) {f:FuncId} {caps:Array Operand} (ho:o.op=.makeFunc (.func f) #[] caps) (he:v=.fn f (caps.toList.map s.opV)):OpR P o a w (Stp P B io w a.tmps s ρ fl k v s):=by
 subst he;have hr:(execOp a.eval o).run P w=.ok (.value (.func (.func f) #[] (caps.map a.eval))) w:=by
  simp[execOp,ho,Instr.makeFunc]
 refine .value hr (.same h (.fn (by simp) (λj u x hu hx=>?_)));simp only[Vay,ZZc,Array.getElem?_map] at hu hx;obtain⟨y,hy,rfl⟩:=hu;obtain⟨z,hz,rfl⟩:=hx;have:y=z:=by
  have h1:caps.toList[j]?=some y:=by simpa using hy
  rw[h1] at hz;injection hz
 subst this;exact h.opV y
end
theorem Zl {α β:Type} [DecidableEq α] (f:α->β) (a:α) (b:β):upd f a b a=b:=by simp[upd]
theorem Zz {α β:Type} [DecidableEq α] {f:α->β} {a x:α} {b:β} (h:x≠a):upd f a b x=f x:=by simp[upd,h]
section
variable {P:Program} {B:Nat} {io:Nat->Prop} {w w':World} {tmps:Array Value} {s s':St} {ρ ρ':Rho} {F F':Id->List Nat} {fl fl':List Nat}
theorem Rel.steps (h:Rel P B io w tmps s ρ F fl) (N:Id->Prop) (Wm:∀t v,tmps[t]?=some v->En w' (okS s' ρ' w') ρ' v (s'.env t)) (Z8g:∀t,tmps.size<=t->s'.env t=.undef) (Zu:s'.ep=s.ep) (Jg:∀id b,¬N id->s'.heap id=some b->s.heap id=some b)
  (hρ:∀id i,ρ id=some i->ρ' id=some i) (Zcx:∀id,(ρ' id).isSome=true->(ρ id).isSome=true\/id.1=s.ep) (hρn:∀id,¬N id->ρ' id=ρ id) (hFn:∀id,¬N id->F' id=F id)
  (hk:Ze7 w w' (λg=>¬tops s ρ g) (λg=>¬tops s' ρ' g)) (ht:∀id b,¬N id->s'.heap id=some b->∀g∈F id,w'.heap[g]?=w.heap[g]?)
  (hA:∀k,k < B->¬io k->w'.heap[k]?=w.heap[k]?) (hn:∀id b,N id->s'.heap id=some b->Yi P w' (okS s' ρ' w') ρ' (ρ' id) (F' id) b) (hnm:∀id b,N id->s'.heap id=some b->b.own=true->(∀g∈F' id,g < w'.heap.size)/\(Zh2 (ρ' id)->∀g,(F' id).head?=some g->io g\/B<=g))
  (hna:∀id b,N id->s'.heap id=some b->b.own=true->∀id' b',id≠id'->s'.heap id'=some b'->b'.own=true->∀g∈F' id',g ∉ F' id) (K0:∀id b,N id->s'.heap id=some b->b.own=true->(F' id).Nodup)
  (Z8h:∀g∈fl',g < w'.heap.size) (Z8i:∀id b,s'.heap id=some b->b.own=true->∀g∈F' id,g ∉ fl') (Zr2:fl'.Nodup):
  Rel P B io w' tmps s' ρ' F' fl' where
 env:=Wm
 out:=Z8g
 heap:=λid b hb=>by
  by_cases e:N id
  .exact hn id b e hb
  .rw[hρn id e,hFn id e]
   exact (show Yi P w (λg=>(¬tops s ρ g)/\g < w.heap.size) ρ (ρ id) (F id) b from h.heap id b (Jg id b e hb)).keep hk hρ (ht id b e hb)
 mine:=λid b hb ho g hg=>by
  by_cases e:N id
  .exact (hnm id b e hb ho).1 g hg
  .rw[hFn id e] at hg
   exact Va3 (h.mine id b (Jg id b e hb) ho g hg) hk.size
 top:=λid b hb ho hc g hg=>by
  by_cases e:N id
  .exact (hnm id b e hb ho).2 hc g hg
  .rw[hFn id e] at hg
   exact h.top id b (Jg id b e hb) ho (by rw[<-hρn id e];exact hc) g hg
 apart:=λid id' b b' hb ho Zn Xy Zp g hg Zm=>by
  by_cases e:N id
  .exact hna id b e hb ho id' b' Zp Zn Xy g Zm hg
  .by_cases e':N id'
   .exact hna id' b' e' Zn Xy id b (Ne.symm Zp) hb ho g hg Zm
   .rw[hFn id e] at hg
    rw[hFn id' e'] at Zm;exact h.apart id id' b b' (Jg id b e hb) ho (Jg id' b' e' Zn) Xy Zp g hg Zm
 once:=λid b hb ho=>by
  by_cases e:N id
  .exact K0 id b e hb ho
  .rw[hFn id e];exact h.once id b (Jg id b e hb) ho
 dom:=λid Zg=>by
  rw[Zu];rcases Zcx id Zg with h1|h1
  .exact h.dom id h1
  .omega
 base0:=h.base0.step hk.size hA
 flMine:=Z8h
 flApart:=Z8i
 flOnce:=Zr2
theorem Rel.envKeep (h:Rel P B io w tmps s ρ F fl) (Wm:s'.env=s.env) (hρ:∀id i,ρ id=some i->ρ' id=some i) (hk:Ze7 w w' (λg=>¬tops s ρ g) (λg=>¬tops s' ρ' g)):∀t v,tmps[t]?=some v->En w' (okS s' ρ' w') ρ' v (s'.env t):=λt v hv=>by
 rw[Wm];exact (show En w (λg=>(¬tops s ρ g)/\g < w.heap.size) ρ v (s.env t) from h.env t v hv).keep hk hρ
theorem Rel.step (h:Rel P B io w tmps s ρ F fl) (nid:Id) (Wm:s'.env=s.env) (Zu:s'.ep=s.ep) (Jg:∀id b,id≠nid->s'.heap id=some b->s.heap id=some b)
  (hρ:∀id i,ρ id=some i->ρ' id=some i) (Zcx:∀id,(ρ' id).isSome=true->(ρ id).isSome=true\/id.1=s.ep) (hρn:∀id,id≠nid->ρ' id=ρ id) (hFn:∀id,id≠nid->F' id=F id)
  (hk:Ze7 w w' (λg=>¬tops s ρ g) (λg=>¬tops s' ρ' g)) (ht:∀id b,id≠nid->s'.heap id=some b->∀g∈F id,w'.heap[g]?=w.heap[g]?)
  (hA:∀k,k < B->¬io k->w'.heap[k]?=w.heap[k]?) (hn:∀b,s'.heap nid=some b->Yi P w' (okS s' ρ' w') ρ' (ρ' nid) (F' nid) b) (hnm:∀b,s'.heap nid=some b->b.own=true->(∀g∈F' nid,g < w'.heap.size)/\(Zh2 (ρ' nid)->∀g,(F' nid).head?=some g->io g\/B<=g))
  (hna:∀b,s'.heap nid=some b->b.own=true->∀id b',id≠nid->s'.heap id=some b'->b'.own=true->∀g∈F id,g ∉ F' nid) (K0:∀b,s'.heap nid=some b->b.own=true->(F' nid).Nodup)
  (Z8h:∀g∈fl',g < w'.heap.size) (Z8i:∀id b,id≠nid->s'.heap id=some b->b.own=true->∀g∈F id,g ∉ fl') (hfln:∀b,s'.heap nid=some b->b.own=true->∀g∈F' nid,g ∉ fl') (Zr2:fl'.Nodup):
  Rel P B io w' tmps s' ρ' F' fl':=
 h.steps (N:=λid=>id=nid) (h.envKeep Wm hρ hk) (λt ht=>by rw[Wm];exact h.out t ht) Zu Jg hρ Zcx hρn hFn hk ht hA (λid b e hb=>by subst e;exact hn b hb) (λid b e hb ho=>by subst e;exact hnm b hb ho)
  (λid b e hb ho id' b' Zp Zn Xy g hg=>by subst e;rw[hFn id' (Ne.symm Zp)] at hg;exact hna b hb ho id' b' (Ne.symm Zp) Zn Xy g hg) (λid b e hb ho=>by subst e;exact K0 b hb ho) Z8h
  (λid b hb ho g hg=>by
   by_cases e:id=nid
   .subst e;exact hfln b hb ho g hg
   .rw[hFn id e] at hg;exact Z8i id b e hb ho g hg) Zr2
theorem Ze7.same (hs:∀g,tops s' ρ' g->tops s ρ g):Ze7 w w (λg=>¬tops s ρ g) (λg=>¬tops s' ρ' g):=
 ⟨λ_ _ _=>rfl,λg hg _ ht=>hg (hs g ht),Vaf _⟩
theorem Zi4 {id:Id}:∀g,tops (s.kill id) ρ g->tops s ρ g:=by
 rintro g ⟨id',b,o,c,sz,hb,ho,hρ⟩;refine⟨id',b,o,c,sz,?_,ho,hρ⟩;simp only[St.kill,upd] at hb;split at hb
 .cases hb
 .exact hb
theorem Kf {id id':Id} {b:Blk} (h:(s.kill id).heap id'=some b):s.heap id'=some b:=by
 simp only[St.kill,upd] at h;split at h
 .cases h
 .exact h
theorem Xo {id:Id}:(s.kill id).heap id=none:=by simp[St.kill,upd]
theorem Rel.kill (h:Rel P B io w tmps s ρ F fl) (id:Id):Rel P B io w tmps (s.kill id) ρ F fl:=
 h.step (nid:=id) rfl rfl (λid' b _ hb=>Kf hb) (λ_ _ h=>h) (λ_ h=>.inl h) (λ_ _=>rfl) (λ_ _=>rfl) (.same Zi4) (λ_ _ _ _ _ _=>rfl) (λ_ _ _=>rfl)
  (λb hb=>by rw[Xo] at hb;cases hb) (λb hb=>by rw[Xo] at hb;cases hb) (λb hb=>by rw[Xo] at hb;cases hb) (λb hb=>by rw[Xo] at hb;cases hb)
  h.flMine (λid' b e hb ho=>h.flApart id' b (Kf hb) ho) (λb hb=>by rw[Xo] at hb;cases hb) h.flOnce
theorem Rel.float (h:Rel P B io w tmps s ρ F fl) {id:Id} {b:Blk} (hb:s.heap id=some b) (ho:b.own=true):Rel P B io w tmps (s.kill id) ρ F (F id++fl):=by
 refine h.step (nid:=id) rfl rfl (λid' b _ hb=>Kf hb) (λ_ _ h=>h) (λ_ h=>.inl h) (λ_ _=>rfl) (λ_ _=>rfl) (.same Zi4) (λ_ _ _ _ _ _=>rfl) (λ_ _ _=>rfl)
  (λb hb=>by rw[Xo] at hb;cases hb) (λb hb=>by rw[Xo] at hb;cases hb) (λb hb=>by rw[Xo] at hb;cases hb) (λb hb=>by rw[Xo] at hb;cases hb)
  (λg hg=>?_) (λid' b' e Zn Xy g hg Zm=>?_) (λb hb=>by rw[Xo] at hb;cases hb) ?_
 .rcases Vak.1 hg with hg|hg
  .exact h.mine id b hb ho g hg
  .exact h.flMine g hg
 .rcases Vak.1 Zm with Zm|Zm
  .exact h.apart id' id b' b (Kf Zn) Xy hb ho e g hg Zm
  .exact h.flApart id' b' (Kf Zn) Xy g hg Zm
 .exact Vat.2 ⟨h.once id b hb ho,h.flOnce,λa ha b' Zn e=>h.flApart id b hb ho a ha (e▸Zn)⟩
theorem Rel.ok_of_F (h:Rel P B io w tmps s ρ F fl) {id:Id} {b:Blk} {i:Zff} (hb:s.heap id=some b) (ho:b.own=true) (hi:ρ id=some i) {k:Nat} (hk:k∈F id) (Zp:∀g o c sz,i=.blk g o c sz->k≠g):okS s ρ w k:=by
 refine⟨?_,h.mine id b hb ho k hk⟩;rintro⟨id',b',o',c',sz',Zn,Xy,hρ'⟩;have ht:k∈F id':=by
  have:=h.heap id' b' Zn;rw[hρ'] at this;exact this.top Xy
 by_cases e:id'=id
 .subst e
  rw[hi] at hρ';injection hρ' with hρ';exact Zp _ _ _ _ hρ' rfl
 .exact h.apart id' id b' b Zn Xy hb ho e k ht hk
theorem Rel.ok_fl (h:Rel P B io w tmps s ρ F fl) {k:Nat} (hk:k∈fl):okS s ρ w k:=by
 refine⟨?_,h.flMine k hk⟩;rintro⟨id',b',o',c',sz',Zn,Xy,hρ'⟩;have ht:k∈F id':=by
  have:=h.heap id' b' Zn;rw[hρ'] at this;exact this.top Xy
 exact h.flApart id' b' Zn Xy k ht hk
end
theorem OwL.drop {w:World}:∀(n:Nat) {vs:List Value} {xs:List V} {fp:List Nat},OwL w vs xs fp->∃fp',OwL w (vs.drop n) (xs.drop n) fp'/\fp'.Sublist fp:=by
 intro n
 induction n with
 | zero=>intro vs xs fp h;exact⟨fp,h,Vby _⟩
 | succ n ih=>
  intro vs xs fp h;cases xs with
  | nil=>cases h;exact⟨[],.nil,Vby _⟩
  | cons x xs=>
   cases h with
   | @cons v _ vs _ f1 f2 h hs=>
    obtain⟨fp',h1,h2⟩:=ih hs;exact⟨fp',h1,h2.trans (Va6 _ _)⟩
theorem OwL.take {w:World}:∀(n:Nat) {vs:List Value} {xs:List V} {fp:List Nat},OwL w vs xs fp->∃fp',OwL w (vs.take n) (xs.take n) fp'/\fp'.Sublist fp:=by
 intro n
 induction n with
 | zero=>intro vs xs fp h;exact⟨[],by simp;exact .nil,List.nil_sublist _⟩
 | succ n ih=>
  intro vs xs fp h;cases xs with
  | nil=>cases h;exact⟨[],.nil,Vby _⟩
  | cons x xs=>
   cases h with
   | @cons v _ vs _ f1 f2 h hs=>
    obtain⟨fp',h1,h2⟩:=ih hs;exact⟨f1++fp',.cons h h1,Vci (Vby _) h2⟩
theorem Wo {α:Type} {sz:Nat}:∀{rows:List (List α)},(∀r∈rows,r.length=sz)->rows.flatten.length=rows.length*sz:=by
 intro rows
 induction rows with
 | nil=>intro _;simp
 | cons r rs ih=>intro h;rw[Vax,Vas,ih (λr hr=>h r (Vac _ hr)),h r Vaa,Vad,Vbu];omega
theorem Zkd {α:Type} {sz:Nat}:∀{rows:List (List α)} {k:Nat} {x:α},(∀r∈rows,r.length=sz)->rows.flatten[k]?=some x->∃i j row,rows[i]?=some row/\row[j]?=some x/\k=i*sz+j:=by
 intro rows
 induction rows with
 | nil=>intro k x _ h;simp at h
 | cons r rs ih=>
  intro k x h hk;have hr:r.length=sz:=h r Vaa;rw[Vax] at hk;by_cases Zs:k < r.length
  .rw[Vam Zs] at hk
   exact⟨0,k,r,rfl,hk,by omega⟩
  .rw[Vaj (by omega)] at hk
   obtain⟨i,j,row,h1,h2,h3⟩:=ih (λr hr=>h r (Vac _ hr)) hk;exact⟨i+1,j,row,by simpa using h1,h2,by rw[Vbu];omega⟩
theorem Zcd {α:Type} {sz:Nat}:∀(n:Nat) {rows:List (List α)},(∀r∈rows,r.length=sz)->rows.flatten.drop (n*sz)=(rows.drop n).flatten:=by
 intro n
 induction n with
 | zero=>intro rows _;simp
 | succ n ih=>
  intro rows h;cases rows with
  | nil=>simp
  | cons r rs=>
   have hr:r.length=sz:=h r Vaa;rw[Vax,Vdf,<-ih (λr hr=>h r (Vac _ hr)),Vbu,Vdw,<-List.drop_drop]
   congr 1
   rw[<-hr];simp
theorem Ziv {α:Type} {sz:Nat}:∀(n:Nat) {rows:List (List α)},(∀r∈rows,r.length=sz)->rows.flatten.take (n*sz)=(rows.take n).flatten:=by
 intro n
 induction n with
 | zero=>intro rows _;simp
 | succ n ih=>
  intro rows h;cases rows with
  | nil=>simp
  | cons r rs=>
   have hr:r.length=sz:=h r Vaa;rw[Vax,Vdg,Vax,<-ih (λr hr=>h r (Vac _ hr)),Vbu,Vdw,List.take_append,hr,Vbq]
   congr 1
   rw[Va7 (by omega)]
def OwT (P:Program) (w:World) (e:TypeId) (u:Value) (rows:List (List V)) (fp:List Nat):Prop:=
 (∃A,u=.slice A 0 0/\rows=[]/\fp=[])\/
 ∃g o c cur fp',u=.slice (some ⟨g,o,none⟩) rows.length c/\w.heap[g]?=some (.cells cur e (0,0))/\rows.length<=c/\c<=maxLen/\(∀r∈rows,r.length=P.cellsOf e)/\o+c*P.cellsOf e=cur.size/\
  OwL w ((cur.toList.drop o).take (rows.length*P.cellsOf e)) rows.flatten fp'/\fp=g::fp'
theorem OwT.ow {P:Program} {w:World} {e:TypeId} {u:Value} {rows:List (List V)} {fp:List Nat} (h:OwT P w e u rows fp):Ow w u (.tr rows) fp:=by
 rcases h with⟨A,rfl,rfl,rfl⟩|⟨g,o,c,cur,fp',rfl,hg,hl,hm,hu,hz,hO,rfl⟩
 .exact .emp
 .exact .tr hg rfl hl hm hu hz hO
section
variable {P:Program} {B:Nat} {io:Nat->Prop} {w w':World} {tmps:Array Value} {s s':St} {ρ ρ':Rho} {F F':Id->List Nat} {fl fl':List Nat}
theorem Rel.less (h:Rel P B io w tmps s ρ F fl) {fl':List Nat} (hs:fl'.Sublist fl):Rel P B io w tmps s ρ F fl':=
 {h with
  flMine:=λg hg=>h.flMine g (hs.subset hg)
  flApart:=λid b hb ho g hg Zm=>h.flApart id b hb ho g hg (hs.subset Zm)
  flOnce:=h.flOnce.sublist hs}
theorem Rel.perm (h:Rel P B io w tmps s ρ F fl) {fl':List Nat} (hs:fl'.Perm fl):Rel P B io w tmps s ρ F fl':=
 {h with
  flMine:=λg hg=>h.flMine g (hs.mem_iff.1 hg)
  flApart:=λid b hb ho g hg Zm=>h.flApart id b hb ho g hg (hs.mem_iff.1 Zm)
  flOnce:=hs.nodup_iff.2 h.flOnce}
theorem Rel.whole2 (h:Rel P B io w tmps s ρ F fl) {id:Id} {off len:Nat} {e:TypeId} {rows:List (List V)} {u:Value} (hu:En w (okS s ρ w) ρ u (.sl id off len)) (hw:s.whole id off len=some (e,rows)):
  ∃fp,Rel P B io w tmps (s.kill id) ρ F (fp++fl)/\OwT P w e u rows fp/\∀g,fp.head?=some g->(F id).head?=some g/\Zh2 (ρ id):=by
 unfold St.whole at hw;obtain⟨b,hb,hw⟩:=ZZb.1 hw;split at hw
 .rename_i hc
  obtain⟨Yf,Zo,Y4,Z3⟩:=hc;simp only[ZZd,ZZe] at hw;obtain⟨rfl,rfl⟩:=hw;have J2:=h.float hb Zo;cases hu with
  | sle hi=>exact⟨[],J2.less (Va6 _ _),.inl ⟨_,rfl,by simp,rfl⟩,λg hg=>by simp at hg⟩
  | @sl _ g o c sz _ _ hρ hc=>
   have hB:=h.heap id b hb;rw[hρ] at hB;unfold Yi at hB;rw[Yf,Zo] at hB;rcases hB with⟨Yu,_⟩|⟨g',o',c',cur,Yu,hg,hl,hm,Wn,hz,fp,J1,h1,h2⟩
   .cases Yu
   .cases Yu
    obtain⟨f1,ho1,Jh⟩:=(h1 Y4).drop (off*P.cellsOf b.el);obtain⟨f2,ho2,hs2⟩:=ho1.take (len*P.cellsOf b.el);have Zr3:∀r∈b.rows.drop off,r.length=P.cellsOf b.el:=λr hr=>Wn r (Va9 hr);rw[Zcd off Wn,Ziv len Zr3] at ho2;have Kj:(((cur.toList.drop o).take (b.rows.length*P.cellsOf b.el)).drop (off*P.cellsOf b.el)).take (len*P.cellsOf b.el)=(cur.toList.drop (o+off*P.cellsOf b.el)).take (len*P.cellsOf b.el):=by
     rw[List.drop_take,List.drop_drop,List.take_take]
     congr 1
     have:(off+len)*P.cellsOf b.el<=b.rows.length*P.cellsOf b.el:=Vbr _ Z3;rw[Nat.add_mul] at this;omega
    rw[Kj] at ho2;have hlr:((b.rows.drop off).take len).length=len:=by simp;omega
    by_cases hc0:c - off=0
    .have hl0:len=0:=by omega
     subst hl0;exact⟨[],J2.less (Va6 _ _),.inl ⟨_,by rw[hc0],by simp,rfl⟩,λg hg=>by simp at hg⟩
    refine⟨g::f2,J2.less ?_,.inr ⟨g,o+off*P.cellsOf b.el,c - off,cur,f2,by rw[hlr],hg,by rw[hlr];omega,by omega,λr hr=>Zr3 r (Vba hr),?_,by rw[hlr];exact ho2,rfl⟩,λg' Zm=>⟨by rw[J1];exact Zm,g,o,c,_,hρ,by omega⟩⟩
    .rw[J1,Vbz,Vbz]
     exact (Vci (hs2.trans Jh) (Vby _)).cons_cons _
    .have:off*P.cellsOf b.el+(c - off)*P.cellsOf b.el=c*P.cellsOf b.el:=by rw[<-Nat.add_mul];congr 1;omega
     omega
 .cases hw
theorem Rel.whole (h:Rel P B io w tmps s ρ F fl) {id:Id} {off len:Nat} {e:TypeId} {rows:List (List V)} {u:Value} (hu:En w (okS s ρ w) ρ u (.sl id off len)) (hw:s.whole id off len=some (e,rows)):
  ∃fp,Rel P B io w tmps (s.kill id) ρ F (fp++fl)/\OwT P w e u rows fp:=by
 obtain⟨fp,h1,h2,_⟩:=h.whole2 hu hw;exact⟨fp,h1,h2⟩
theorem Rel.rowsOf (h:Rel P B io w tmps s ρ F fl) {x:V} {u:Value} {rows:List (List V)} {ok':Nat->Prop} (hu:En w (okS s ρ w) ρ u x) (hr:s.rowsOf x=some rows) (Zy:∀g,okS s ρ w g->ok' g)
  (Yq:∀id off len b g o c sz,x=.sl id off len->s.heap id=some b->b.own=true->ρ id=some (.blk g o c sz)->g < w.heap.size->g ∉ fl->ok' g):Rd w ok' u (.tr rows):=by
 have up:∀{v:Value} {y:V},Rd w (okS s ρ w) v y->Rd w ok' v y:=λhv=>hv.mono (λ_ _ _=>rfl) Zy;unfold St.rowsOf at hr;split at hr
 .rename_i id off len
  obtain⟨b,hb,hr⟩:=ZZb.1 hr;split at hr
  .rename_i hc
   obtain⟨Yf,Z3⟩:=hc;simp only[ZZd] at hr;subst hr;cases hu with
   | sle hi=>simp only[List.take_zero];exact .emp
   | @sl _ g o c sz _ _ hρ hc=>
    by_cases Zp:(b.rows.drop off).take len=[]
    .have hl0:len=0:=by
      have:=congrArg List.length Zp;simp at this;omega
     subst hl0;rw[Zp];exact .emp
    have hB:=h.heap id b hb;rw[hρ] at hB;have hcm:c<=maxLen/\(∀r∈b.rows,r.length=sz)/\ok' g:=by
     unfold Yi at hB;rw[Yf] at hB;generalize Zo:b.own=ow at hB;cases ow with
     | true=>
      rcases hB with⟨Yu,_⟩|⟨g',o',c',cur,Yu,hg,hl,hm,Wn,hz,fp,J1,h1,h2'⟩
      .cases Yu
      .cases Yu
       exact⟨hm,Wn,Yq id off len b g o c _ rfl hb Zo hρ (Van.1 hg).1 (h.flApart id b hb Zo g (by rw[J1];exact Vaa))⟩
     | false=>
      obtain⟨_,hB⟩:=hB;rcases hB with⟨Yu,_⟩|⟨g',o',c',sz',Yu,Wn,hr⟩
      .cases Yu
      .cases Yu
       generalize hrw:b.rows=rws at hr Wn Zp;generalize hn:rws.length=n at hr;cases hr with
       | emp=>simp at Zp
       | tr hn' hc' hm' hs' Zm W9 Wl=>exact⟨hm',Wn,Zy g Zm⟩
    have hlr:((b.rows.drop off).take len).length=len:=by simp;omega
    have Zr3:∀r∈(b.rows.drop off).take len,r.length=sz:=λr hr=>hcm.2.1 r (Va9 (Vba hr));have cellAt:∀(k:Nat) (x:V),((b.rows.drop off).take len).flatten[k]?=some x->∃u,w.cell? ⟨g,o+off*sz+k,none⟩=some u/\Rd w ok' u x:=by
     intro k x hk;obtain⟨i,j,row,hi,hj,rfl⟩:=Zkd Zr3 hk;rw[Val] at hi;split at hi
     .rw[Vaw] at hi
      obtain⟨u,h1,_,h2⟩:=h.cell hb hρ hi hj;refine⟨u,?_,up (h2 Yf)⟩;rw[show o+off*sz+(i*sz+j)=o+(off+i)*sz+j by rw[Nat.add_mul];omega];exact h1
     .cases hi
    have each:∀k,∃u:Value,∀x,((b.rows.drop off).take len).flatten[k]?=some x->w.cell? ⟨g,o+off*sz+k,none⟩=some u/\Rd w ok' u x:=by
     intro k;cases hk:((b.rows.drop off).take len).flatten[k]? with
     | none=>exact⟨undef,λx hx=>by cases hx⟩
     | some y=>
      obtain⟨u,h1,h2⟩:=cellAt k y hk;exact⟨u,λx hx=>by injection hx with hx;subst hx;exact⟨h1,h2⟩⟩
    obtain⟨uf,huf⟩:=Vc3 each;exact .tr (u:=uf) hlr (by omega) (by omega) Zr3 hcm.2.2 (λk x hk=>(huf k x hk).1) (λk x hk=>(huf k x hk).2)
  .cases hr
 .simp only[ZZd] at hr;subst hr;cases hu with|tr h=>exact up h
 .simp only[ZZd] at hr;subst hr;cases hu with|vw h=>exact up h
 .simp only[ZZd] at hr;subst hr;cases hu;exact .emp
 .cases hr
theorem En.kill {id:Id} {v:Value} {x:V} (h:En w (okS s ρ w) ρ v x):En w (okS (s.kill id) ρ w) ρ v x:=
 (show En w (λg=>(¬tops s ρ g)/\g < w.heap.size) ρ v x from h).keep (.same Zi4) (λ_ _ h=>h)
theorem Zh1 {id:Id} {g:Nat} (h:okS s ρ w g):okS (s.kill id) ρ w g:=⟨λht=>h.1 (Zi4 g ht),h.2⟩
theorem Z1y:∀(xs:List V) {us:List Value} {s:St} {fl:List Nat} {ys:List V} {c:Bool} {s':St},Rel P B io w tmps s ρ F fl->us.length=xs.length->
  (∀(k:Nat) (u:Value) (x:V),us[k]?=some u->xs[k]?=some x->En w (okS s ρ w) ρ u x)->s.sink xs=some (ys,c,s')->
  ∃fp,Rel P B io w tmps s' ρ F (fp++fl)/\us.length=ys.length/\(c=true->OwL w us ys fp)/\(∀(k:Nat) (u:Value) (y:V),us[k]?=some u->ys[k]?=some y->Rd w (okS s' ρ w) u y)/\
   s'.env=s.env/\s'.ep=s.ep/\(∀id b,s'.heap id=some b->s.heap id=some b)/\(∀g,okS s ρ w g->okS s' ρ w g):=by
 intro xs
 induction xs with
 | nil=>
  intro us s fl ys c s' h hl Yh hs;simp only[St.sink,ZZd,ZZe] at hs;obtain⟨rfl,rfl,rfl⟩:=hs;have:us=[]:=Var (by simpa using hl);subst this;exact⟨[],h,rfl,λ_=>.nil,λk u y hu=>by simp at hu,rfl,rfl,λ_ _ h=>h,λ_ h=>h⟩
 | cons x xs ih=>
  intro us s fl ys c s' h hl Yh hs
  match us,hl with
  | u::us,hl=>
   have hu:=Yh 0 u x rfl rfl;have Zmz:∀(k:Nat) (v:Value) (y:V),us[k]?=some v->xs[k]?=some y->En w (okS s ρ w) ρ v y:=λk v y hv hy=>Yh (k+1) v y (by simpa using hv) (by simpa using hy);have hl':us.length=xs.length:=by simpa using hl
   have plain:∀(y:V) (c0:Bool),(c0=true->Ow w u y [])->Rd w (okS s ρ w) u y->∀{r:List V×Bool×St},s.sink xs=some r->ys=y::r.1->c=(c0&&r.2.1)->s'=r.2.2->
     ∃fp,Rel P B io w tmps s' ρ F (fp++fl)/\(u::us).length=ys.length/\(c=true->OwL w (u::us) ys fp)/\(∀(k:Nat) (u':Value) (y:V),(u::us)[k]?=some u'->ys[k]?=some y->Rd w (okS s' ρ w) u' y)/\
      s'.env=s.env/\s'.ep=s.ep/\(∀id b,s'.heap id=some b->s.heap id=some b)/\(∀g,okS s ρ w g->okS s' ρ w g):=by
    rintro y c0 hOw hRd ⟨r1,r2,r3⟩ hr rfl rfl rfl;obtain⟨fp,h1,h2,h3,h4,h5,h6,h7,h8⟩:=ih h hl' Zmz hr;refine⟨fp,h1,by simpa using h2,λhc=>?_,λk u' y' W9 hy'=>?_,h5,h6,h7,h8⟩
    .rw[ZZg] at hc
     have:=OwL.cons (hOw hc.1) (h3 hc.2);simpa using this
    .cases k with
     | zero=>
      have e1:u=u':=by simpa using W9
      have e2:y=y':=by simpa using hy'
      subst e1;subst e2;exact hRd.mono (λ_ _ _=>rfl) h8
     | succ k=>exact h4 k u' y' (by simpa using W9) (by simpa using hy')
   unfold St.sink at hs;split at hs
   .obtain⟨r,hr,hq⟩:=ZZc.1 hs
    simp only[ZZe] at hq;obtain⟨rfl,hq2⟩:=hq;cases hu;exact plain _ true (λ_=>.emp) .emp hr rfl (by rw[hq2];simp) (by rw[hq2])
   .rename_i Zp
    obtain⟨r,hr,hq⟩:=ZZc.1 hs;simp only[ZZe] at hq;obtain⟨rfl,hq2⟩:=hq;cases hu with
    | lit hsc=>exact plain _ true (λ_=>.lit hsc) (.lit hsc) hr rfl (by rw[hq2];simp) (by rw[hq2])
   .obtain⟨r,hr,hq⟩:=ZZc.1 hs
    simp only[ZZe] at hq;obtain⟨rfl,hc,hq2⟩:=hq;cases hu with
    | tr h2=>exact plain _ false (λhf=>by cases hf) h2 hr rfl (by rw[<-hc];simp) hq2.symm
   .obtain⟨r,hr,hq⟩:=ZZc.1 hs
    simp only[ZZe] at hq;obtain⟨rfl,hc,hq2⟩:=hq;cases hu with
    | vw h2=>exact plain _ false (λhf=>by cases hf) h2 hr rfl (by rw[<-hc];simp) hq2.symm
   .rename_i id off len
    split at hs
    .rename_i er hw
     obtain⟨r,hr,hq⟩:=ZZc.1 hs;simp only[ZZe] at hq;obtain⟨rfl,hq2⟩:=hq;obtain⟨e,rows⟩:=er;obtain⟨fp0,hk,hO⟩:=h.whole hu hw;obtain⟨fp,h1,h2,h3,h4,h5,h6,h7,h8⟩:=ih hk hl' (λk v y hv hy=>(Zmz k v y hv hy).kill) hr;have Jh:r.2.1=c:=by rw[hq2]
     have hs2:r.2.2=s':=by rw[hq2]
     rw[Jh] at h3;rw[hs2] at h1 h4 h5 h6 h7 h8;have Jg:(fp0++fp++fl).Perm (fp++(fp0++fl)):=by
      rw[<-List.append_assoc];exact Vd1 _ Vco
     refine⟨fp0++fp,h1.perm Jg,by simpa using h2,λhc=>.cons hO.ow (h3 hc),λk u' y' W9 hy'=>?_,h5,h6,λid' b hb=>Kf (h7 id' b hb),λg hg=>h8 g (Zh1 hg)⟩;cases k with
     | zero=>
      have e1:u=u':=by simpa using W9
      have e2:V.tr rows=y':=by simpa using hy'
      subst e1;subst e2;exact (hO.ow.rd (λg hg=>hk.ok_fl (Vae _ hg))).mono (λ_ _ _=>rfl) h8
     | succ k=>exact h4 k u' y' (by simpa using W9) (by simpa using hy')
    .rename_i hw
     split at hs
     .rename_i b hb
      split at hs
      .rename_i Zo
       obtain⟨rows,Yy,hq0⟩:=ZZb.1 hs;obtain⟨r,hr,hq⟩:=ZZc.1 hq0;simp only[ZZe] at hq;obtain⟨rfl,hc,hq2⟩:=hq;refine plain _ false (λhf=>by cases hf) (h.rowsOf hu Yy (λ_ h=>h) (λid' off' len' b' g o c' sz e Zn Xy=>?_)) hr rfl (by rw[<-hc];simp) hq2.symm;cases e;rw[hb] at Zn;injection Zn with Zn;subst Zn;rw[Zo] at Xy;cases Xy
      .cases hs
     .cases hs
   .cases hs
end
section
variable {P:Program} {B:Nat} {io:Nat->Prop} {w w':World} {a:Act} {tmps:Array Value} {s s':St} {ρ ρ':Rho} {F F':Id->List Nat} {fl fl':List Nat} {k:Nat} {o:Oper} {v:V}
theorem Rel.F_lt (h:Rel P B io w tmps s ρ F fl) {id:Id} {b:Blk} (hb:s.heap id=some b):∀g∈F id,g < w.heap.size:=by
 cases ho:b.own with
 | true=>exact h.mine id b hb ho
 | false=>
  have hB:=h.heap id b hb;unfold Yi at hB;rw[ho] at hB;split at hB
  .cases hB.1
  .rename_i h2;cases h2
  .intro g hg;rw[hB.1] at hg;cases hg
theorem Yn {id id':Id} {b:Blk} (h:id'≠id):(s.setB id b).heap id'=s.heap id':=by simp[St.setB,upd,h]
theorem K6 {id:Id} {b:Blk}:(s.setB id b).heap id=some b:=by simp[St.setB,upd]
theorem Zaw (w:World) (o:Obj):(w.alloc o).heap.size=w.heap.size+1:=by
 show (w.heap.push o).size=_;simp
theorem Zh0 (w:World) (o:Obj):(w.alloc o).heap[w.heap.size]?=some o:=by
 show (w.heap.push o)[w.heap.size]?=_;simp
theorem Zlu {id:Id} {b:Blk} {i:Zff} (Zg:ρ id=none) {g:Nat} (h:tops (s.setB id b) (upd ρ id (some i)) g):tops s ρ g\/∃o c sz,i=.blk g o c sz:=by
 obtain⟨id',b',o,c,sz,hb,ho,hρ⟩:=h;by_cases e:id'=id
 .subst e
  rw[Zl] at hρ;injection hρ with hρ;exact .inr ⟨o,c,sz,hρ⟩
 .rw[Yn e] at hb
  rw[Zz e] at hρ;exact .inl ⟨id',b',o,c,sz,hb,ho,hρ⟩
theorem Y9.alloc {w0:World} (h:Y9 B io w0 w) (hB:B<=w.heap.size) (ob:Obj):Y9 B io w0 (w.alloc ob):=
 ⟨h.os,h.tape,h.output,by have:=h.size;have:=Zaw w ob;omega,λg hg hn=>by rw[Below.heap_alloc w ob g (by omega)];exact h.block g hg hn⟩
theorem Rel.newBlk (h:Rel P B io w tmps s ρ F fl) {id:Id} (Zg:ρ id=none) (Zu:id.1=s.ep) {ob:Obj} {b:Blk} {o c sz:Nat}
  (hn:Yi P (w.alloc ob) (okS (s.setB id b) (upd ρ id (some (.blk w.heap.size o c sz))) (w.alloc ob)) (upd ρ id (some (.blk w.heap.size o c sz))) (some (.blk w.heap.size o c sz)) [w.heap.size] b):
  Rel P B io (w.alloc ob) tmps (s.setB id b) (upd ρ id (some (.blk w.heap.size o c sz))) (upd F id [w.heap.size]) fl:=by
 have hs:=Zaw w ob;refine h.step (nid:=id) rfl rfl (λid' b' e hb=>by rw[Yn e] at hb;exact hb) (λid' i hi=>?_) (λid' hi=>?_) (λid' e=>Zz e) (λid' e=>Zz e) ⟨λg _ hg=>Below.heap_alloc w ob g hg,λg hg Zs ht=>?_,by omega⟩
  (λid' b' e hb g hg=>Below.heap_alloc w ob g (h.F_lt (by rw[Yn e] at hb;exact hb) g hg)) (λk hk _=>Below.heap_alloc w ob k (Va3 hk h.base)) (λb' hb=>?_) (λb' hb ho=>?_) (λb' hb ho id' b'' e Zr4 Zm0 g hg Zm=>?_) (λb' hb ho=>?_) (λg hg=>by have:=h.flMine g hg;omega)
  (λid' b' e hb ho g hg=>h.flApart id' b' (by rw[Yn e] at hb;exact hb) ho g hg) (λb' hb ho g hg Zm=>?_) h.flOnce
 .have:id'≠id:=by rintro rfl;rw[Zg] at hi;cases hi
  rw[Zz this];exact hi
 .by_cases e:id'=id
  .subst e;exact .inr Zu
  .rw[Zz e] at hi;exact .inl hi
 .rcases Zlu Zg ht with h1|⟨o',c',sz',h1⟩
  .exact hg h1
  .injection h1 with h1;omega
 .rw[K6] at hb
  injection hb with hb;subst hb;rw[Zl,Zl];exact hn
 .rw[Zl]
  exact⟨λg hg=>by rw[List.mem_singleton.1 hg];omega,λ_ g hg=>by
   have:w.heap.size=g:=by simpa using hg
   have:=h.base;omega⟩
 .rw[Zl] at Zm
  rw[Yn e] at Zr4;have:=h.F_lt Zr4 g hg;rw[List.mem_singleton.1 Zm] at this;omega
 .rw[Zl];simp
 .rw[Zl] at hg
  have:=h.flMine g Zm;rw[List.mem_singleton.1 hg] at this;omega
theorem Wr {id:Id} {i:Zff} (Zg:ρ id=none):∀id' j,ρ id'=some j->upd ρ id (some i) id'=some j:=λid' j hj=>by
 rw[Zz (by rintro rfl;rw[Zg] at hj;cases hj)];exact hj
theorem Rel.newBox (h:Rel P B io w tmps s ρ F fl) {id:Id} (Zg:ρ id=none) (Zu:id.1=s.ep) {us:Array Value} {row:List V} {t e:TypeId} (hl:us.size=row.length) (hce:∀x∈row,cellish x=true)
  (Yh:∀(j:Nat) (u:Value) (x:V),us[j]?=some u->row[j]?=some x->En w (okS s ρ w) ρ u x):
  Rel P B io (w.alloc (.cells us t)) tmps (s.setB id ⟨true,true,true,e,[row]⟩) (upd ρ id (some (.blk w.heap.size 0 1 row.length))) (upd F id [w.heap.size]) fl:=by
 refine h.newBlk Zg Zu ⟨rfl,w.heap.size,us,t,row,rfl,Zh0 w _,rfl,hl,λj u x hu hx=>?_,hce,rfl⟩;refine (show En w (λg=>(¬tops s ρ g)/\g < w.heap.size) ρ u x from Yh j u x hu hx).keep ⟨λg _ hg=>Below.heap_alloc w _ g hg,λg hg Zs ht=>?_,by rw[Zaw];omega⟩ (Wr Zg);rcases Zlu Zg ht with h1|⟨o',c',sz',h1⟩
 .exact hg h1
 .injection h1 with h1;omega
theorem Ztk (h:Rel P B io w a.tmps s ρ F fl) {id:Id} (Zg:ρ id=none) (Zu:id.1=s.ep) (hk:id.2 / 1024=k) {us:Array Value} {row:List V} {t e:TypeId} (hl:us.size=row.length) (hce:∀x∈row,cellish x=true)
  (Yh:∀(j:Nat) (u:Value) (x:V),us[j]?=some u->row[j]?=some x->En w (okS s ρ w) ρ u x):
  Stp P B io w a.tmps s ρ fl k (.ptr id 0 0) (s.setB id ⟨true,true,true,e,[row]⟩) (.pointer (some ⟨w.heap.size,0,none⟩)) (w.alloc (.cells us t)):=by
 refine⟨rfl,rfl,(Y9.refl B io w).alloc h.base _,_,_,h.newBox Zg Zu (t:=t) (e:=e) hl hce Yh,?_,Wr Zg,λid' hi=>?_⟩
 .have:=En.ptr (w:=w.alloc (.cells us t)) (ok:=okS (s.setB id ⟨true,true,true,e,[row]⟩) (upd ρ id (some (.blk w.heap.size 0 1 row.length))) (w.alloc (.cells us t))) (i:=0) (off:=0) (Zl ρ id (some (.blk w.heap.size 0 1 row.length)))
  simpa using this
 .by_cases e:id'=id
  .subst e;exact .inr ⟨Zu,hk⟩
  .rw[Zz e] at hi;exact .inl hi
theorem Z7e (h:Rel P B io w a.tmps s ρ F fl) {t:TypeId} {z:List V} (ho:o.op=.alloc t) (hz:Kq P t=some z) {id:Id} (Zg:ρ id=none) (Zu:id.1=s.ep) (hk:id.2 / 1024=k):
  OpR P o a w (Stp P B io w a.tmps s ρ fl k (.ptr id 0 0) (s.setB id ⟨true,true,true,t,[z]⟩)):=by
 unfold Kq at hz;obtain⟨zv,hzv,hz⟩:=ZZb.1 hz;obtain⟨ti,Qi,hz0⟩:=ZZb.1 hzv;split at hz
 .rename_i Xp
  simp only[ZZd] at hz;subst hz;have hr:(execOp a.eval o).run P w=.ok (.value (.pointer (some ⟨w.heap.size,0,none⟩))) (w.alloc (.cells zv.cells t)):=by
   simp[execOp,ho,Instr.alloc,zeroValue,typeInfo,Qi,hz0,newVar,newRow]
  refine .value hr (Ztk h Zg Zu hk (by simp) (λx hx=>by obtain⟨u,_,rfl⟩:=Va4.1 hx;rfl) (λj u x hu hx=>?_));simp only[Vay,ZZc] at hx;obtain⟨y,hy,rfl⟩:=hx;have:u=y:=by
   have h1:zv.cells.toList[j]?=some u:=by simpa using hu
   rw[h1] at hy;injection hy
  subst this;exact .lit (ZZk.1 Xp _ (Vag hy))
 .cases hz
theorem Zi6 {w:World} {ok:Nat->Prop} {u:Value} {x:V} {cs:List V} (h:En w ok ρ u x) (hc:Zfe x=some cs):u.cells.size=cs.length/\(∀y∈cs,cellish y=true)/\∀(j:Nat) (v:Value) (y:V),u.cells[j]?=some v->cs[j]?=some y->En w ok ρ v y:=by
 have one:(∀vs,u≠.agg vs)->cellish x=true->cs=[x]->u.cells.size=cs.length/\(∀y∈cs,cellish y=true)/\∀(j:Nat) (v:Value) (y:V),u.cells[j]?=some v->cs[j]?=some y->En w ok ρ v y:=by
  rintro hu hx rfl;have huc:u.cells=#[u]:=by
   cases u<;>first|rfl|exact absurd rfl (hu _)
  rw[huc];refine⟨rfl,λy hy=>by rw[List.mem_singleton.1 hy];exact hx,λj v y hv hy=>?_⟩;cases j with
  | zero=>
   have h1:u=v:=by simpa using hv
   have h2:x=y:=by simpa using hy
   subst h1;subst h2;exact h
  | succ j=>simp at hy
 cases x<;>simp only[Zfe,ZZd] at hc<;>try cases hc
 case agg=>cases h with|agg hl hce hr=>exact⟨hl,hce,hr⟩
 case lit v=>cases h with|lit hs=>exact one (by rintro vs rfl;simp[Xn] at hs) rfl rfl
 case ptr=>cases h;exact one (by rintro vs e;cases e) rfl rfl
 case rp=>cases h with|rp h2=>cases h2;exact one (by rintro vs e;cases e) rfl rfl
 case sl=>cases h<;>exact one (by rintro vs e;cases e) rfl rfl
 case tr=>cases h with|tr h2=>cases h2<;>exact one (by rintro vs e;cases e) rfl rfl
 case vw=>cases h with|vw h2=>cases h2<;>exact one (by rintro vs e;cases e) rfl rfl
 case fn=>cases h;exact one (by rintro vs e;cases e) rfl rfl
theorem box_ok (h:Rel P B io w a.tmps s ρ F fl) {t:TypeId} {x:Operand} {cs:List V} (ho:o.op=.box t x) (hc:Zfe (s.opV x)=some cs) {id:Id} (Zg:ρ id=none) (Zu:id.1=s.ep) (hk:id.2 / 1024=k):
  OpR P o a w (Stp P B io w a.tmps s ρ fl k (.ptr id 0 0) (s.setB id ⟨true,true,true,t,[cs]⟩)):=by
 obtain⟨h1,h2,h3⟩:=Zi6 (h.opV x) hc;have hr:(execOp a.eval o).run P w=.ok (.value (.pointer (some ⟨w.heap.size,0,none⟩))) (w.alloc (.cells (a.eval x).cells t)):=by
  simp[execOp,ho,Instr.box,newVar,newRow]
 exact .value hr (Ztk h Zg Zu hk h1 h2 h3)
end
theorem En.one {w:World} {ok:Nat->Prop} {ρ:Rho} {u:Value} {x:V} (h:En w ok ρ u x) (hx:cellish x=true):u.oneCell'=true:=by
 cases h with
 | undef=>simp[cellish] at hx
 | lit h=>cases u<;>simp_all [Xn,Value.oneCell']
 | tr h=>exact h.one
 | vw h=>exact h.one
 | rp h=>exact h.one
 | ptr=>rfl
 | sl=>rfl
 | sle=>rfl
 | fn=>rfl
 | agg=>simp[cellish] at hx
 | tup=>simp[cellish] at hx
theorem Zjp {row:List V} {n:Nat} {cs:List V} (hn:n+cs.length<=row.length) {j:Nat} {x:V} (h:(Ww row n cs)[j]?=some x):(n<=j/\j < n+cs.length/\cs[j - n]?=some x)\/((j < n\/n+cs.length<=j)/\row[j]?=some x):=by
 unfold Ww at h;by_cases h1:j < n
 .rw[List.append_assoc,Vam (by simp;omega),Val,ZZj h1] at h
  exact .inr ⟨.inl h1,h⟩
 .rw[List.append_assoc,Vaj (by simp;omega)] at h
  have e:(row.take n).length=n:=by simp;omega
  rw[e] at h;by_cases h2:j - n < cs.length
  .rw[Vam h2] at h
   exact .inl ⟨by omega,by omega,h⟩
  .rw[Vaj (by omega),Vaw] at h
   refine .inr ⟨.inr (by omega),?_⟩;rw[<-h];congr 1;omega
theorem Zcg {row:List V} {n:Nat} {cs:List V} (hn:n+cs.length<=row.length):(Ww row n cs).length=row.length:=by
 unfold Ww;simp;omega
theorem Kg {α:Type} {cur:List α} {n:Nat} {vs:List α} (hn:n+vs.length<=cur.length) {j:Nat}:(cur.take n++vs++cur.drop (n+vs.length))[j]?=if n<=j/\j < n+vs.length then vs[j - n]? else cur[j]?:=by
 by_cases h1:j < n
 .rw[ZZi (by omega),List.append_assoc,Vam (by simp;omega),Val,ZZj h1]
 .rw[List.append_assoc,Vaj (by simp;omega)]
  have e:(cur.take n).length=n:=by simp;omega
  rw[e];by_cases h2:j - n < vs.length
  .rw[ZZj (by omega),Vam h2]
  .rw[ZZi (by omega),Vaj (by omega),Vaw]
   congr 1;omega
section
variable {P:Program} {B:Nat} {io:Nat->Prop} {w w':World} {a:Act} {tmps:Array Value} {s s':St} {ρ ρ':Rho} {F F':Id->List Nat} {fl fl':List Nat} {k:Nat} {o:Oper} {v:V}
theorem Zjj {id:Id} {b b':Blk} (hb:s.heap id=some b) (ho:b'.own=b.own):∀g,tops (s.setB id b') ρ g↔tops s ρ g:=by
 intro g;constructor
 .rintro⟨id',b'',o,c,sz,Zn,Xy,hρ⟩
  by_cases e:id'=id
  .subst e
   rw[K6] at Zn;injection Zn with Zn;subst Zn;exact⟨id',b,o,c,sz,hb,by rw[<-ho];exact Xy,hρ⟩
  .rw[Yn e] at Zn
   exact⟨id',b'',o,c,sz,Zn,Xy,hρ⟩
 .rintro⟨id',b'',o,c,sz,Zn,Xy,hρ⟩
  by_cases e:id'=id
  .subst e
   rw[hb] at Zn;injection Zn with Zn;subst Zn;exact⟨id',b',o,c,sz,K6,by rw[ho];exact Xy,hρ⟩
  .exact⟨id',b'',o,c,sz,by rw[Yn e];exact Zn,Xy,hρ⟩
theorem Rel.write (h:Rel P B io w tmps s ρ F fl) {id:Id} {b b':Blk} {g o c sz:Nat} {new:Array Value} {cur:Array Value} {e:TypeId} {Fs:List Nat} (hb:s.heap id=some b) (ho:b.own=true) (Xy:b'.own=true) (hρ:ρ id=some (.blk g o c sz)) (hg:w.heap[g]?=some (.cells cur e (0,0)))
  (hF:∃r,F id=g::r) (hFs:∃r,Fs=g::r) (hFm:∀k∈Fs,k∈F id\/k∈fl) (K0:Fs.Nodup) {fl':List Nat} (J2:∀k∈fl',k∈fl) (Zr2:fl'.Nodup) (hfd:∀k∈Fs,k ∉ fl') (Zcy:0 < c)
  (hn:Yi P (w.setRow g new) (okS (s.setB id b') ρ (w.setRow g new)) ρ (some (.blk g o c sz)) Fs b'):
  Rel P B io (w.setRow g new) tmps (s.setB id b') ρ (upd F id Fs) fl'/\Y9 B io w (w.setRow g new)/\Ze7 w (w.setRow g new) (λg=>¬tops s ρ g) (λg=>¬tops (s.setB id b') ρ g):=by
 obtain⟨r,hFr⟩:=hF;have hgF:g∈F id:=by rw[hFr];exact Vaa
 have Yq:tops s ρ g:=⟨id,b,o,c,sz,hb,ho,hρ⟩;have Zhr:(w.setRow g new).heap.size=w.heap.size:=by simp[World.setRow]
 have hk:Ze7 w (w.setRow g new) (λg=>¬tops s ρ g) (λg=>¬tops (s.setB id b') ρ g):=
  ⟨λg' Zm _=>setRow_other w g g' _ (λe=>Zm (e▸Yq)),λg' Zm _ ht=>Zm ((Zjj hb (by rw[ho,Xy])  g').1 ht),by rw[Zhr];exact Vaf _⟩
 refine⟨?_,⟨rfl,rfl,rfl,by rw[Zhr];exact Vaf _,λg' Zm hio=>setRow_other w g g' _ (λe=>?_)⟩,hk⟩
 .refine h.step (nid:=id) rfl rfl (λid' b'' e Zn=>by rw[Yn e] at Zn;exact Zn) (λ_ _ h=>h) (λ_ h=>.inl h) (λ_ _=>rfl) (λid' e=>Zz e) hk (λid' b'' e Zn g' Zm=>setRow_other w g g' _ (λe'=>?_)) (λk hk hio=>setRow_other w g k _ (λe=>by
    subst e;rcases h.top id b hb ho ⟨k,o,c,sz,hρ,Zcy⟩ k (by rw[hFr];rfl) with h1|h1
    .exact hio h1
    .omega)) (λb'' Zn=>?_) (λb'' Zn Zm0=>?_) (λb'' Zn Zm0 id' b3 e hb3 ho3 g' Zm Zap=>?_) (λb'' Zn Zm0=>by rw[Zl];exact K0)
   (λg' Zm=>by rw[Zhr];exact h.flMine g' (J2 g' Zm)) (λid' b'' e Zn Zm0 g' Zm Zap=>?_) (λb'' Zn Zm0 g' Zm Zap=>by rw[Zl] at Zm;exact hfd g' Zm Zap) Zr2
  .subst e'
   rw[Yn e] at Zn;cases Zo:b''.own with
   | true=>exact h.apart id' id b'' b Zn Zo hb ho e g' Zm hgF
   | false=>
    have hB:=h.heap id' b'' Zn;unfold Yi at hB;rw[Zo] at hB;split at hB
    .cases hB.1
    .rename_i h2;cases h2
    .rw[hB.1] at Zm;cases Zm
  .rw[K6] at Zn
   injection Zn with Zn;subst Zn;rw[Zl,hρ];exact hn
  .rw[Zl]
   refine⟨λg' Zm=>?_,λ_ g' Zm=>?_⟩
   .rw[Zhr]
    rcases hFm g' Zm with h1|h1
    .exact h.mine id b hb ho g' h1
    .exact h.flMine g' h1
   .obtain⟨r',rfl⟩:=hFs
    have e1:g=g':=by simpa using Zm
    subst e1;exact h.top id b hb ho ⟨g,o,c,sz,hρ,Zcy⟩ g (by rw[hFr];rfl)
  .rw[Zl] at Zap
   rw[Yn e] at hb3;rcases hFm g' Zap with h1|h1
   .exact h.apart id' id b3 b hb3 ho3 hb ho e g' Zm h1
   .exact h.flApart id' b3 hb3 ho3 g' Zm h1
  .rw[Yn e] at Zn
   exact h.flApart id' b'' Zn Zm0 g' Zm (J2 g' Zap)
 .subst e
  rcases h.top id b hb ho ⟨g',o,c,sz,hρ,Zcy⟩ g' (by rw[hFr];rfl) with h1|h1
  .exact hio h1
  .omega
end
section
variable {P:Program} {B:Nat} {io:Nat->Prop} {w w':World} {a:Act} {tmps:Array Value} {s s':St} {ρ ρ':Rho} {F F':Id->List Nat} {fl fl':List Nat} {k:Nat} {o:Oper} {v:V}
theorem Zi2 {t:TypeId} {x y:Operand} {g n:Nat} {cur:Array Value} {e:TypeId} (ho:o.op=.store t x y) (hx:a.eval x=.pointer (some ⟨g,n,none⟩)) (hl:(a.eval y).cells.size=Zi P t) (hz:Zi P t≠0) (hg:w.heap[g]?=some (.cells cur e (0,0)))
  (Zpc:n+Zi P t<=cur.size) (h1:∀u∈(a.eval y).cells.toList,u.oneCell'=true):
  (execOp a.eval o).run P w=.ok .skip (w.setRow g (cur.toList.take n++(a.eval y).cells.toList++cur.toList.drop (n+(a.eval y).cells.toList.length)).toArray):=by
 obtain⟨ti,Qi,Yx⟩:∃ti,P.info? t=some ti/\ti.size=Zi P t:=by
  unfold Zi Program.cellsOf at hz ⊢;cases hq:P.info? t with
  | none=>rw[hq] at hz;simp at hz
  | some ti=>exact⟨ti,rfl,rfl⟩
 have hs:=run_storeCells_at P g n e (a.eval y).cells.toList 0 cur w hg (by simpa [hl] using Zpc) h1;simp only[Va5] at hs;simp[execOp,ho,hx,Instr.storeAt,Instr.sureAddr,storeVar,Go.sizeOf,typeInfo,Qi,Yx,hl,hs]
theorem Z0z (h:Rel P B io w a.tmps s ρ F fl) {t:TypeId} {x y:Operand} {id:Id} {j n:Nat} {b:Blk} {row cs:List V} (ho:o.op=.store t x y) (hx:s.opV x=.ptr id j n) (hb:s.heap id=some b) (Z6:b.rows[j]?=some row) (hc:Zfe (s.opV y)=some cs)
  (Zo:b.own=true) (Yf:b.box=true) (Y4:cs.length=Zi P t) (Zpc:n+Zi P t<=row.length) (hz:Zi P t≠0):
  OpR P o a w (Stp P B io w a.tmps s ρ fl k .undef (s.setB id {b with rows:=b.rows.set j (Ww row n cs)})):=by
 have hx':=h.opV x;rw[hx] at hx';obtain⟨hy1,hy2,hy3⟩:=Zi6 (h.opV y) hc;generalize hq:a.eval x=q at hx';cases hx' with
 | @ptr _ g o' c sz _ _ hρ=>
  have hB:=h.heap id b hb;rw[hρ] at hB;have hB':=hB;unfold Yi at hB;rw[Yf] at hB;obtain⟨_,g',cur,e,row',hi,hg,hr,hs,he,hce,hF⟩:=hB;cases hi;rw[hr] at Z6;have hj:j=0/\row'=row:=by
   cases j with
   | zero=>exact⟨rfl,by simpa using Z6⟩
   | succ j=>simp at Z6
  obtain⟨rfl,rfl⟩:=hj;simp only[Vdb,Vbk] at hq;have Z3:(a.eval y).cells.size=Zi P t:=by rw[hy1,Y4]
  have Z8:=Zi2 (P:=P) ho hq Z3 hz hg (by omega) (λu hu=>by
   obtain⟨m,hm⟩:=Va2 hu;have hm':(a.eval y).cells[m]?=some u:=by simpa using hm
   have Zs:m < cs.length:=by have:=(Van.1 hm').1;omega
   exact (hy3 m u _ hm' (Vab Zs)).one (hy2 _ (Vai Zs)))
  generalize Z0:(cur.toList.take n++(a.eval y).cells.toList++cur.toList.drop (n+(a.eval y).cells.toList.length)).toArray=new at Z8;have hvl:(a.eval y).cells.toList.length=cs.length:=by simpa using hy1
  have hsl:n+cs.length<=row'.length:=by omega
  have Yy:b.rows.set 0 (Ww row' n cs)=[Ww row' n cs]:=by rw[hr];rfl
  have hnl:new.size=row'.length:=by rw[<-Z0];simp only[List.size_toArray,Vas,Vct,Vc6,Array.length_toList,hvl];simp at hvl;omega
  have htops:∀g',tops (s.setB id {b with rows:=b.rows.set 0 (Ww row' n cs)}) ρ g'↔tops s ρ g':=Zjj hb rfl;have hwk:Ze7 w (w.setRow g new) (λg=>¬tops s ρ g) (λg=>¬tops (s.setB id {b with rows:=b.rows.set 0 (Ww row' n cs)}) ρ g):=
   ⟨λg' Zm _=>setRow_other w g g' _ (λe=>Zm (e▸⟨id,b,_,_,_,hb,Zo,hρ⟩)),λg' Zm _ ht=>Zm ((htops g').1 ht),by simp⟩
  obtain⟨h1,h2,h3⟩:=h.write (b':={b with rows:=b.rows.set 0 (Ww row' n cs)}) (Fs:=F id) (fl':=fl) (new:=new) hb Zo Zo hρ hg ⟨[],hF⟩ ⟨[],hF⟩ (λk hk=>.inl hk) (h.once id b hb Zo) (λ_ h=>h) h.flOnce (h.flApart id b hb Zo) (by omega) (by
   refine .mkBox (row:=Ww row' n cs) Yf Zo (by rw[Zcg hsl]) (setRow_heap w g cur new e (0,0) hg) Yy (by rw[Zcg hsl];exact hnl) (λm u z hu hz=>?_) (λz hz=>?_) hF
   .have W9:(cur.toList.take n++(a.eval y).cells.toList++cur.toList.drop (n+(a.eval y).cells.toList.length))[m]?=some u:=by rw[<-Z0] at hu;simpa using hu
    rw[Kg (by simp only[Array.length_toList,hvl];omega),hvl] at W9;rcases Zjp hsl hz with⟨h4,h5,h6⟩|⟨h4,h6⟩
    .rw[ZZj ⟨h4,h5⟩] at W9
     exact (show En w (λg=>(¬tops s ρ g)/\g < w.heap.size) ρ u z from hy3 _ u z (by simpa using W9) h6).keep hwk (λ_ _ h=>h)
    .rw[ZZi (by omega)] at W9
     exact (show En w (λg=>(¬tops s ρ g)/\g < w.heap.size) ρ u z from he m u z (by simpa using W9) h6).keep hwk (λ_ _ h=>h)
   .obtain⟨m,hm⟩:=Va2 hz
    rcases Zjp hsl hm with⟨_,_,h6⟩|⟨_,h6⟩
    .exact hy2 z (Vag h6)
    .exact hce z (Vag h6))
  refine .skip Z8 ⟨rfl,rfl,h2,ρ,upd F id (F id),h1,.undef,λ_ _ h=>h,λ_ h=>.inl h⟩
end
theorem OwL.split {w:World}:∀(n:Nat) {vs:List Value} {xs:List V} {fp:List Nat},OwL w vs xs fp->∃f1 f2,fp=f1++f2/\OwL w (vs.take n) (xs.take n) f1/\OwL w (vs.drop n) (xs.drop n) f2:=by
 intro n
 induction n with
 | zero=>intro vs xs fp h;exact⟨[],fp,rfl,by simp;exact .nil,h⟩
 | succ n ih=>
  intro vs xs fp h;cases xs with
  | nil=>cases h;exact⟨[],[],rfl,.nil,.nil⟩
  | cons x xs=>
   cases h with
   | @cons v _ vs _ f1 f2 h hs=>
    obtain⟨g1,g2,e,h1,h2⟩:=ih hs;exact⟨f1++g1,g2,by rw[e,List.append_assoc],.cons h h1,h2⟩
theorem OwL.put {w:World} {vs us:List Value} {xs ys:List V} {f f2:List Nat} (h:OwL w vs xs f) (h2:OwL w us ys f2) (m:Nat):∃f',OwL w (vs.take m++us++vs.drop (m+us.length)) (xs.take m++ys++xs.drop (m+us.length)) f'/\(∀k∈f',k∈f\/k∈f2)/\((f++f2).Nodup->f'.Nodup):=by
 obtain⟨f1,fr,rfl,ha,hb⟩:=h.split m;obtain⟨fm,fd,rfl,hc,hd⟩:=hb.split us.length;rw[List.drop_drop,List.drop_drop] at hd;have e:(f1++f2++fd).Perm (f1++fd++f2):=by
  rw[List.append_assoc,List.append_assoc];exact List.Perm.append_left _ Vco
 have Jg:(f1++fd++f2).Sublist (f1++(fm++fd)++f2):=Vci (Vci (Vby _) (Va6 _ _)) (Vby _);refine⟨f1++f2++fd,(ha.append h2).append hd,λk hk=>?_,λhn=>e.nodup_iff.2 (hn.sublist Jg)⟩;have:=Jg.subset (e.mem_iff.1 hk);exact Vak.1 this
theorem Z0w {α:Type} {sz:Nat}:∀{rows:List (List α)} {j:Nat} {row:List α} {n:Nat} {ys:List α},(∀r∈rows,r.length=sz)->rows[j]?=some row->n+ys.length<=sz->
  (rows.set j (row.take n++ys++row.drop (n+ys.length))).flatten=rows.flatten.take (j*sz+n)++ys++rows.flatten.drop (j*sz+n+ys.length):=by
 intro rows
 induction rows with
 | nil=>intro j row n ys _ h;simp at h
 | cons r rs ih=>
  intro j row n ys hs hj hn;have hr:r.length=sz:=hs r Vaa;cases j with
  | zero=>
   have:r=row:=by simpa using hj
   subst this;simp only[List.set_cons_zero,Vax,Vdb,Vbk];rw[List.take_append_of_le_length (by omega),List.drop_append_of_le_length (by omega)];simp only[List.append_assoc]
  | succ j=>
   have h1:=ih (λr h=>hs r (Vac _ h)) (show rs[j]?=some row by simpa using hj) hn;simp only[List.set_cons_succ,Vax,h1];rw[show (j+1)*sz+n=r.length+(j*sz+n) by rw[Vbu,hr];omega,List.take_length_add_append,show r.length+(j*sz+n)+ys.length=r.length+(j*sz+n+ys.length) by omega,List.drop_length_add_append];simp only[List.append_assoc]
section
variable {P:Program} {B:Nat} {io:Nat->Prop} {w w':World} {a:Act} {tmps:Array Value} {s s':St} {ρ ρ':Rho} {F F':Id->List Nat} {fl fl':List Nat} {k:Nat} {o:Oper} {v:V}
theorem Z00 (h:Rel P B io w a.tmps s ρ F fl) {t:TypeId} {x y:Operand} {id:Id} {j n:Nat} {b b1:Blk} {row cs ys:List V} {c:Bool} {s1:St} (ho:o.op=.store t x y) (hx:s.opV x=.ptr id j n) (hb:s.heap id=some b) (Z6:b.rows[j]?=some row) (hc:Zfe (s.opV y)=some cs)
  (Zo:b.own=true) (Yf:b.box=false) (Y4:cs.length=Zi P t) (Zpc:n+Zi P t<=row.length) (hz:Zi P t≠0) (hsink:s.sink cs=some (ys,c,s1)) (K1:s1.heap id=some b1):
  OpR P o a w (Stp P B io w a.tmps s ρ fl k .undef (s1.setB id {b1 with cl:=b1.cl&&c,rows:=b1.rows.set j (Ww row n ys)})):=by
 have hx':=h.opV x;rw[hx] at hx';obtain⟨hy1,hy2,hy3⟩:=Zi6 (h.opV y) hc;generalize hq:a.eval x=q at hx';cases hx' with
 | @ptr _ g o' c' sz _ _ hρ=>
  obtain⟨fp,hR,hyl,hOw,hRd,Wm,Zu,Jg,Zzy⟩:=Z1y cs (us:=(a.eval y).cells.toList) h (by simpa using hy1) (λm u z hu hz=>hy3 m u z (by simpa using hu) hz) hsink;have hbb:b1=b:=by
   have:=Jg id b1 K1;rw[hb] at this;injection this with this;exact this.symm
  subst hbb;have hB:=hR.heap id b1 K1;rw[hρ] at hB;unfold Yi at hB;rw[Yf,Zo] at hB;rcases hB with⟨Yu,_⟩|⟨g',o'',c'',cur,Yu,hg,hl,hm,Wn,hz',r,hF,h1,h2⟩
  .cases Yu
  .cases Yu
   have Ks:row.length=P.cellsOf b1.el:=Wn row (Vag Z6);have hjl:=(ZZh.1 Z6).1;have Z3:(a.eval y).cells.size=Zi P t:=by rw[hy1,Y4]
   have hvl:(a.eval y).cells.toList.length=cs.length:=by simpa using hy1
   have hyc:ys.length=cs.length:=by rw[<-hyl,hvl]
   have hfitc:o'+j*P.cellsOf b1.el+n+cs.length<=cur.size:=by
    have:(j+1)*P.cellsOf b1.el<=c'*P.cellsOf b1.el:=Vbr _ (by omega);rw[Vbu] at this;omega
   have Z8:=Zi2 (P:=P) ho hq Z3 hz hg (by omega) (λu hu=>by
    obtain⟨m,hm'⟩:=Va2 hu;have hm':(a.eval y).cells[m]?=some u:=by simpa using hm'
    have Zs:m < cs.length:=by have:=(Van.1 hm').1;omega
    exact (hy3 m u _ hm' (Vab Zs)).one (hy2 _ (Vai Zs)))
   have hsy:Ww row n ys=row.take n++ys++row.drop (n+ys.length):=rfl;have Zqd:=Z0w (ys:=ys) Wn Z6 (show n+ys.length<=P.cellsOf b1.el by omega);rw[<-hsy] at Zqd;have Zpe:=Wo Wn;generalize Kz:(a.eval y).cells.toList=us at Z8 hOw hRd hyl hvl;have hbl:j*P.cellsOf b1.el+n+us.length<=b1.rows.length*P.cellsOf b1.el:=by
    have:(j+1)*P.cellsOf b1.el<=b1.rows.length*P.cellsOf b1.el:=Vbr _ (by omega);rw[Vbu] at this;omega
   have hbc:b1.rows.length*P.cellsOf b1.el<=c'*P.cellsOf b1.el:=Vbr _ hl;have hgF:g∈F id:=by rw[hF];exact Vaa
   have hgr:g ∉ r:=by
    have:=hR.once id b1 K1 Zo;rw[hF] at this;exact (Vaz.1 this).1
   have Zu6:g ∉ fp++fl:=hR.flApart id b1 K1 Zo g hgF;generalize Z0:(cur.toList.take (o'+j*P.cellsOf b1.el+n)++us++cur.toList.drop (o'+j*P.cellsOf b1.el+n+us.length)).toArray=new at Z8;have Zgn:new.size=cur.size:=by rw[<-Z0];simp;omega
   have Zpf:∀m,new[o'+m]?=if j*P.cellsOf b1.el+n<=m/\m < j*P.cellsOf b1.el+n+us.length then us[m - (j*P.cellsOf b1.el+n)]? else cur[o'+m]?:=by
    intro m;rw[<-Z0];have:=Kg (cur:=cur.toList) (n:=o'+j*P.cellsOf b1.el+n) (vs:=us) (by simp;omega) (j:=o'+m);rw[Vcn,this];by_cases hc:j*P.cellsOf b1.el+n<=m/\m < j*P.cellsOf b1.el+n+us.length
    .rw[ZZj (by omega),ZZj hc];congr 1;omega
    .rw[ZZi (by omega),ZZi hc];simp
   have Kk:∀k',k'≠g->(w.setRow g new).heap[k']?=w.heap[k']?:=λk' Xi=>setRow_other w g k' _ Xi;have Ziy:∀r'∈b1.rows.set j (Ww row n ys),r'.length=P.cellsOf b1.el:=λr' Wl=>by
    rcases Vdu Wl with h4|h4
    .exact Wn r' h4
    .rw[h4,Zcg (by omega)];exact Ks
   have Zjy:(b1.rows.set j (Ww row n ys)).length=b1.rows.length:=Vcw;have Kj:(new.toList.drop o').take (b1.rows.length*P.cellsOf b1.el)=((cur.toList.drop o').take (b1.rows.length*P.cellsOf b1.el)).take (j*P.cellsOf b1.el+n)++us++((cur.toList.drop o').take (b1.rows.length*P.cellsOf b1.el)).drop (j*P.cellsOf b1.el+n+us.length):=by
    apply Vcm;intro m;rw[Kg (by simp;omega),Val,Val,Vaw,Vaw];have hm:=Zpf m;simp only[Vcp];rw[hm];by_cases hc:j*P.cellsOf b1.el+n<=m/\m < j*P.cellsOf b1.el+n+us.length
    .rw[ZZj hc,ZZj hc,ZZj (by omega)]
    .rw[ZZi hc,ZZi hc]
   have htb:∀b':Blk,b'.own=true->∀g',tops (s1.setB id b') ρ g'->tops s1 ρ g':=λb' Zn g'=>(Zjj K1 (by rw[Zn,Zo]) g').1;have Zzz:∀b':Blk,b'.own=true->∀g',okS s1 ρ w g'->okS (s1.setB id b') ρ (w.setRow g new) g':=λb' Zn g' Zm=>⟨λht=>Zm.1 (htb b' Zn g' ht),by simpa using Zm.2⟩;have Yq:tops s1 ρ g:=⟨id,b1,_,_,_,K1,Zo,hρ⟩;have hrd:∀b':Blk,b'.own=true->∀{u:Value} {z:V},Rd w (okS s1 ρ w) u z->Rd (w.setRow g new) (okS (s1.setB id b') ρ (w.setRow g new)) u z:=λb' Zn u z hu=>
    hu.mono (λg' Zm _=>Kk g' (λe=>Zm.1 (e▸Yq))) (Zzz b' Zn)
   have fin:∀(Fs:List Nat),(∃r',Fs=g::r')->(∀k'∈Fs,k'∈F id\/k'∈fp++fl)->Fs.Nodup->(∀k'∈Fs,k' ∉ fl)->
     Yi P (w.setRow g new) (okS (s1.setB id {b1 with cl:=b1.cl&&c,rows:=b1.rows.set j (Ww row n ys)}) ρ (w.setRow g new)) ρ (some (.blk g o' c' (P.cellsOf b1.el))) Fs {b1 with cl:=b1.cl&&c,rows:=b1.rows.set j (Ww row n ys)}->
     OpR P o a w (Stp P B io w a.tmps s ρ fl k .undef (s1.setB id {b1 with cl:=b1.cl&&c,rows:=b1.rows.set j (Ww row n ys)})):=by
    intro Fs hFs hFm K0 hfd Z8j;obtain⟨w1,w2,w3⟩:=hR.write (b':={b1 with cl:=b1.cl&&c,rows:=b1.rows.set j (Ww row n ys)}) (Fs:=Fs) (fl':=fl) (new:=new) K1 Zo Zo hρ hg ⟨r,hF⟩ hFs hFm K0 (λk' Xi=>Vao _ Xi) h.flOnce hfd (by omega) Z8j;exact .skip Z8 ⟨Wm,Zu,w2,ρ,upd F id Fs,w1,.undef,λ_ _ h=>h,λ_ h=>.inl h⟩
   by_cases Qc:(b1.cl&&c)=true
   .rw[ZZg] at Qc
    have hO1:=(h1 Qc.1).frame (w':=w.setRow g new) (λk' Xi=>Kk k' (λe=>hgr (e▸Xi)));have hO2:=(hOw Qc.2).frame (w':=w.setRow g new) (λk' Xi=>Kk k' (λe=>Zu6 (e▸Vae _ Xi)));obtain⟨f',hO,hf1,hf2⟩:=hO1.put hO2 (j*P.cellsOf b1.el+n);rw[<-Kj,show us.length=ys.length by omega,<-Zqd] at hO;have hdis:(r++fp).Nodup:=by
     have n1:=hR.once id b1 K1 Zo;rw[hF] at n1;refine Vat.2 ⟨(Vaz.1 n1).2,(Vat.1 hR.flOnce).1,λp hp q hq e=>?_⟩;subst e;exact hR.flApart id b1 K1 Zo p (by rw[hF];exact Vac _ hp) (Vae _ hq)
    have hgf:g ∉ f':=λhf=>by
     rcases hf1 g hf with h4|h4
     .exact hgr h4
     .exact Zu6 (Vae _ h4)
    refine fin (g::f') ⟨f',rfl⟩ (λk' Xi=>?_) (Vaz.2 ⟨hgf,hf2 hdis⟩) (λk' Xi hkf=>?_) (.mkRow (fp:=f') Yf Zo rfl (setRow_heap w g cur new _ _ hg) (by rw[Zjy];exact hl) hm Ziy (by rw[Zgn];exact hz') rfl (λ_=>by rw[Zjy];exact hO) (λhf=>by simp[Qc.1,Qc.2] at hf))
    .rcases Vap.1 Xi with rfl|Xi
     .exact .inl hgF
     .rcases hf1 k' Xi with h4|h4
      .exact .inl (by rw[hF];exact Vac _ h4)
      .exact .inr (Vae _ h4)
    .rcases Vap.1 Xi with rfl|Xi
     .exact Zu6 (Vao _ hkf)
     .rcases hf1 k' Xi with h4|h4
      .exact hR.flApart id b1 K1 Zo k' (by rw[hF];exact Vac _ h4) (Vao _ hkf)
      .exact (Vat.1 hR.flOnce).2.2 k' h4 k' hkf rfl
   .have Zed:∀(m:Nat) (z:V),b1.rows.flatten[m]?=some z->∃u,cur[o'+m]?=some u/\Rd w (okS s1 ρ w) u z:=by
     intro m z hmz;cases hcl1:b1.cl with
     | true=>
      obtain⟨u,hu,hr⟩:=(h1 hcl1).rd (ok:=okS s1 ρ w) (λk' Xi=>hR.ok_of_F K1 Zo hρ (by rw[hF];exact Vac _ Xi) (λg' _ _ _ e=>by cases e;rintro rfl;exact hgr Xi)) hmz;rw[Val] at hu;split at hu
      .exact⟨u,by simpa using hu,hr⟩
      .cases hu
     | false=>exact (h2 hcl1).2 m z hmz
    refine fin [g] ⟨[],rfl⟩ (λk' Xi=>.inl (by rw[List.mem_singleton.1 Xi];exact hgF)) (by simp) (λk' Xi hkf=>Zu6 (Vao _ (by rw[<-List.mem_singleton.1 Xi];exact hkf))) (.mkRow (fp:=[]) Yf Zo rfl (setRow_heap w g cur new _ _ hg) (by rw[Zjy];exact hl) hm Ziy (by rw[Zgn];exact hz') rfl (λhf=>absurd hf Qc) (λ_=>⟨rfl,λm z hmz=>?_⟩));rw[Zqd,Kg (by rw[Zpe];omega)] at hmz;rw[Zpf m,show us.length=ys.length by omega];split at hmz
    .rename_i hc
     rw[ZZj hc];have Zs:m - (j*P.cellsOf b1.el+n) < us.length:=by omega
     refine⟨us[m - (j*P.cellsOf b1.el+n)],Vab Zs,hrd {b1 with cl:=b1.cl&&c,rows:=b1.rows.set j (Ww row n ys)} Zo (hRd _ _ z (Vab Zs) hmz)⟩
    .rename_i hc
     rw[ZZi hc];obtain⟨u,hu,hr⟩:=Zed m z hmz;exact⟨u,hu,hrd {b1 with cl:=b1.cl&&c,rows:=b1.rows.set j (Ww row n ys)} Zo hr⟩
end
section
variable {P:Program} {B:Nat} {io:Nat->Prop} {w w':World} {tmps:Array Value} {s s':St} {ρ ρ':Rho} {F F':Id->List Nat} {fl fl':List Nat}
theorem Zja {i id:Id} {b b':Blk} {g o c sz o' c' sz':Nat} (Zg:ρ id=none) (hb:s.heap i=some b) (ho:b.own=true) (hρ:ρ i=some (.blk g o c sz)):
  ∀g',tops ((s.kill i).setB id b') (upd ρ id (some (.blk g o' c' sz'))) g'->tops s ρ g':=by
 rintro g' ⟨id',b'',o2,c2,sz2,Zn,Xy,hρ'⟩;by_cases e:id'=id
 .subst e
  rw[Zl] at hρ';injection hρ' with hρ';injection hρ' with hg;subst hg;exact⟨i,b,o,c,sz,hb,ho,hρ⟩
 .rw[Yn e] at Zn
  rw[Zz e] at hρ';exact⟨id',b'',o2,c2,sz2,Kf Zn,Xy,hρ'⟩
theorem Rel.move (h:Rel P B io w tmps s ρ F fl) {i id:Id} {b b':Blk} {g o c sz o' c' sz':Nat} {Fs:List Nat} (Zg:ρ id=none) (Zu:id.1=s.ep) (hb:s.heap i=some b) (ho:b.own=true) (hρ:ρ i=some (.blk g o c sz))
  (hF:∃r,F i=g::r) (hFs:∃r,Fs=g::r) (hFm:∀k∈Fs,k∈F i) (K0:Fs.Nodup) (Zcy:0 < c'->0 < c)
  (hn:Yi P w (okS ((s.kill i).setB id b') (upd ρ id (some (.blk g o' c' sz'))) w) (upd ρ id (some (.blk g o' c' sz'))) (some (.blk g o' c' sz')) Fs b'):
  Rel P B io w tmps ((s.kill i).setB id b') (upd ρ id (some (.blk g o' c' sz'))) (upd F id Fs) fl:=by
 have Zp:i≠id:=by rintro rfl;rw[Zg] at hρ;cases hρ
 have old:∀{id':Id} {b'':Blk},id'≠id->((s.kill i).setB id b').heap id'=some b''->s.heap id'=some b''/\id'≠i:=λ{id' b''} e Zn=>by
  rw[Yn e] at Zn;refine⟨Kf Zn,?_⟩;rintro rfl;rw[Xo] at Zn;cases Zn
 obtain⟨r,hFr⟩:=hF;refine h.step (nid:=id) rfl rfl (λid' b'' e Zn=>(old e Zn).1) (Wr Zg) (λid' hi=>?_) (λid' e=>Zz e) (λid' e=>Zz e) (.same (Zja Zg hb ho hρ)) (λ_ _ _ _ _ _=>rfl) (λ_ _ _=>rfl)
  (λb'' Zn=>?_) (λb'' Zn Xy=>?_) (λb'' Zn Xy id' b3 e hb3 ho3 g' Zm Zap=>?_) (λb'' Zn Xy=>by rw[Zl];exact K0) h.flMine
  (λid' b'' e Zn Xy=>h.flApart id' b'' (old e Zn).1 Xy) (λb'' Zn Xy g' Zm=>?_) h.flOnce
 .by_cases e:id'=id
  .subst e;exact .inr Zu
  .rw[Zz e] at hi;exact .inl hi
 .rw[K6] at Zn
  injection Zn with Zn;subst Zn;rw[Zl,Zl];exact hn
 .rw[Zl]
  refine⟨λg' Zm=>h.mine i b hb ho g' (hFm g' Zm),λQc g' Zm=>?_⟩;obtain⟨r',rfl⟩:=hFs;have e1:g=g':=by simpa using Zm
  subst e1;exact h.top i b hb ho (by
   rw[Zl] at Qc;obtain⟨_,_,_,_,e2,h2⟩:=Qc;injection e2 with e2;injection e2 with _ _ e3 _;exact⟨g,o,c,sz,hρ,Zcy (by rw[e3];exact h2)⟩) g (by rw[hFr];rfl)
 .rw[Zl] at Zap
  obtain⟨h3,h4⟩:=old e hb3;exact h.apart id' i b3 b h3 ho3 hb ho h4 g' Zm (hFm g' Zap)
 .rw[Zl] at Zm
  exact h.flApart i b hb ho g' (hFm g' Zm)
theorem Rel.fresh (h:Rel P B io w tmps s ρ F fl) {id:Id} (Zg:ρ id=none) (Zu:id.1=s.ep) (Yx:w'.heap.size=w.heap.size+1) (Zgo:∀g,g < w.heap.size->w'.heap[g]?=w.heap[g]?) {b:Blk} {o c sz:Nat} {r:List Nat}
  (hr:∀k∈r,k∈fl) (K0:r.Nodup) (J2:∀k∈fl',k∈fl) (Zr2:fl'.Nodup) (hfd:∀k∈r,k ∉ fl')
  (hn:Yi P w' (okS (s.setB id b) (upd ρ id (some (.blk w.heap.size o c sz))) w') (upd ρ id (some (.blk w.heap.size o c sz))) (some (.blk w.heap.size o c sz)) (w.heap.size::r) b):
  Rel P B io w' tmps (s.setB id b) (upd ρ id (some (.blk w.heap.size o c sz))) (upd F id (w.heap.size::r)) fl':=by
 refine h.step (nid:=id) rfl rfl (λid' b' e hb=>by rw[Yn e] at hb;exact hb) (Wr Zg) (λid' hi=>?_) (λid' e=>Zz e) (λid' e=>Zz e) ⟨λg _ hg=>Zgo g hg,λg hg Zs ht=>?_,by omega⟩
  (λid' b' e hb g hg=>Zgo g (h.F_lt (by rw[Yn e] at hb;exact hb) g hg)) (λk hk _=>Zgo k (Va3 hk h.base)) (λb' hb=>?_) (λb' hb ho=>?_) (λb' hb ho id' b'' e Zr4 Zm0 g hg Zm=>?_) (λb' hb ho=>?_) (λg hg=>by have:=h.flMine g (J2 g hg);omega)
  (λid' b' e hb ho g hg Zm=>h.flApart id' b' (by rw[Yn e] at hb;exact hb) ho g hg (J2 g Zm)) (λb' hb ho g hg Zm=>?_) Zr2
 .by_cases e:id'=id
  .subst e;exact .inr Zu
  .rw[Zz e] at hi;exact .inl hi
 .rcases Zlu Zg ht with h1|⟨o',c',sz',h1⟩
  .exact hg h1
  .injection h1 with h1;omega
 .rw[K6] at hb
  injection hb with hb;subst hb;rw[Zl,Zl];exact hn
 .rw[Zl]
  refine⟨λg hg=>?_,λ_ g hg=>?_⟩
  .rcases Vap.1 hg with rfl|hg
   .omega
   .have:=h.flMine g (hr g hg);omega
  .have:w.heap.size=g:=by simpa using hg
   have:=h.base;omega
 .rw[Zl] at Zm
  rw[Yn e] at Zr4;have:=h.F_lt Zr4 g hg;rcases Vap.1 Zm with rfl|Zm
  .omega
  .exact h.flApart id' b'' Zr4 Zm0 g hg (hr g Zm)
 .rw[Zl]
  refine Vaz.2 ⟨λhm=>?_,K0⟩;have:=h.flMine _ (hr _ hm);omega
 .rw[Zl] at hg
  rcases Vap.1 hg with rfl|hg
  .have:=h.flMine _ (J2 _ Zm);omega
  .exact hfd g hg Zm
end
section
variable {P:Program} {B:Nat} {io:Nat->Prop} {w w':World} {tmps:Array Value} {s s':St} {ρ ρ':Rho} {F F':Id->List Nat} {fl fl':List Nat}
theorem Rel.grown {r:List Nat} (h:Rel P B io w tmps s ρ F (r++fl)) {id:Id} (Zg:ρ id=none) (Zu:id.1=s.ep) (Yx:w'.heap.size=w.heap.size+1) (Zgo:∀g,g < w.heap.size->w'.heap[g]?=w.heap[g]?)
  {us zs:List Value} {rows:List (List V)} {e:TypeId} {cl:Bool} {c:Nat} (hat:w'.heap[w.heap.size]?=some (.cells (us++zs).toArray e (0,0))) (hl:rows.length<=c) (hm:c<=maxLen) (hu:∀q∈rows,q.length=P.cellsOf e)
  (Z3:us.length=rows.length*P.cellsOf e) (hz:us.length+zs.length=c*P.cellsOf e) (h1:cl=true->OwL w us rows.flatten r)
  (h2:cl=false->r=[]/\∀(k:Nat) (x:V),rows.flatten[k]?=some x->∃v,us[k]?=some v/\Rd w (okS s ρ w) v x):
  Rel P B io w' tmps (s.setB id ⟨false,true,cl,e,rows⟩) (upd ρ id (some (.blk w.heap.size 0 c (P.cellsOf e)))) (upd F id (w.heap.size::r)) fl:=by
 have K0:=Vat.1 h.flOnce;refine h.fresh Zg Zu Yx Zgo (λk hk=>Vae _ hk) K0.1 (λk hk=>Vao _ hk) K0.2.1 (λk hk Xi=>K0.2.2 k hk k Xi rfl) ?_;refine Yi.mkRow rfl rfl rfl hat hl hm hu (by simpa using hz.symm) rfl (λY4=>?_) (λY4=>?_)
 .have:((us++zs).toArray.toList.drop 0).take (rows.length*P.cellsOf e)=us:=by simp[<-Z3]
  show OwL w' (((us++zs).toArray.toList.drop 0).take (rows.length*P.cellsOf e)) rows.flatten r;rw[this];exact (h1 Y4).frame λg hg=>Zgo g ((h1 Y4).lt g hg)
 .obtain⟨hr,hc⟩:=h2 Y4
  refine⟨hr,λk x hk=>?_⟩;obtain⟨v,hv,hrd⟩:=hc k x hk;refine⟨v,?_,(show Rd w (λg=>(¬tops s ρ g)/\g < w.heap.size) v x from hrd).keep (ok':=λg=>¬tops (s.setB id ⟨false,true,cl,e,rows⟩) (upd ρ id (some (.blk w.heap.size 0 c (P.cellsOf e)))) g) ⟨λg _ hg=>Zgo g hg,λg hg Zs ht=>?_,by omega⟩⟩
  .have Zs:=(ZZh.1 hv).1
   simp[Vam Zs,hv]
  .rcases Zlu Zg ht with h3|⟨o',c',sz',h3⟩
   .exact hg h3
   .injection h3 with h3;omega
end
theorem OwL.lits {w:World} {ok:Nat->Prop}:∀{xs:List V} {us:List Value},us.length=xs.length->(∀(k:Nat) (x:V),xs[k]?=some x->∃v,us[k]?=some v/\Rd w ok v x)->xs.all Z26=true->OwL w us xs []:=by
 intro xs
 induction xs with
 | nil=>intro us hl _ _;rw[Var hl];exact .nil
 | cons x xs ih=>
  intro us hl h ha;cases us with
  | nil=>simp at hl
  | cons u us=>
   simp only[Vbc,ZZg] at ha;obtain⟨v,hv,hr⟩:=h 0 x rfl;have e:u=v:=by simpa using hv
   subst e;have hO:Ow w u x []:=by
    cases x<;>simp[Z26] at ha;cases hr with|lit hs=>exact .lit hs
   have:=OwL.cons hO (ih (us:=us) (by simpa using hl) (λk y hk=>h (k+1) y (by simpa using hk)) ha.2);simpa using this
theorem Z9r {w:World} {ok:Nat->Prop} {a:Addr} {xs:List V} (h:∀(k:Nat) (x:V),xs[k]?=some x->∃v,w.cell? (a.add k)=some v/\Rd w ok v x):
  ∃us:List Value,us.length=xs.length/\(∀(j:Nat) (v:Value),us[j]?=some v->w.cell? (a.add j)=some v)/\∀(k:Nat) (x:V),xs[k]?=some x->∃v,us[k]?=some v/\Rd w ok v x:=by
 refine⟨(List.range xs.length).map λk=>(w.cell? (a.add k)).getD undef,by simp,λj v hj=>?_,λk x hk=>?_⟩
 .simp only[Vay,ZZc] at hj
  obtain⟨j',hj',rfl⟩:=hj;obtain⟨Zs,rfl⟩:=ZZh.1 hj';simp only[Vdm,Vds] at Zs ⊢;obtain⟨v,hv,_⟩:=h j xs[j] (Vab Zs);rw[hv];rfl
 .obtain⟨v,hv,hr⟩:=h k x hk
  have Zs:=(ZZh.1 hk).1;exact⟨v,by simp[Vdh Zs,hv],hr⟩
section
variable {P:Program} {B:Nat} {io:Nat->Prop} {w w':World} {tmps:Array Value} {s s':St} {ρ ρ':Rho} {F F':Id->List Nat} {fl fl':List Nat}
structure Cells (w:World) (ok:Nat->Prop) (sz:Nat) (u:Value) (rows:List (List V)) (cl:Bool) (r:List Nat) (us:List Value):Prop where
 val:∃a c,u=.slice (some a) rows.length c/\∀(j:Nat) (v:Value),us[j]?=some v->w.cell? (a.add j)=some v
 len:us.length=rows.length*sz
 own:cl=true->OwL w us rows.flatten r
 see:cl=false->r=[]/\∀(k:Nat) (x:V),rows.flatten[k]?=some x->∃v,us[k]?=some v/\Rd w ok v x
theorem Cells.ofRd {ok:Nat->Prop} {sz g o c:Nat} {rows:List (List V)} (hs:∀q∈rows,q.length=sz) (h:∀(k:Nat) (x:V),rows.flatten[k]?=some x->∃v,w.cell? ⟨g,o+k,none⟩=some v/\Rd w ok v x):
  ∃us,Cells w ok sz (.slice (some ⟨g,o,none⟩) rows.length c) rows (Kn rows) [] us:=by
 obtain⟨us,h1,h2,h3⟩:=Z9r (w:=w) (ok:=ok) (a:=⟨g,o,none⟩) (xs:=rows.flatten) (λk x hk=>by simpa [W8] using h k x hk);refine⟨us,⟨⟨g,o,none⟩,c,rfl,h2⟩,by rw[h1,Wo hs],λhl=>OwL.lits h1 h3 ?_,λ_=>⟨rfl,h3⟩⟩;simp only[Kn,ZZk] at hl ⊢;intro x hx;obtain⟨q,hq,hx⟩:=Vbs.1 hx;exact hl q hq x hx
end
section
variable {P:Program} {B:Nat} {io:Nat->Prop} {w w':World} {tmps:Array Value} {s s':St} {ρ ρ':Rho} {F F':Id->List Nat} {fl fl':List Nat}
theorem Z1v (h:Rel P B io w tmps s ρ F fl) {id:Id} {off len:Nat} {e:TypeId} {rows:List (List V)} {u:Value} {sz:Nat} (hu:En w (okS s ρ w) ρ u (.sl id off len)) (hw:s.whole id off len=some (e,rows)) (Xp:∀q∈rows,q.length=sz):
  ∃r,Rel P B io w tmps (s.kill id) ρ F (r++fl)/\((rows=[]/\r=[]/\∃A c,u=.slice A 0 c)\/∃us,Cells w (okS (s.kill id) ρ w) sz u rows true r us):=by
 obtain⟨fp,hR,hO⟩:=h.whole hu hw;rcases hO with⟨A,rfl,rfl,rfl⟩|⟨g,o,c,cur,fp',rfl,hg,hl,hm,Wn,hz,hO,rfl⟩
 .exact⟨[],hR,.inl ⟨rfl,rfl,A,0,rfl⟩⟩
 .refine⟨fp',hR.less (by rw[Vbz];exact Vd2 _ _),.inr ⟨_,⟨⟨g,o,none⟩,c,rfl,λj v hj=>?_⟩,by rw[hO.length,Wo Xp],λ_=>hO,λhc=>by cases hc⟩⟩
  rw[Val] at hj;split at hj
  .rw[Vaw] at hj
   simp only[W8,World.cell?,hg];simpa using hj
  .cases hj
theorem Zlz (h:Rel P B io w tmps s ρ F fl) {x:V} {rows:List (List V)} {u:Value} {sz:Nat} (hu:En w (okS s ρ w) ρ u x) (hr:s.rowsOf x=some rows) (Xp:∀q∈rows,q.length=sz):
  (rows=[]/\∃A c,u=.slice A 0 c)\/∃us,Cells w (okS s ρ w) sz u rows (Kn rows) [] us:=by
 have tree:∀{rows:List (List V)} {u:Value},(∀q∈rows,q.length=sz)->Rd w (okS s ρ w) u (.tr rows)->(rows=[]/\∃A c,u=.slice A 0 c)\/∃us,Cells w (okS s ρ w) sz u rows (Kn rows) [] us:=by
  intro rows u Xp hR;cases hR with
  | emp=>exact .inl ⟨rfl,_,_,rfl⟩
  | @tr g o n c sz' _ uf hn hc hm hs hg W9 Wl=>
   subst hn;exact .inr (Cells.ofRd Xp λk x hk=>⟨uf k,W9 k x hk,Wl k x hk⟩)
 unfold St.rowsOf at hr;split at hr
 .rename_i id off len
  obtain⟨b,hb,hr⟩:=ZZb.1 hr;split at hr
  .rename_i hc
   obtain⟨Yf,Z3⟩:=hc;simp only[ZZd] at hr;subst hr;cases hu with
   | sle hi=>exact .inl ⟨by simp,_,_,rfl⟩
   | @sl _ g o c sz' _ _ hρ hc=>
    by_cases Zp:(b.rows.drop off).take len=[]
    .have hl0:len=0:=by
      have:=congrArg List.length Zp;simp at this;omega
     subst hl0;exact .inl ⟨Zp,_,_,rfl⟩
    .have hlr:((b.rows.drop off).take len).length=len:=by simp;omega
     have hB:=h.heap id b hb;rw[hρ] at hB;have Wn:∀r∈b.rows,r.length=sz':=by
      unfold Yi at hB;rw[Yf] at hB;generalize Zo:b.own=ow at hB;cases ow with
      | true=>
       rcases hB with⟨Yu,_⟩|⟨g',o',c',cur,Yu,hg,hl,hm,Wn,_⟩
       .cases Yu
       .cases Yu;exact Wn
      | false=>
       obtain⟨_,hB⟩:=hB;rcases hB with⟨Yu,_⟩|⟨g',o',c',sz2,Yu,Wn,_⟩
       .cases Yu
       .cases Yu;exact Wn
     have Zr3:∀r∈(b.rows.drop off).take len,r.length=sz':=λr hr=>Wn r (Va9 (Vba hr));have:=Cells.ofRd (w:=w) (ok:=okS s ρ w) (g:=g) (o:=o+off*sz') (c:=c - off) Xp λk x hk=>by
      obtain⟨i,j,row,hi,hj,rfl⟩:=Zkd Zr3 hk;rw[Val] at hi;split at hi
      .rw[Vaw] at hi
       obtain⟨u,h1,_,h2⟩:=h.cell hb hρ hi hj;refine⟨u,?_,h2 Yf⟩;rw[show o+off*sz'+(i*sz'+j)=o+(off+i)*sz'+j by rw[Nat.add_mul];omega];exact h1
      .cases hi
     rw[hlr] at this;exact .inr this
  .cases hr
 .simp only[ZZd] at hr;subst hr;cases hu with|tr h=>exact tree Xp h
 .simp only[ZZd] at hr;subst hr;cases hu with|vw h=>exact tree Xp h
 .simp only[ZZd] at hr;subst hr;cases hu;exact .inl ⟨rfl,_,_,rfl⟩
 .cases hr
theorem Z77 {all:Bool} (h:Rel P B io w tmps s ρ F fl) {x:V} {rows:List (List V)} {cl:Bool} {s1:St} {u:Value} {sz:Nat} (hu:En w (okS s ρ w) ρ u x) (hm:s.moved all x=some (rows,cl,s1)) (Xp:∀q∈rows,q.length=sz):
  ∃r,Rel P B io w tmps s1 ρ F (r++fl)/\((rows=[]/\r=[]/\∃A c,u=.slice A 0 c)\/∃us,Cells w (okS s1 ρ w) sz u rows cl r us)/\(s1=s\/∃id,s1=s.kill id):=by
 have seen:∀{rows':List (List V)},s.rowsOf x=some rows'->(rows',Kn rows',s)=(rows,cl,s1)->∃r,Rel P B io w tmps s1 ρ F (r++fl)/\((rows=[]/\r=[]/\∃A c,u=.slice A 0 c)\/∃us,Cells w (okS s1 ρ w) sz u rows cl r us)/\(s1=s\/∃id,s1=s.kill id):=by
  intro rows' hr he;simp only[ZZe] at he;obtain⟨rfl,rfl,rfl⟩:=he;refine⟨[],h,?_,.inl rfl⟩;rcases Zlz h hu hr Xp with⟨h1,h2⟩|h1
  .exact .inl ⟨h1,rfl,h2⟩
  .exact .inr h1
 unfold St.moved at hm;split at hm
 .rename_i id off len
  split at hm
  .rename_i er hw
   split at hw
   .simp only[ZZd,ZZe] at hm
    obtain⟨rfl,rfl,rfl⟩:=hm;obtain⟨r,h1,h2⟩:=Z1v h hu (e:=er.1) (rows:=er.2) hw Xp;exact⟨r,h1,h2,.inr ⟨id,rfl⟩⟩
   .cases hw
  .obtain⟨rows',hr,he⟩:=ZZc.1 hm
   exact seen hr he
 .obtain⟨rows',hr,he⟩:=ZZc.1 hm
  exact seen hr he
end
section
variable {P:Program} {w:World}
theorem Zj9 (t ty e:TypeId) (i:TypeInfo) (ht:P.underlying t=some (.slice e)) (hi:P.info? e=some i) (base A:Option Addr) (n c c2:Nat) (hn:n<=c):
  (Builtin.append_ #[t,t] ty #[.slice base n c,.slice A 0 c2]).run P w=.ok (.slice base n c) w:=by
 have hf:(Builtin.firstCells i.size 0 (.slice A 0 c2)).run P w=.ok #[] w:=by
  cases A<;>simp[Builtin.firstCells,loadCells,loadCellsFrom]
 cases base<;>simp[Builtin.append_,run_underlying ht,Go.sizeOf,typeInfo,hi,Builtin.lenOf,hn,hf,storeCells]
theorem Z1h (t ty e:TypeId) (i:TypeInfo) (ht:P.underlying t=some (.slice e)) (hi:P.info? e=some i)
  (g o sLen sCap:Nat) (cur:Array Value) (hg:w.heap[g]?=some (.cells cur e (0,0)))
  (a:Addr) (m c:Nat) (news:List Value) (hl:news.length=m*i.size) (Zgn:∀j u,news[j]?=some u->w.cell? (a.add j)=some u) (h1:∀u∈news,u.oneCell'=true)
  (Z4e:sLen+m<=sCap) (Zpc:o+sLen*i.size+news.length<=cur.size):
  (Builtin.append_ #[t,t] ty #[.slice (some ⟨g,o,none⟩) sLen sCap,.slice (some a) m c]).run P w=
   .ok (.slice (some ⟨g,o,none⟩) (sLen+m) sCap) (w.setRow g (cur.toList.take (o+sLen*i.size)++news++cur.toList.drop (o+sLen*i.size+news.length)).toArray):=by
 have hf:=run_firstCells_some (P:=P) w i.size m a m c news hl Zgn;have hst:=run_storeCells_at P g (o+sLen*i.size) e news 0 cur w hg (by simpa using Zpc) h1;simp only[Va5] at hst;simp[Builtin.append_,run_underlying ht,Go.sizeOf,typeInfo,hi,Builtin.lenOf,Z4e,hf,W8,hst]
end
section
variable {P:Program} {B:Nat} {io:Nat->Prop} {w w':World} {tmps:Array Value} {s s':St} {ρ ρ':Rho} {F F':Id->List Nat} {fl fl':List Nat}
theorem Rel.grownAt {r:List Nat} (h:Rel P B io w tmps s ρ F (r++fl)) {id:Id} (Zg:ρ id=none) (Zu:id.1=s.ep) {us:List Value} {rows:List (List V)} {e:TypeId} {cl:Bool} {c:Nat} {z:Value} (hz:z.cells.size=P.cellsOf e) (hl:rows.length<=c) (hm:c<=maxLen) (hu:∀q∈rows,q.length=P.cellsOf e)
  (Z3:us.length=rows.length*P.cellsOf e) (h1:cl=true->OwL w us rows.flatten r) (h2:cl=false->r=[]/\∀(k:Nat) (x:V),rows.flatten[k]?=some x->∃v,us[k]?=some v/\Rd w (okS s ρ w) v x):
  Rel P B io (w.drew.alloc (.cells (us.toArray++Builtin.zeroCells z.cells (c - rows.length)) e)) tmps (s.setB id ⟨false,true,cl,e,rows⟩) (upd ρ id (some (.blk w.heap.size 0 c (P.cellsOf e)))) (upd F id (w.heap.size::r)) fl:=by
 refine h.grown Zg Zu (us:=us) (zs:=(Builtin.zeroCells z.cells (c - rows.length)).toList) (Zaw w.drew _) (λg hg=>Below.heap_alloc w.drew _ g hg) ?_ hl hm hu Z3 ?_ h1 h2
 .have:=Zh0 w.drew (.cells (us.toArray++Builtin.zeroCells z.cells (c - rows.length)) e)
  rw[show (us++(Builtin.zeroCells z.cells (c - rows.length)).toList).toArray=us.toArray++Builtin.zeroCells z.cells (c - rows.length) by apply Vdc;simp];exact this
 .show us.length+(Builtin.zeroCells z.cells (c - rows.length)).toList.length=_
  rw[Array.length_toList (xs:=Builtin.zeroCells z.cells (c - rows.length)),size_zeroCells,hz,Z3,<-Nat.add_mul]
  congr 1
  omega
end
section
variable {P:Program} {B:Nat} {io:Nat->Prop} {w w':World} {a:Act} {tmps:Array Value} {s s' s1:St} {ρ ρ':Rho} {F F':Id->List Nat} {fl fl':List Nat} {k:Nat} {o:Oper} {v:V}
theorem Z7y {id:Id} {b:Blk} (Zg:ρ id=none) {g:Nat} (h:tops (s.setB id b) (upd ρ id (some .emp)) g):tops s ρ g:=by
 obtain⟨id',b',o,c,sz,hb,ho,hρ⟩:=h;by_cases e:id'=id
 .subst e;rw[Zl] at hρ;cases hρ
 .rw[Yn e] at hb;rw[Zz e] at hρ;exact⟨id',b',o,c,sz,hb,ho,hρ⟩
theorem Rel.newEmp (h:Rel P B io w tmps s ρ F fl) {id:Id} (Zg:ρ id=none) (Zu:id.1=s.ep) {b:Blk} (Yf:b.box=false) (Zo:b.own=true) (hr:b.rows=[]):
  Rel P B io w tmps (s.setB id b) (upd ρ id (some .emp)) (upd F id []) fl:=by
 refine h.step (nid:=id) rfl rfl (λid' b' e hb=>by rw[Yn e] at hb;exact hb) (Wr Zg) (λid' hi=>?_) (λid' e=>Zz e) (λid' e=>Zz e) (.same λg=>Z7y Zg)
  (λ_ _ _ _ _ _=>rfl) (λ_ _ _=>rfl) (λb' hb=>?_) (λb' hb ho=>?_) (λb' hb ho id' b'' e Zr4 Zm0 g hg Zm=>?_) (λb' hb ho=>?_) h.flMine
  (λid' b' e hb ho g hg=>h.flApart id' b' (by rw[Yn e] at hb;exact hb) ho g hg) (λb' hb ho g hg Zm=>?_) h.flOnce
 .by_cases e:id'=id
  .subst e;exact .inr Zu
  .rw[Zz e] at hi;exact .inl hi
 .rw[K6] at hb
  injection hb with hb;subst hb;rw[Zl,Zl];exact .mkEmp Yf Zo rfl hr rfl
 .rw[Zl];exact⟨λg hg=>by simp at hg,λ_ g hg=>by simp at hg⟩
 .rw[Zl] at Zm;simp at Zm
 .rw[Zl];simp
 .rw[Zl] at hg;simp at hg
theorem Zhu {id:Id} {i:Zff} {e k:Nat} (Zu:id.1=e) (hk:id.2 / 1024=k):∀id',(upd ρ id (some i) id').isSome=true->(ρ id').isSome=true\/(id'.1=e/\id'.2 / 1024=k):=λid' hi=>by
 by_cases h:id'=id
 .subst h;exact .inr ⟨Zu,hk⟩
 .rw[Zz h] at hi;exact .inl hi
theorem Q7 {t:TypeId} {bo xo:Operand} {u:Value} (ho:o.op=.call {callee:=.builtin .append,args:=#[bo,xo],argTypes:=#[t,t]})
  (hr:(Builtin.append_ #[t,t] o.type #[a.eval bo,a.eval xo]).run P w=.ok u w'):(execOp a.eval o).run P w=.ok (.value u) w':=by
 simp[execOp,ho,resolve,invoke,builtin,hr]
theorem Y9.drew {w0:World} (h:Y9 B io w0 w):Y9 B io w0 w.drew:=⟨h.os,h.tape,h.output,h.size,h.block⟩
theorem Zij {r:List Nat} (h:Rel P B io w a.tmps s1 ρ F (r++fl)) (Wm:s1.env=s.env) (J9:s1.ep=s.ep) {id:Id} (Zg:ρ id=none) (Zu:id.1=s.ep) (hk:id.2 / 1024=k) {us:List Value} {rows:List (List V)} {e:TypeId} {cl:Bool} {need old:Nat} {z:Value}
  (hz:z.cells.size=P.cellsOf e) (hn:rows.length=need) (hm:need<=maxLen) (hu:∀q∈rows,q.length=P.cellsOf e)
  (Z3:us.length=rows.length*P.cellsOf e) (h1:cl=true->OwL w us rows.flatten r) (h2:cl=false->r=[]/\∀(k:Nat) (x:V),rows.flatten[k]?=some x->∃v,us[k]?=some v/\Rd w (okS s1 ρ w) v x):
  Stp P B io w a.tmps s ρ fl k (.sl id 0 need) (s1.setB id ⟨false,true,cl,e,rows⟩) (.slice (some ⟨w.heap.size,0,none⟩) need (grownCap w need old e)) (w.drew.alloc (.cells (us.toArray++Builtin.zeroCells z.cells (grownCap w need old e - need)) e)):=by
 subst hn;have hge:=grownCap_ge w rows.length old e;have hR:=h.grownAt (fl:=fl) Zg (by rw[J9];exact Zu) (z:=z) (cl:=cl) hz hge (grownCap_le_maxLen w _ old e hm) hu Z3 h1 h2;refine⟨Wm,J9,((Y9.refl B io w).drew).alloc h.base _,_,_,hR,?_,Wr Zg,Zhu Zu hk⟩;have:=En.sl (w:=w.drew.alloc (.cells (us.toArray++Builtin.zeroCells z.cells (grownCap w rows.length old e - rows.length)) e)) (ok:=okS (s1.setB id ⟨false,true,cl,e,rows⟩) (upd ρ id (some (.blk w.heap.size 0 (grownCap w rows.length old e) (P.cellsOf e)))) (w.drew.alloc (.cells (us.toArray++Builtin.zeroCells z.cells (grownCap w rows.length old e - rows.length)) e)))
  (off:=0) (len:=rows.length) (Zl ρ id (some (.blk w.heap.size 0 (grownCap w rows.length old e) (P.cellsOf e)))) (by omega)
 simpa using this
end
section
variable {P:Program} {B:Nat} {io:Nat->Prop} {w w':World} {a:Act} {tmps:Array Value} {s s' s1:St} {ρ ρ':Rho} {F F':Id->List Nat} {fl fl':List Nat} {k:Nat} {o:Oper} {v:V}
theorem Z1n {n:Nat} {rows:List (List V)} (h:Zcj n rows=true):∀q∈rows,q.length=n:=λq hq=>by
 have:=ZZk.1 h q hq;simpa using this
theorem Rel.over {r:List Nat} (h:Rel P B io w tmps s ρ F (r++fl)) {i id:Id} {b b':Blk} {g o c sz o' c' sz':Nat} {f':List Nat} {new:Array Value} (Zg:ρ id=none) (Zu:id.1=s.ep) (hb:s.heap i=some b) (ho:b.own=true) (hρ:ρ i=some (.blk g o c sz))
  (hF:∃q,F i=g::q) (hFm:∀k∈f',k∈F i\/k∈r) (K0:(g::f').Nodup) (Zcy:0 < c)
  (hn:Yi P (w.setRow g new) (okS ((s.kill i).setB id b') (upd ρ id (some (.blk g o' c' sz'))) (w.setRow g new)) (upd ρ id (some (.blk g o' c' sz'))) (some (.blk g o' c' sz')) (g::f') b'):
  Rel P B io (w.setRow g new) tmps ((s.kill i).setB id b') (upd ρ id (some (.blk g o' c' sz'))) (upd F id (g::f')) fl/\Y9 B io w (w.setRow g new):=by
 have Zp:i≠id:=by rintro rfl;rw[Zg] at hρ;cases hρ
 have old:∀{id':Id} {b'':Blk},id'≠id->((s.kill i).setB id b').heap id'=some b''->s.heap id'=some b''/\id'≠i:=λ{id' b''} e Zn=>by
  rw[Yn e] at Zn;refine⟨Kf Zn,?_⟩;rintro rfl;rw[Xo] at Zn;cases Zn
 obtain⟨q,hFr⟩:=hF;have hgF:g∈F i:=by rw[hFr];exact Vaa
 have Yq:tops s ρ g:=⟨i,b,o,c,sz,hb,ho,hρ⟩;have Zhr:(w.setRow g new).heap.size=w.heap.size:=by simp[World.setRow]
 have Za5:∀k∈g::f',k∈F i\/k∈r:=λk hk=>by
  rcases Vap.1 hk with rfl|hk
  .exact .inl hgF
  .exact hFm k hk
 have hflr:=Vat.1 h.flOnce;refine⟨h.step (nid:=id) rfl rfl (λid' b'' e Zn=>(old e Zn).1) (Wr Zg) (λid' hi=>?_) (λid' e=>Zz e) (λid' e=>Zz e)
  ⟨λg' Zm _=>setRow_other w g g' _ (λe=>Zm (e▸Yq)),λg' Zm _ ht=>Zm (Zja Zg hb ho hρ g' ht),by rw[Zhr];exact Vaf _⟩ (λid' b'' e Zn g' Zm=>setRow_other w g g' _ (λe'=>?_))
  (λk hk hio=>setRow_other w g k _ (λe=>by
   subst e;rcases h.top i b hb ho ⟨k,o,c,sz,hρ,Zcy⟩ k (by rw[hFr];rfl) with h1|h1
   .exact hio h1
   .omega))
  (λb'' Zn=>?_) (λb'' Zn Xy=>?_) (λb'' Zn Xy id' b3 e hb3 ho3 g' Zm Zap=>?_) (λb'' Zn Xy=>by rw[Zl];exact K0) (λg' Zm=>by rw[Zhr];exact h.flMine g' (Vao _ Zm))
  (λid' b'' e Zn Xy g' Zm Zap=>h.flApart id' b'' (old e Zn).1 Xy g' Zm (Vao _ Zap)) (λb'' Zn Xy g' Zm Zap=>?_) hflr.2.1,⟨rfl,rfl,rfl,by rw[Zhr];exact Vaf _,λg' Zm hio=>setRow_other w g g' _ (λe=>?_)⟩⟩
 .by_cases e:id'=id
  .subst e;exact .inr Zu
  .rw[Zz e] at hi;exact .inl hi
 .subst e'
  obtain⟨h1,h2⟩:=old e Zn;cases Zo:b''.own with
  | true=>exact h.apart id' i b'' b h1 Zo hb ho h2 g' Zm hgF
  | false=>
   have hB:=h.heap id' b'' h1;unfold Yi at hB;rw[Zo] at hB;split at hB
   .cases hB.1
   .rename_i h2;cases h2
   .rw[hB.1] at Zm;cases Zm
 .rw[K6] at Zn
  injection Zn with Zn;subst Zn;rw[Zl,Zl];exact hn
 .rw[Zl]
  refine⟨λg' Zm=>?_,λ_ g' Zm=>?_⟩
  .rw[Zhr]
   rcases Za5 g' Zm with h1|h1
   .exact h.mine i b hb ho g' h1
   .exact h.flMine g' (Vae _ h1)
  .have e1:g=g':=by simpa using Zm
   subst e1;exact h.top i b hb ho ⟨g,o,c,sz,hρ,Zcy⟩ g (by rw[hFr];rfl)
 .rw[Zl] at Zap
  obtain⟨h3,h4⟩:=old e hb3;rcases Za5 g' Zap with h1|h1
  .exact h.apart id' i b3 b h3 ho3 hb ho h4 g' Zm h1
  .exact h.flApart id' b3 h3 ho3 g' Zm (Vae _ h1)
 .rw[Zl] at Zm
  rcases Za5 g' Zm with h1|h1
  .exact h.flApart i b hb ho g' h1 (Vao _ Zap)
  .exact hflr.2.2 g' h1 g' Zap rfl
 .subst e
  rcases h.top i b hb ho ⟨g',o,c,sz,hρ,Zcy⟩ g' (by rw[hFr];rfl) with h1|h1
  .exact hio h1
  .omega
theorem Z5o {all:Bool} (h:Rel P B io w a.tmps s ρ F fl) {t:TypeId} {bo xo:Operand} (ho:o.op=.call {callee:=.builtin .append,args:=#[bo,xo],argTypes:=#[t,t]}) {id:Id}
  (he:Zcc P all s id t (s.opV bo) (s.opV xo)=some (v,s')) (Zg:ρ id=none) (Zu:id.1=s.ep) (hk:id.2 / 1024=k):
  OpR P o a w (Stp P B io w a.tmps s ρ fl k v s'):=by
 unfold Zcc at he;obtain⟨e,Xw,he⟩:=ZZb.1 he;obtain⟨⟨rows,cl,s1⟩,hm,he⟩:=ZZb.1 he;have ht:=Q9 Xw;split at he
 case isFalse=>cases he
 rename_i hc;obtain⟨Xp,Yx,hzo⟩:=hc;simp only[Zi] at Xp Yx;have Wn:=Z1n Xp;simp only at Wn he;obtain⟨i,hi,z,hz,hzs⟩:∃i,P.info? e=some i/\∃z,i.zero=some z/\z.cells.size=P.cellsOf e:=by
  unfold Zex at hzo;split at hzo
  .rename_i z hz
   obtain⟨i,hi,hz⟩:=ZZb.1 hz;exact⟨i,hi,z,hz,by simpa using hzo⟩
  .cases hzo
 have Zpi:i.size=P.cellsOf e:=by simp[Program.cellsOf,hi]
 have Z4f:i.bytes=P.bytesOf e:=by simp[Program.bytesOf,hi]
 have hps:0 < P.cellsOf e:=Vdn Yx;obtain⟨r,hR,hcx,Jh⟩:=Z77 h (h.opV xo) hm Wn;have Wm:s1.env=s.env:=by rcases Jh with rfl|⟨_,rfl⟩<;>rfl
 have J9:s1.ep=s.ep:=by rcases Jh with rfl|⟨_,rfl⟩<;>rfl
 have hsubh:∀id b,s1.heap id=some b->s.heap id=some b:=by rcases Jh with rfl|⟨_,rfl⟩;exactλ_ _ h=>h;exactλ_ _ h=>Kf h
 have one:∀{us:List Value},Cells w (okS s1 ρ w) (P.cellsOf e) (a.eval xo) rows cl r us->∀u∈us,u.oneCell'=true:=by
  intro us hC u hu;cases Y4:cl with
  | true=>exact (hC.own Y4).one u hu
  | false=>
   obtain⟨j,hj⟩:=Va2 hu;have Zs:j < rows.flatten.length:=by have:=hC.len;rw[Wo Wn,<-hC.len];exact (ZZh.1 hj).1
   obtain⟨v',hv',Wl⟩:=(hC.see Y4).2 j _ (Vab Zs);rw[hj] at hv';injection hv' with hv';subst hv';exact Wl.one
 have Z4g:(rows=[]/\∃A c,a.eval xo=.slice A 0 c)\/(rows≠[]/\∃us,Cells w (okS s1 ρ w) (P.cellsOf e) (a.eval xo) rows cl r us):=by
  rcases hcx with⟨h1,_,h2⟩|⟨us,hC⟩
  .exact .inl ⟨h1,h2⟩
  .by_cases hn:rows=[]
   .obtain⟨ad,c,hv,_⟩:=hC.val
    exact .inl ⟨hn,some ad,c,by rw[hv,hn];rfl⟩
   .exact .inr ⟨hn,us,hC⟩
 have hbv:=h.opV bo;split at he
 .rename_i hbo
  split at he
  case isFalse=>cases he
  rename_i Zku;simp only[ZZd,ZZe] at he;obtain⟨rfl,rfl⟩:=he;rw[hbo] at hbv;generalize hq:a.eval bo=q at hbv;cases hbv;rcases Z4g with⟨rfl,A,c,hx⟩|⟨Zp,us,hC⟩
  .have Z8:=Zj9 (P:=P) (w:=w) t o.type e i ht hi none A 0 0 c (Vaf _)
   rw[<-hq,<-hx] at Z8;refine .value (Q7 ho Z8) ⟨Wm,J9,Y9.refl _ _ _,_,_,(hR.less (Va6 _ _)).newEmp Zg (Zu.trans J9.symm) rfl rfl rfl,?_,Wr Zg,Zhu Zu hk⟩;rw[hq];exact .sle (by rw[Zl];rfl)
  .obtain⟨ad,c,hv,Kj⟩:=hC.val
   have K2:0 < rows.length:=Vbl.2 Zp;have Z8:=run_append_nil (P:=P) (w:=w) t o.type e i z ht hi hz ad rows.length c us (by rw[hC.len,Zpi]) Kj K2 (by omega) (by rw[Z4f];omega);rw[<-hq,<-hv] at Z8;exact .value (Q7 ho Z8) (Zij hR Wm J9 Zg Zu hk hzs rfl (by unfold maxLen;omega) Wn hC.len hC.own hC.see)
 .rename_i ib off len hbo
  obtain⟨kb,hkb,he⟩:=ZZb.1 he;split at he
  case isFalse=>cases he
  rename_i Zku;obtain⟨Yf,Zo,hol,hel,hby,h63⟩:=Zku;simp only[ZZd,ZZe] at he;obtain⟨rfl,rfl⟩:=he;have hB:=hR.heap ib kb hkb;rw[hbo] at hbv;generalize hq:a.eval bo=q at hbv;have hidb:ib≠id:=by
   rintro rfl;cases hbv with
   | sl hρ=>rw[Zg] at hρ;cases hρ
   | sle hρ=>rw[Zg] at hρ;cases hρ
  cases hbv with
  | @sle _ A _ hρ=>
   have hd:kb.rows.drop off=[]:=by apply Vbj;omega
   rcases Z4g with⟨rfl,A',c,hx⟩|⟨Zp,us,hC⟩
   .have Z8:=Zj9 (P:=P) (w:=w) t o.type e i ht hi A A' 0 0 c (Vaf _)
    rw[<-hq,<-hx] at Z8;refine .value (Q7 ho Z8) ⟨Wm,J9,Y9.refl _ _ _,_,_,((hR.less (Va6 _ _)).kill ib).newEmp (b:=⟨false,true,kb.cl&&cl,e,kb.rows.drop off++[]⟩) Zg (Zu.trans J9.symm) rfl rfl (by rw[hd];rfl),?_,Wr Zg,Zhu Zu hk⟩;rw[hq];exact .sle (by rw[Zl];rfl)
   .obtain⟨ad,c,hv,Kj⟩:=hC.val
    have K2:0 < rows.length:=Vbl.2 Zp;have hby0:rows.length*P.bytesOf e<=140737488355328:=by simpa using hby
    have Z8:(Builtin.append_ #[t,t] o.type #[a.eval bo,a.eval xo]).run P w=.ok (.slice (some ⟨w.heap.size,0,none⟩) rows.length (grownCap w rows.length 0 e)) (w.drew.alloc (.cells (us.toArray++Builtin.zeroCells z.cells (grownCap w rows.length 0 e - rows.length)) e)):=by
     rw[hq,hv];cases A with
     | none=>exact run_append_nil (P:=P) (w:=w) t o.type e i z ht hi hz ad rows.length c us (by rw[hC.len,Zpi]) Kj K2 (by omega) (by rw[Z4f];omega)
     | some b=>
      have:=run_append_grow (P:=P) (w:=w) t o.type e i z ht hi hz b 0 0 [] (by simp) (by simp) ad rows.length c us (by rw[hC.len,Zpi]) Kj (by omega) (by omega) (growslice_fits (by omega) (by rw[Z4f,Vbk];exact hby0));simpa using this
    have hcl':(kb.cl&&cl)=true->OwL w us rows.flatten r:=λhc=>hC.own (by simp at hc;exact hc.2);rw[hd,Vcx];have hkr:kb.rows.length=off:=by omega
    cases Qc:(kb.cl&&cl) with
    | true=>
     refine .value (Q7 ho Z8) ?_;have:=Zij (s:=s) (k:=k) (s1:=s1.kill ib) (old:=0) (hR.kill ib) Wm J9 Zg Zu hk hzs rfl (by unfold maxLen;omega) Wn hC.len (cl:=true) (λ_=>hC.own (by simp at Qc;exact Qc.2)) (λh=>by cases h);simpa using this
    | false=>
     refine .value (Q7 ho Z8) ?_;have see:∀(k:Nat) (x:V),rows.flatten[k]?=some x->∃v,us[k]?=some v/\Rd w (okS (s1.kill ib) ρ w) v x:=by
      intro j x hx;cases Y4:cl with
      | true=>
       obtain⟨v,hv,hr⟩:=(hC.own Y4).rd (ok:=okS s1 ρ w) (λg hg=>hR.ok_fl (Vae _ hg)) hx;exact⟨v,hv,hr.mono (λ_ _ _=>rfl) (λg hg=>Zh1 hg)⟩
      | false=>
       obtain⟨v,hv,hr⟩:=(hC.see Y4).2 j x hx;exact⟨v,hv,hr.mono (λ_ _ _=>rfl) (λg hg=>Zh1 hg)⟩
     have:=Zij (s:=s) (k:=k) (s1:=s1.kill ib) (old:=0) (r:=[]) (fl:=fl) ((hR.less (Va6 _ _)).kill ib) Wm J9 Zg Zu hk hzs rfl (by unfold maxLen;omega) Wn hC.len (cl:=false) (λh=>by cases h) (λ_=>⟨rfl,see⟩);simpa using this
  | @sl _ g o0 c0 sz _ _ hρ hoc=>
   rw[hρ] at hB;have hB':=hB;unfold Yi at hB;rw[Yf,Zo] at hB;rcases hB with⟨Yu,_⟩|⟨g',o',c',cur,Yu,hg,hl,hmx,Z4h,hzc,fp,J1,h1,h2⟩
   .cases Yu
   .cases Yu
    subst hel;have Zu6:g ∉ r++fl:=hR.flApart ib kb hkb Zo g (by rw[J1];exact Vaa);have Zu7:∀q∈kb.rows.drop off,q.length=P.cellsOf kb.el:=λq hq=>Z4h q (Va9 hq);have hdl:(kb.rows.drop off).length=len:=by simp;omega
    have hoc':off*P.cellsOf kb.el+(c0 - off)*P.cellsOf kb.el=c0*P.cellsOf kb.el:=by rw[<-Nat.add_mul];congr 1;omega
    have hlc:kb.rows.length*P.cellsOf kb.el<=c0*P.cellsOf kb.el:=Vbr _ hl;have hll:off*P.cellsOf kb.el+len*P.cellsOf kb.el=kb.rows.length*P.cellsOf kb.el:=by rw[<-Nat.add_mul,hol]
    let olds:=(cur.toList.drop (o0+off*P.cellsOf kb.el)).take (len*P.cellsOf kb.el)
    have Yaz:olds=(cur.toList.drop (o0+off*P.cellsOf kb.el)).take (len*P.cellsOf kb.el):=rfl;have Zxb:olds.length=len*P.cellsOf kb.el:=by simp[olds];omega
    have hold2:((cur.toList.drop o0).take (kb.rows.length*P.cellsOf kb.el)).drop (off*P.cellsOf kb.el)=olds:=by
     rw[List.drop_take,List.drop_drop];simp only[olds];congr 1;omega
    have Z4i:∀(j:Nat) (v:Value),olds[j]?=some v->cur[o0+off*P.cellsOf kb.el+j]?=some v:=by
     intro j v hj;simp only[olds] at hj;rw[Val] at hj;split at hj
     .simpa using hj
     .cases hj
    have Yam:∀(j:Nat) (v:Value),olds[j]?=some v->w.cell? ((⟨g,o0+off*P.cellsOf kb.el,none⟩:Addr).add j)=some v:=by
     intro j v hj;rw[W8,cell_of_row w g _ cur kb.el (0,0) hg];exact Z4i j v hj
    have Zxc:kb.cl=true->∃f1,OwL w olds (kb.rows.drop off).flatten f1/\f1.Sublist fp:=λhc=>by
     obtain⟨f1,hO,hs⟩:=(h1 hc).drop (off*P.cellsOf kb.el);rw[hold2,Zcd off Z4h] at hO;exact⟨f1,hO,hs⟩
    have Z8k:∀(j:Nat) (x:V),(kb.rows.drop off).flatten[j]?=some x->∃v,olds[j]?=some v/\Rd w (okS s1 ρ w) v x:=by
     intro j x hj;cases hkc:kb.cl with
     | true=>
      obtain⟨f1,hO,hs⟩:=Zxc hkc;refine hO.rd (λg'' Zap=>hR.ok_of_F hkb Zo hρ (by rw[J1];exact Vac _ (hs.subset Zap)) (λg3 _ _ _ e=>by
       cases e;rintro rfl;have:=hR.once ib kb hkb Zo;rw[J1] at this;exact (Vaz.1 this).1 (hs.subset Zap))) hj
     | false=>
      rw[<-Zcd off Z4h,Vaw] at hj;obtain⟨v,hv,hr⟩:=(h2 hkc).2 _ x hj;refine⟨v,?_,hr⟩;have Zs:=(ZZh.1 hj).1;rw[Wo Z4h] at Zs;simp only[olds];rw[Val,ZZj (by omega),Vaw];simpa [Nat.add_assoc] using hv
    have hrdn:∀{us:List Value},Cells w (okS s1 ρ w) (P.cellsOf kb.el) (a.eval xo) rows cl r us->∀(j:Nat) (x:V),rows.flatten[j]?=some x->∃v,us[j]?=some v/\Rd w (okS s1 ρ w) v x:=by
     intro us hC j x hx;cases Y4:cl with
     | true=>exact (hC.own Y4).rd (λg hg=>hR.ok_fl (Vae _ hg)) hx
     | false=>exact (hC.see Y4).2 j x hx
    have Zz2:=hR.once ib kb hkb Zo;rw[J1] at Zz2;rcases Z4g with⟨rfl,A',c,hx⟩|⟨Zp,us,hC⟩
    .have Z8:=Zj9 (P:=P) (w:=w) t o.type kb.el i ht hi (some ⟨g,o0+off*P.cellsOf kb.el,none⟩) A' len (c0 - off) c (by omega)
     rw[<-hq,<-hx] at Z8;have hR':=hR.less (Va6 r fl);have hc00:(([]:List (List V))).length=0:=rfl;have Zr5:∃F'',Rel P B io w a.tmps ((s1.kill ib).setB id ⟨false,true,kb.cl&&cl,kb.el,kb.rows.drop off++[]⟩) (upd ρ id (some (.blk g (o0+off*P.cellsOf kb.el) (c0 - off) (P.cellsOf kb.el)))) F'' fl:=by
      have Zzy:∀g',okS s1 ρ w g'->okS ((s1.kill ib).setB id ⟨false,true,kb.cl&&cl,kb.el,kb.rows.drop off++[]⟩) (upd ρ id (some (.blk g (o0+off*P.cellsOf kb.el) (c0 - off) (P.cellsOf kb.el)))) w g':=λg' Zm=>⟨λht=>Zm.1 (Zja Zg hkb Zo hρ g' ht),Zm.2⟩;cases Qc:(kb.cl&&cl) with
      | true=>
       obtain⟨f1,hO,hs⟩:=Zxc (by simp at Qc;exact Qc.1);refine⟨_,hR'.move (b':=⟨false,true,true,kb.el,kb.rows.drop off++[]⟩) (Fs:=g::f1) Zg (by rw[J9];exact Zu) hkb Zo hρ ⟨fp,J1⟩ ⟨f1,rfl⟩ (λk' Xi=>?_) (Vaz.2 ⟨λhm=>(Vaz.1 Zz2).1 (hs.subset hm),(Vaz.1 Zz2).2.sublist hs⟩) (λ_=>by omega) (.mkRow rfl rfl rfl hg (by simp;omega) (by omega) (by rw[Vb2];exact Zu7) (by show o0+off*P.cellsOf kb.el+(c0 - off)*P.cellsOf kb.el=cur.size;omega) rfl (λ_=>?_) (λhf=>by cases hf))⟩
       .rw[J1]
        rcases Vap.1 Xi with rfl|Xi
        .exact Vaa
        .exact Vac _ (hs.subset Xi)
       .simp only[Vb2,hdl];exact hO
      | false=>
       refine⟨_,hR'.move (b':=⟨false,true,false,kb.el,kb.rows.drop off++[]⟩) (Fs:=[g]) Zg (by rw[J9];exact Zu) hkb Zo hρ ⟨fp,J1⟩ ⟨[],rfl⟩ (λk' Xi=>by rw[J1,List.mem_singleton.1 Xi];exact Vaa) (by simp) (λ_=>by omega) (.mkRow rfl rfl rfl hg (by simp;omega) (by omega) (by rw[Vb2];exact Zu7) (by show o0+off*P.cellsOf kb.el+(c0 - off)*P.cellsOf kb.el=cur.size;omega) rfl (λhf=>by cases hf) (λ_=>⟨rfl,λj x hj=>?_⟩))⟩;simp only[Vb2] at hj;obtain⟨v,hv,hr⟩:=Z8k j x hj;rw[Qc] at Zzy;exact⟨v,Z4i j v hv,hr.mono (λ_ _ _=>rfl) Zzy⟩
     obtain⟨F'',Zr5⟩:=Zr5;refine .value (Q7 ho Z8) ⟨Wm,J9,Y9.refl _ _ _,_,_,Zr5,?_,Wr Zg,Zhu Zu hk⟩;have:=En.sl (w:=w) (ok:=okS ((s1.kill ib).setB id ⟨false,true,kb.cl&&cl,kb.el,kb.rows.drop off++[]⟩) (upd ρ id (some (.blk g (o0+off*P.cellsOf kb.el) (c0 - off) (P.cellsOf kb.el)))) w) (off:=0) (len:=len) (Zl ρ id (some (.blk g (o0+off*P.cellsOf kb.el) (c0 - off) (P.cellsOf kb.el)))) (by omega);rw[hq];simpa using this
    .obtain⟨ad,c,hv,Kj⟩:=hC.val
     have K2:0 < rows.length:=Vbl.2 Zp;by_cases Z4e:len+rows.length<=c0 - off
     ·
      have Zpc:o0+off*P.cellsOf kb.el+len*i.size+us.length<=cur.size:=by
       rw[Zpi,hC.len];have:(off+len+rows.length)*P.cellsOf kb.el<=c0*P.cellsOf kb.el:=Vbr _ (by omega);rw[Nat.add_mul,Nat.add_mul] at this;omega
      have Z8:=Z1h (P:=P) (w:=w) t o.type kb.el i ht hi g (o0+off*P.cellsOf kb.el) len (c0 - off) cur hg ad rows.length c us (by rw[hC.len,Zpi]) Kj (one hC) Z4e Zpc;rw[<-hq,<-hv] at Z8;rw[Zpi] at Z8 Zpc;generalize Z0:(cur.toList.take (o0+off*P.cellsOf kb.el+len*P.cellsOf kb.el)++us++cur.toList.drop (o0+off*P.cellsOf kb.el+len*P.cellsOf kb.el+us.length)).toArray=new at Z8;have Zgn:new.size=cur.size:=by rw[<-Z0];simp;omega
      have Z4j:∀m,new[m]?=if o0+off*P.cellsOf kb.el+len*P.cellsOf kb.el<=m/\m < o0+off*P.cellsOf kb.el+len*P.cellsOf kb.el+us.length then us[m - (o0+off*P.cellsOf kb.el+len*P.cellsOf kb.el)]? else cur[m]?:=by
       intro m;rw[<-Z0,Vcn,Kg (by simp;omega)];simp
      have Kk:∀k',k'≠g->(w.setRow g new).heap[k']?=w.heap[k']?:=λk' Xi=>setRow_other w g k' _ Xi;have Yq:tops s1 ρ g:=⟨ib,kb,_,_,_,hkb,Zo,hρ⟩;have Yak:(new.toList.drop (o0+off*P.cellsOf kb.el)).take ((kb.rows.drop off++rows).length*P.cellsOf kb.el)=olds++us:=by
       apply Vcm;intro m;rw[Val,Vaw,Vcp,Z4j];have hl1:(kb.rows.drop off++rows).length*P.cellsOf kb.el=len*P.cellsOf kb.el+us.length:=by rw[Vas,hdl,Nat.add_mul,hC.len]
       rw[hl1];by_cases hm:m < len*P.cellsOf kb.el
       .rw[ZZj (by omega),ZZi (by omega),Vam (by omega)]
        simp only[olds];rw[Val,ZZj hm,Vaw,Vcp]
       .rw[Vaj (by omega),Zxb]
        by_cases hm2:m < len*P.cellsOf kb.el+us.length
        .rw[ZZj hm2,ZZj (by omega)]
         congr 1;omega
        .rw[ZZi hm2,Vb0 (by omega)]
      have Ks:∀q∈kb.rows.drop off++rows,q.length=P.cellsOf kb.el:=λq hq=>by
       rcases Vak.1 hq with hq|hq
       .exact Zu7 q hq
       .exact Wn q hq
      let b2:Blk:=⟨false,true,kb.cl&&cl,kb.el,kb.rows.drop off++rows⟩
      have Zzy:∀g',okS s1 ρ w g'->okS ((s1.kill ib).setB id b2) (upd ρ id (some (.blk g (o0+off*P.cellsOf kb.el) (c0 - off) (P.cellsOf kb.el)))) (w.setRow g new) g':=λg' Zm=>⟨λht=>Zm.1 (Zja Zg hkb Zo hρ g' ht),by simpa using Zm.2⟩;have hrdm:∀{u:Value} {x:V},Rd w (okS s1 ρ w) u x->Rd (w.setRow g new) (okS ((s1.kill ib).setB id b2) (upd ρ id (some (.blk g (o0+off*P.cellsOf kb.el) (c0 - off) (P.cellsOf kb.el)))) (w.setRow g new)) u x:=λhu=>
       hu.mono (λg' Zm _=>Kk g' (λe=>Zm.1 (e▸Yq))) Zzy
      have hgr:g ∉ r:=λhm=>Zu6 (Vae _ hm);have Zr5:∃F'',Rel P B io (w.setRow g new) a.tmps ((s1.kill ib).setB id b2) (upd ρ id (some (.blk g (o0+off*P.cellsOf kb.el) (c0 - off) (P.cellsOf kb.el)))) F'' fl/\Y9 B io w (w.setRow g new):=by
       cases Qc:(kb.cl&&cl) with
       | true=>
        have Zr6:=Qc;simp only[ZZg] at Zr6;obtain⟨f1,hO,hs⟩:=Zxc Zr6.1;have hO2:=hC.own Zr6.2;have hf1:∀k'∈f1,k'∈fp:=λk' Xi=>hs.subset Xi;have hgf1:g ∉ f1:=λhm=>(Vaz.1 Zz2).1 (hs.subset hm);have hOO:=(hO.append hO2).frame (w':=w.setRow g new) (λk' Xi=>Kk k' (by
         rintro rfl;rcases Vak.1 Xi with h1|h1
         .exact hgf1 h1
         .exact hgr h1))
        refine⟨_,hR.over (b':=b2) (f':=f1++r) (new:=new) Zg (by rw[J9];exact Zu) hkb Zo hρ ⟨fp,J1⟩ (λk' Xi=>?_) (Vaz.2 ⟨λhm=>?_,Vat.2 ⟨(Vaz.1 Zz2).2.sublist hs,(Vat.1 hR.flOnce).1,λx hx y hy e=>?_⟩⟩) (by omega)
         (.mkRow rfl rfl rfl (setRow_heap w g cur new _ _ hg) (by simp[b2];omega) (by omega) Ks (by rw[Zgn];show o0+off*P.cellsOf kb.el+(c0 - off)*P.cellsOf kb.el=cur.size;omega) rfl (λ_=>?_) (λhf=>by simp[b2,Qc] at hf))⟩
        .rcases Vak.1 Xi with h1|h1
         .exact .inl (by rw[J1];exact Vac _ (hf1 k' h1))
         .exact .inr h1
        .rcases Vak.1 hm with h1|h1
         .exact hgf1 h1
         .exact hgr h1
        .subst e
         exact hR.flApart ib kb hkb Zo x (by rw[J1];exact Vac _ (hf1 x hx)) (Vae _ hy)
        .show OwL (w.setRow g new) ((new.toList.drop (o0+off*P.cellsOf kb.el)).take ((kb.rows.drop off++rows).length*P.cellsOf kb.el)) (kb.rows.drop off++rows).flatten (f1++r)
         rw[Yak,List.flatten_append];exact hOO
       | false=>
        refine⟨_,hR.over (b':=b2) (f':=[]) (new:=new) Zg (by rw[J9];exact Zu) hkb Zo hρ ⟨fp,J1⟩ (λk' Xi=>by simp at Xi) (by simp) (by omega)
         (.mkRow rfl rfl rfl (setRow_heap w g cur new _ _ hg) (by simp[b2];omega) (by omega) Ks (by rw[Zgn];show o0+off*P.cellsOf kb.el+(c0 - off)*P.cellsOf kb.el=cur.size;omega) rfl (λhf=>by simp[b2,Qc] at hf) (λ_=>⟨rfl,λj x hj=>?_⟩))⟩
        have hj':((kb.rows.drop off).flatten++rows.flatten)[j]?=some x:=by rw[<-List.flatten_append];exact hj
        have hdf:(kb.rows.drop off).flatten.length=len*P.cellsOf kb.el:=by rw[Wo Zu7,hdl]
        by_cases hjl:j < len*P.cellsOf kb.el
        .rw[Vam (by omega)] at hj'
         obtain⟨v,hv,hr⟩:=Z8k j x hj';exact⟨v,by rw[Z4j,ZZi (by omega)];exact Z4i j v hv,hrdm hr⟩
        .rw[Vaj (by omega),hdf] at hj'
         obtain⟨v,hv,hr⟩:=hrdn hC _ x hj';have Zs:=(ZZh.1 hv).1;refine⟨v,?_,hrdm hr⟩;rw[Z4j,ZZj (by omega),<-hv]
         congr 1;omega
      obtain⟨F'',Zr5,Jk⟩:=Zr5;refine .value (Q7 ho Z8) ⟨Wm,J9,Jk,_,_,Zr5,?_,Wr Zg,Zhu Zu hk⟩;have:=En.sl (w:=w.setRow g new) (ok:=okS ((s1.kill ib).setB id b2) (upd ρ id (some (.blk g (o0+off*P.cellsOf kb.el) (c0 - off) (P.cellsOf kb.el)))) (w.setRow g new)) (off:=0) (len:=len+rows.length) (Zl ρ id (some (.blk g (o0+off*P.cellsOf kb.el) (c0 - off) (P.cellsOf kb.el)))) (by omega);simpa using this
     ·
      have hR2:=hR.float hkb Zo;have hsup:len+rows.length<=9223372036854775807:=by omega
      have Z8:=run_append_grow (P:=P) (w:=w) t o.type kb.el i z ht hi hz ⟨g,o0+off*P.cellsOf kb.el,none⟩ len (c0 - off) olds (by rw[Zxb,Zpi]) Yam ad rows.length c us (by rw[hC.len,Zpi]) Kj (by omega) (by omega) (growslice_fits (by omega) (by rw[Z4f];exact hby));rw[<-hq,<-hv] at Z8;have Ks:∀q∈kb.rows.drop off++rows,q.length=P.cellsOf kb.el:=λq hq=>by
       rcases Vak.1 hq with hq|hq
       .exact Zu7 q hq
       .exact Wn q hq
      have Z8q:(olds++us).length=(kb.rows.drop off++rows).length*P.cellsOf kb.el:=by rw[Vas,Vas,hdl,Nat.add_mul,hC.len,Zxb]
      have Zg9:olds.toArray++us.toArray=(olds++us).toArray:=by simp
      rw[Zg9] at Z8;cases Qc:(kb.cl&&cl) with
      | true=>
       have Zr6:=Qc;simp only[ZZg] at Zr6;obtain⟨f1,hO,hs⟩:=Zxc Zr6.1;have hsl:((f1++r)++fl).Sublist (F ib++(r++fl)):=by
        rw[J1,List.append_assoc];exact Vci (hs.trans (Vd2 _ _)) (Vby _)
       have hO3:OwL w (olds++us) (kb.rows.drop off++rows).flatten (f1++r):=by rw[List.flatten_append];exact hO.append (hC.own Zr6.2)
       refine .value (Q7 ho Z8) ?_;exact Zij (s:=s) (k:=k) (s1:=s1.kill ib) (r:=f1++r) (hR2.less hsl) Wm J9 Zg Zu hk hzs (by rw[Vas,hdl]) (by unfold maxLen;omega) Ks Z8q (λ_=>hO3) (λh=>by cases h)
      | false=>
       refine .value (Q7 ho Z8) ?_;refine Zij (s:=s) (k:=k) (s1:=s1.kill ib) (r:=[]) (fl:=fl) ((hR.less (Va6 _ _)).kill ib) Wm J9 Zg Zu hk hzs (by rw[Vas,hdl]) (by unfold maxLen;omega) Ks Z8q (λh=>by cases h) (λ_=>⟨rfl,λj x hj=>?_⟩);have hj':((kb.rows.drop off).flatten++rows.flatten)[j]?=some x:=by rw[<-List.flatten_append];exact hj
       have hdf:(kb.rows.drop off).flatten.length=len*P.cellsOf kb.el:=by rw[Wo Zu7,hdl]
       by_cases hjl:j < len*P.cellsOf kb.el
       .rw[Vam (by omega)] at hj'
        obtain⟨v,hv,hr⟩:=Z8k j x hj';exact⟨v,by rw[Vam (by omega)];exact hv,hr.mono (λ_ _ _=>rfl) (λg hg=>Zh1 hg)⟩
       .rw[Vaj (by omega),hdf] at hj'
        obtain⟨v,hv,hr⟩:=hrdn hC _ x hj';exact⟨v,by rw[Vaj (by omega),Zxb];exact hv,hr.mono (λ_ _ _=>rfl) (λg hg=>Zh1 hg)⟩
 .cases he
end
section
variable {P:Program} {B:Nat} {io:Nat->Prop} {w:World} {a:Act} {s:St} {ρ:Rho} {F:Id->List Nat} {fl:List Nat} {k:Nat} {o:Oper} {v:V}
theorem Z9s {t e:TypeId} (h:P.underlying t=some (.slice e)):P.elem t=e:=by simp[Program.elem,h]
theorem Z5b {t e:TypeId} (ht:P.underlying t=some (.slice e)) (hz:Zi P e≠0) (A:Option Addr) (len cap:Nat) (lo hi:Option Value) (l h:Nat)
  (hl:(lo=none/\l=0)\/∃kd,lo=some (.int kd l)) (hh:(hi=none/\h=len)\/∃kd,hi=some (.int kd h)) (h1:l<=h) (h2:h<=len) (h3:len<=cap):
  (Instr.sliceAt t (.slice A len cap) lo hi none).run P w=.ok (sliced A l h cap (P.cellsOf e)) w:=by
 have he:=Z9s ht;have ht':P.underlying t=some (.slice (P.elem t)):=by rw[he];exact ht
 rw[run_sliceAt_slice w t _ _ _ _ ht'];obtain⟨ti,Qi,Yx⟩:∃ti,P.info? e=some ti/\ti.size=P.cellsOf e:=by
  unfold Zi Program.cellsOf at hz;unfold Program.cellsOf;cases hq:P.info? e with
  | none=>rw[hq] at hz;simp at hz
  | some ti=>exact⟨ti,rfl,rfl⟩
 have hs:((sizeOf (P.elem t)).run P w)=.ok (P.cellsOf e) w:=by rw[he];simp[sizeOf,typeInfo,Qi,Yx]
 rcases hl with⟨rfl,rfl⟩|⟨kl,rfl⟩<;>rcases hh with⟨rfl,rfl⟩|⟨kh,rfl⟩
 .rw[run_slice_all w t A _ cap ht',hs];rfl
 .rw[run_slice_h w t A len cap ht' kh h (by omega) (by omega),hs];rfl
 .rw[run_slice_l w t A _ cap ht' kl l (by omega) (by omega),hs];rfl
 .rw[run_slice_lh w t A len cap ht' kl kh l h (by omega) (by omega) (by omega),hs];rfl
theorem Rd.slice {ok:Nat->Prop} {u:Value} {rows:List (List V)} {l h sz:Nat} (hr:Rd w ok u (.tr rows)) (hh:h<=rows.length) (hl:l<=h) (hs:∀r∈rows,r.length=sz):
  ∃A len cap,u=.slice A len cap/\len=rows.length/\len<=cap/\Rd w ok (sliced A l h cap sz) (.tr ((rows.drop l).take (h - l))):=by
 cases hr with
 | @emp A c=>
  have h0:h=0:=by simpa using hh
  have l0:l=0:=by omega
  subst h0;subst l0;exact⟨A,0,c,rfl,rfl,Vbb _,by simp only[sliced];exact .emp⟩
 | @tr g o n c sz' _ uf hn hc hm hs' hg hu Wl=>
  refine⟨_,n,c,rfl,hn.symm,hc,?_⟩;by_cases he:(rows.drop l).take (h - l)=[]
  .have:h - l=0:=by
    have:=congrArg List.length he;simp at this;omega
   rw[he];simp only[sliced,this];exact .emp
  .have Zs:l < h:=by
    rcases Vbv l h with h'|h'
    .exact h'
    .exact absurd (by rw[show h - l=0 by omega];rfl) he
   have Yx:sz'=sz:=by
    have hx:rows[l]?=some (rows[l]'(by omega)):=Vab (by omega);rw[<-hs' _ (Vag hx),hs _ (Vag hx)]
   subst Yx;have Y4:c≠l:=by omega
   simp only[sliced,ZZi Y4,Vav];have Zfj:(⟨g,o,none⟩:Addr).add (l*sz')=⟨g,o+l*sz',none⟩:=by unfold Addr.add;split<;>simp_all
   rw[Zfj];have cell:∀(k:Nat) (x:V),((rows.drop l).take (h - l)).flatten[k]?=some x->rows.flatten[l*sz'+k]?=some x:=by
    intro k x hk;have hd:∀r∈rows.drop l,r.length=sz':=λr hr=>hs' r (Va9 hr);rw[<-Ziv (h - l) hd,<-Zcd l hs',Val] at hk;split at hk
    .rwa [Vaw] at hk
    .cases hk
   refine .tr (u:=λk=>uf (l*sz'+k)) (by simp;omega) (by omega) (by omega) (λr hr=>hs' r (Va9 (Vba hr))) hg (λk x hk=>?_) (λk x hk=>Wl _ x (cell k x hk));rw[Nat.add_assoc];exact hu _ x (cell k x hk)
theorem Zrh (h:Rel P B io w a.tmps s ρ F fl) {t:TypeId} {x:Operand} {lo hi:Option Operand} (ho:o.op=.slice t x lo hi none)
  (he:Zek P s t (s.opV x) (lo.map s.opV) (hi.map s.opV)=some v):OpR P o a w (Stp P B io w a.tmps s ρ fl k v s):=by
 unfold Zek at he;obtain⟨e,Xw,he⟩:=ZZb.1 he;obtain⟨rows,Yy,he⟩:=ZZb.1 he;obtain⟨l,hl,he⟩:=ZZb.1 he;obtain⟨hh,hhi,he⟩:=ZZb.1 he;have ht:=Q9 Xw;split at he
 case isFalse=>cases he
 rename_i hc;obtain⟨h1,h2,Xp,hz⟩:=hc;have hz':P.cellsOf e≠0:=hz;have Wn:∀r∈rows,r.length=P.cellsOf e:=λr hr=>by
  have:=ZZk.1 Xp r hr;simpa [Zi] using this
 have hlo:(lo.map a.eval=none/\l=0)\/∃kd,lo.map a.eval=some (.int kd l):=by
  cases lo with
  | none=>simp at hl;exact .inl ⟨rfl,hl.symm⟩
  | some lo=>
   obtain⟨kd,hk⟩:=Zim (h.opV lo) hl;exact .inr ⟨kd,by simp[hk]⟩
 have hhi':∀len,len=rows.length->(hi.map a.eval=none/\hh=len)\/∃kd,hi.map a.eval=some (.int kd hh):=by
  intro len Z3;cases hi with
  | none=>simp at hhi;exact .inl ⟨rfl,by omega⟩
  | some hi=>
   obtain⟨kd,hk⟩:=Zim (h.opV hi) hhi;exact .inr ⟨kd,by simp[hk]⟩
 have fin:∀(A:Option Addr) (len cap:Nat),a.eval x=.slice A len cap->len=rows.length->len<=cap->En w (okS s ρ w) ρ (sliced A l hh cap (P.cellsOf e)) v->OpR P o a w (Stp P B io w a.tmps s ρ fl k v s):=by
  intro A len cap hq Z3 Zcy hv;have Z8:=Z5b (w:=w) ht hz A len cap _ _ l hh hlo (hhi' len Z3) h1 (by omega) Zcy;refine .value (v:=sliced A l hh cap (P.cellsOf e)) ?_ (.same h hv);rw[<-hq] at Z8;simp[execOp,ho,Z8]
 have hx:=h.opV x;have tree:∀{u:Value},a.eval x=u->Rd w (okS s ρ w) u (.tr rows)->(Rd w (okS s ρ w) (sliced (match u with|.slice A _ _=>A|_=>none) l hh (match u with|.slice _ _ c=>c|_=>0) (P.cellsOf e)) (.tr ((rows.drop l).take (hh - l)))->En w (okS s ρ w) ρ (sliced (match u with|.slice A _ _=>A|_=>none) l hh (match u with|.slice _ _ c=>c|_=>0) (P.cellsOf e)) v)->
   OpR P o a w (Stp P B io w a.tmps s ρ fl k v s):=by
  intro u hu hr Yh;obtain⟨A,len,cap,rfl,Z3,Zcy,Xq⟩:=hr.slice h2 h1 Wn;exact fin A len cap hu Z3 Zcy (Yh Xq)
 generalize hq:a.eval x=q at hx;split at he
 .rename_i id off len hxo
  simp only[ZZd] at he;subst he;rw[hxo] at hx Yy;have Z3:rows.length=len:=by
   simp only[St.rowsOf] at Yy;obtain⟨b,hb,Yy⟩:=ZZb.1 Yy;split at Yy
   .rename_i hc
    simp only[ZZd] at Yy;rw[<-Yy];simp;omega
   .cases Yy
  cases hx with
  | @sle _ A _ hρ=>
   have e0:hh=0:=by omega
   have e1:l=0:=by omega
   subst e0;subst e1;refine fin A 0 0 hq Z3.symm (Vaf _) ?_;simp only[sliced,if_true,Nat.sub_zero];exact .sle hρ
  | @sl _ g o0 c sz _ _ hρ hoc=>
   refine fin _ len (c - off) hq Z3.symm (by omega) ?_;by_cases Y4:c - off=l
   .have:hh - l=0:=by omega
    simp only[sliced,ZZj Y4,this,Y4,Nat.sub_self];exact .sle (by rw[hρ];rfl)
   .by_cases Zha:rows=[]
    .subst Zha
     have e0:hh=0:=by simpa using h2
     have e1:l=0:=by omega
     subst e0;subst e1;simp only[sliced,ZZi Y4,Vav,Vdb,Nat.sub_zero,W8,Va5];exact .sl hρ (by omega)
    .have Yx:sz=P.cellsOf e:=by
      simp only[St.rowsOf] at Yy;obtain⟨b,hb,Yy⟩:=ZZb.1 Yy;split at Yy
      .rename_i hc
       simp only[ZZd] at Yy;have hB:=h.heap id b hb;rw[hρ] at hB;have hbs:∀r∈b.rows,r.length=sz:=by
        unfold Yi at hB;rw[hc.1] at hB;generalize b.own=ow at hB;cases ow with
        | true=>
         rcases hB with⟨Yu,_⟩|⟨g',o'',c',cur,Yu,hg,hl',hm,W9,hz',fp,J1,h1,h2⟩
         .cases Yu
         .cases Yu;exact W9
        | false=>
         obtain⟨_,hB⟩:=hB;rcases hB with⟨Yu,_⟩|⟨g',o'',c',sz',Yu,W9,hr⟩
         .cases Yu
         .cases Yu;exact W9
       obtain⟨r0,Ya⟩:=List.exists_mem_of_ne_nil rows Zha;have hrb:r0∈b.rows:=by rw[<-Yy] at Ya;exact Va9 (Vba Ya)
       rw[<-hbs r0 hrb,Wn r0 Ya]
      .cases Yy
     subst Yx;simp only[sliced,ZZi Y4,Vav,W8];have:=En.sl (w:=w) (ok:=okS s ρ w) (off:=off+l) (len:=hh - l) hρ (by omega);rw[Nat.add_mul,<-Nat.add_assoc] at this;rw[show c - off - l=c - (off+l) by omega];exact this
 .rename_i rows' hxo
  simp only[ZZd] at he;subst he;rw[hxo] at hx Yy;simp only[St.rowsOf,ZZd] at Yy;subst Yy;cases hx with|tr hr=>exact tree hq hr (λh=>.tr h)
 .rename_i rows' hxo
  simp only[ZZd] at he;subst he;rw[hxo] at hx Yy;simp only[St.rowsOf,ZZd] at Yy;subst Yy;cases hx with|vw hr=>exact tree hq hr (λh=>.vw h)
 .cases he
end
theorem Zzh {off:Nat}:∀(l:List Value) (k:Nat) (cs:Array Value),off+k+l.length<=cs.size->
  ((l.zipIdx k).foldl (λcs (p:Value×Nat)=>cs.setIfInBounds (off+p.2) p.1) cs).size=cs.size/\
  ∀j,((l.zipIdx k).foldl (λcs (p:Value×Nat)=>cs.setIfInBounds (off+p.2) p.1) cs)[j]?=if off+k<=j/\j < off+k+l.length then l[j - (off+k)]? else cs[j]?:=by
 intro l
 induction l with
 | nil=>intro k cs _;refine⟨rfl,λj=>?_⟩;rw[ZZi (λhc=>by have:=hc.2;simp only[Va1] at this;omega)];rfl
 | cons v l ih=>
  intro k cs h;simp only[Vad] at h;obtain⟨h1,h2⟩:=ih (k+1) (cs.setIfInBounds (off+k) v) (by simp;omega);refine⟨by simpa using h1,λj=>?_⟩;have:=h2 j;simp only[List.zipIdx_cons,Vbo];rw[this];by_cases hj:j=off+k
  .subst hj
   rw[ZZi (by omega),ZZj (by simp),Vbf,ZZj rfl,ZZj (by omega)];simp
  .by_cases hc:off+(k+1)<=j/\j < off+(k+1)+l.length
   .rw[ZZj hc,ZZj (by simp;omega)]
    obtain⟨m,hm⟩:∃m,j - (off+k)=m+1:=⟨j - (off+k) - 1,by omega⟩;rw[hm,Vd0]
    congr 1;omega
   .rw[ZZi hc,ZZi (by simp;omega),Vbf,ZZi (by omega)]
theorem Z63 {off:Nat} (vs cs:Array Value) (h:off+vs.size<=cs.size):
  (vs.zipIdx.foldl (λcs (c,j)=>cs.setIfInBounds (off+j) c) cs).size=cs.size/\
  ∀j,(vs.zipIdx.foldl (λcs (c,j)=>cs.setIfInBounds (off+j) c) cs)[j]?=if off<=j/\j < off+vs.size then vs[j - off]? else cs[j]?:=by
 have h0:=Zzh (off:=off) vs.toList 0 cs (by simpa using h);have e:vs.zipIdx.foldl (λcs (c,j)=>cs.setIfInBounds (off+j) c) cs=(vs.toList.zipIdx 0).foldl (λcs (p:Value×Nat)=>cs.setIfInBounds (off+p.2) p.1) cs:=by
  rw[<-Array.foldl_toList];simp
 rw[e];refine⟨h0.1,λj=>?_⟩;rw[h0.2 j];simp
section
variable {P:Program} {w:World} {ok:Nat->Prop} {ρ:Rho}
theorem Z19 (place:Nat->Option (Nat×Nat)):∀(ps:List (Nat×Value×V)) (C:Array Value) (X X':List V),C.size=X.length->
  (∀(j:Nat) (u:Value) (x:V),C[j]?=some u->X[j]?=some x->En w ok ρ u x)->(∀x∈X,cellish x=true)->(∀p∈ps,En w ok ρ p.2.1 p.2.2)->
  Ze1 P place X (ps.map λp=>(p.1,p.2.2))=some X'->
  ∃C',Instr.fill place C (ps.map λp=>(p.1,p.2.1))=some C'/\C'.size=X'.length/\X'.length=X.length/\(∀(j:Nat) (u:Value) (x:V),C'[j]?=some u->X'[j]?=some x->En w ok ρ u x)/\∀x∈X',cellish x=true:=by
 intro ps
 induction ps with
 | nil=>
  intro C X X' hs hR hc _ hf;simp only[Vbw,Ze1,ZZd] at hf;subst hf;exact⟨C,rfl,hs,rfl,hR,hc⟩
 | cons p ps ih=>
  intro C X X' hs hR hc hp hf;obtain⟨i,u,x⟩:=p;simp only[Vau,Ze1] at hf;obtain⟨⟨off,sz⟩,hpl,hf⟩:=ZZb.1 hf;obtain⟨cs,X5,hf⟩:=ZZb.1 hf;split at hf
  case isFalse=>cases hf
  rename_i hcond;obtain⟨hc1,hc2⟩:=hcond;have hc1:cs.length=sz:=hc1;have hc2:off+sz<=X.length:=hc2;simp only at hf;obtain⟨h1,h2,h3⟩:=Zi6 (show En w ok ρ u x from hp (i,u,x) Vaa) X5;have hpf:=Z63 (off:=off) u.cells C (by omega);obtain⟨C',hC',r1,r2,r3,r4⟩:=ih (u.cells.zipIdx.foldl (λcs (c,j)=>cs.setIfInBounds (off+j) c) C) (Ww X off cs) X' (by rw[hpf.1,Zcg (by omega),hs]) (λj v y hv hy=>by
   rw[hpf.2 j] at hv;rcases Zjp (by omega) hy with⟨g1,g2,g3⟩|⟨g1,g2⟩
   .rw[ZZj (by omega)] at hv
    exact h3 _ v y hv g3
   .rw[ZZi (by omega)] at hv
    exact hR j v y hv g2) (λy hy=>by
   obtain⟨m,hm⟩:=Va2 hy;rcases Zjp (by omega) hm with⟨_,_,g3⟩|⟨_,g2⟩
   .exact h2 y (Vag g3)
   .exact hc y (Vag g2)) (λq hq=>hp q (Vac _ hq)) hf
  refine⟨C',?_,r1,by rw[r2,Zcg (by omega)],r3,r4⟩;simp only[Vau,Instr.fill,hpl];rw[ZZi]
  .exact hC'
  .simp only[Vb3,ZZl,ne_eq]
   omega
end
section
variable {P:Program} {B:Nat} {io:Nat->Prop} {w:World} {a:Act} {s:St} {ρ:Rho} {F:Id->List Nat} {fl:List Nat} {k:Nat} {o:Oper} {v:V}
theorem Zhp {t:TypeId} {z:List V} (h:Kq P t=some z):∃ti zv,P.info? t=some ti/\ti.zero=some zv/\z=zv.cells.toList.map .lit/\∀u∈zv.cells.toList,Xn u=true:=by
 unfold Kq at h;obtain⟨zv,hzv,hz⟩:=ZZb.1 h;obtain⟨ti,Qi,hz0⟩:=ZZb.1 hzv;split at hz
 .rename_i Xp
  simp only[ZZd] at hz;exact⟨ti,zv,Qi,hz0,hz.symm,λu hu=>ZZk.1 Xp u hu⟩
 .cases hz
theorem Z2a {ok:Nat->Prop} {C:Array Value} (hs:∀u∈C.toList,Xn u=true):∀(j:Nat) (u:Value) (x:V),C[j]?=some u->(C.toList.map V.lit)[j]?=some x->En w ok ρ u x:=by
 intro j u x hu hx;simp only[Vay,ZZc] at hx;obtain⟨y,hy,rfl⟩:=hx;have:u=y:=by
  have h1:C.toList[j]?=some u:=by simpa using hu
  rw[h1] at hy;injection hy
 subst this;exact .lit (hs u (Vag hy))
theorem Z0v:∀(fs:List Field),fs.all (λf=>(P.info? f.type).isSome)=true->fs.mapM (λf=>(P.info? f.type).map λi=>(f.offset,i.size))=some (fs.map λf=>(f.offset,P.cellsOf f.type)):=by
 intro fs
 induction fs with
 | nil=>intro _;rfl
 | cons f fs ih=>
  intro h;simp only[Vbc,ZZg] at h;obtain⟨i,hi⟩:=Vaq.1 h.1;simp[List.mapM_cons,hi,ih h.2,Program.cellsOf]
theorem Z6u (h:Rel P B io w a.tmps s ρ F fl) {t:TypeId} {parts:Array (Nat×Operand)} {fs:Array Field} {z cs:List V} (ho:o.op=.build t parts) (hz:Kq P t=some z) (hu:P.underlying t=some (.struct fs))
  (Xp:fs.toList.all (λf=>(P.info? f.type).isSome)=true)
  (hf:Ze1 P (λi=>(fs[i]?).map λf=>(f.offset,P.cellsOf f.type)) z (parts.toList.map λp=>(p.1,s.opV p.2))=some cs):OpR P o a w (Stp P B io w a.tmps s ρ fl k (.agg cs) s):=by
 obtain⟨ti,zv,Qi,hzv,rfl,hsc⟩:=Zhp hz;obtain⟨C',hC',r1,r2,r3,r4⟩:=Z19 (P:=P) (w:=w) (ok:=okS s ρ w) (ρ:=ρ) (λi=>(fs[i]?).map λf=>(f.offset,P.cellsOf f.type)) (parts.toList.map λp=>(p.1,a.eval p.2,s.opV p.2)) zv.cells (zv.cells.toList.map .lit) cs (by simp)
  (Z2a hsc) (λx hx=>by obtain⟨u,_,rfl⟩:=Va4.1 hx;rfl) (λp hp=>by obtain⟨q,_,rfl⟩:=Va4.1 hp;exact h.opV q.2) (by simpa [Vb4] using hf)
 have hb:P.built t (parts.map λ(i,x)=>(i,a.eval x)).toList=some C':=by
  unfold Program.built;simp only[Qi,hu,hzv,Z0v fs.toList Xp];rw[<-hC']
  congr 1
  .funext i;simp
  .simp[Vb4]
 refine .value (v:=.agg C') ?_ (.same h (.agg r1 r4 r3));have:=run_build (P:=P) w t _ C' hb;simp[execOp,ho,this]
end
theorem Z3n {sz:Nat}:∀(n:Nat) (l:List V),l.length=n*sz->(Ze9 sz n l).flatten=l/\(∀r∈Ze9 sz n l,r.length=sz)/\(Ze9 sz n l).length=n:=by
 intro n
 induction n with
 | zero=>
      intro l h;have:l=[]:=Var (by omega);subst this;exact⟨rfl,by simp[Ze9],rfl⟩
 | succ n ih=>
  intro l h;rw[Vbu] at h;obtain⟨h1,h2,h3⟩:=ih (l.drop sz) (by simp;omega);refine⟨by simp[Ze9,h1],λr hr=>?_,by simp[Ze9,h3]⟩;simp only[Ze9,Vap] at hr;rcases hr with rfl|hr
  .simp;omega
  .exact h2 r hr
theorem Zuq {α:Type} {l:List α} {n k:Nat} (hk:k < n*l.length):(List.replicate n l).flatten[k]?=l[k % l.length]?:=by
 have hl:0 < l.length:=by
  rcases Vdo l.length with h|h
  .rw[h] at hk;simp at hk
  .exact h
 have hi:k / l.length < n:=(Nat.div_lt_iff_lt_mul hl).2 hk;have hm:=Nat.mod_lt k hl;have h1:l[k % l.length]?=some (l[k % l.length]'hm):=Vab hm;have:=K9 (sz:=l.length) (rows:=List.replicate n l) (i:=k / l.length) (j:=k % l.length) (λr hr=>by rw[(Vbp.1 hr).2]) (by rw[List.getElem?_replicate,ZZj hi]) h1;rw[Nat.mul_comm,Nat.div_add_mod] at this;rw[this,h1]
theorem Zd6 (z:Array Value) (n:Nat):(madeCells z (n*z.size)).toList=(List.replicate n z.toList).flatten:=by
 apply Vcm;intro k;by_cases hk:k < n*z.size
 .rw[Zuq (by simpa using hk)]
  have hz:0 < z.size:=by
   rcases Vdo z.size with h|h
   .rw[h] at hk;simp at hk
   .exact h
  have hm:=Nat.mod_lt k hz;simp[madeCells,hk,hm]
 .have h1:(List.replicate n z.toList).flatten.length=n*z.size:=by
   rw[Wo (sz:=z.size) (λr hr=>by rw[(Vbp.1 hr).2];simp)];simp
  rw[Vb0 (by simp[madeCells];omega),Vb0 (by rw[h1];omega)]
theorem OwL.zeros {w:World}:∀(l:List Value),(∀u∈l,Xn u=true)->OwL w l ((l.map V.lit).map Qn) []:=by
 intro l
 induction l with
 | nil=>intro _;exact .nil
 | cons u l ih=>
  intro h;have h1:Ow w u (Qn (.lit u)) []:=by
   unfold Qn;split
   .rename_i he;injection he with he;subst he;exact .emp
   .exact .lit (h u Vaa)
  have:=OwL.cons h1 (ih λu hu=>h u (Vac _ hu));simpa using this
theorem OwL.zerosRep {w:World} {l:List Value} (h:∀u∈l,Xn u=true) (n:Nat):OwL w (List.replicate n l).flatten (List.replicate n ((l.map V.lit).map Qn)).flatten []:=by
 induction n with
 | zero=>exact .nil
 | succ n ih=>
  have:=(OwL.zeros (w:=w) l h).append ih;simpa [List.replicate_succ] using this
section
variable {P:Program} {B:Nat} {io:Nat->Prop} {w w':World} {a:Act} {tmps:Array Value} {s s':St} {ρ ρ':Rho} {F F':Id->List Nat} {fl fl':List Nat} {k:Nat} {o:Oper} {v:V}
theorem Z06:∀(rows:List (List V)) {us:List Value} {s:St} {fl:List Nat} {rows':List (List V)} {c:Bool} {s':St},Rel P B io w tmps s ρ F fl->us.length=rows.flatten.length->
  (∀(k:Nat) (u:Value) (x:V),us[k]?=some u->rows.flatten[k]?=some x->En w (okS s ρ w) ρ u x)->s.sinkRows rows=some (rows',c,s')->
  ∃fp,Rel P B io w tmps s' ρ F (fp++fl)/\rows'.length=rows.length/\(∀sz,(∀r∈rows,r.length=sz)->∀r∈rows',r.length=sz)/\us.length=rows'.flatten.length/\(c=true->OwL w us rows'.flatten fp)/\
   (∀(k:Nat) (u:Value) (y:V),us[k]?=some u->rows'.flatten[k]?=some y->Rd w (okS s' ρ w) u y)/\
   s'.env=s.env/\s'.ep=s.ep/\(∀id b,s'.heap id=some b->s.heap id=some b)/\(∀g,okS s ρ w g->okS s' ρ w g):=by
 intro rows
 induction rows with
 | nil=>
  intro us s fl rows' c s' h hl Yh hs;simp only[St.sinkRows,ZZd,ZZe] at hs;obtain⟨rfl,rfl,rfl⟩:=hs;have:us=[]:=Var (by simpa using hl);subst this;exact⟨[],h,rfl,λ_ _ r hr=>by simp at hr,rfl,λ_=>.nil,λk u y hu=>by simp at hu,rfl,rfl,λ_ _ h=>h,λ_ h=>h⟩
 | cons row rows ih=>
  intro us s fl rows' c s' h hl Yh hs;simp only[St.sinkRows] at hs;obtain⟨⟨ys,c1,s1⟩,Jh,hs⟩:=ZZb.1 hs;obtain⟨⟨zs,c2,s2⟩,hs2,hs⟩:=ZZc.1 hs;simp only[ZZe] at hs;obtain⟨rfl,rfl,rfl⟩:=hs;simp only at hs2;simp only[Vax,Vas] at hl;have hl1:(us.take row.length).length=row.length:=by simp;omega
  have hl2:(us.drop row.length).length=rows.flatten.length:=by rw[Vc6];omega
  have Kz:us.take row.length++us.drop row.length=us:=Vc9 _ _;obtain⟨f1,g1,g2,g3,g4,g5,g6,g7,g8⟩:=Z1y row h hl1 (λj u x hu hx=>Yh j u x (by
    rw[Val] at hu;split at hu
    .exact hu
    .cases hu) (by
    rw[Vax,Vam (ZZh.1 hx).1];exact hx)) Jh
  obtain⟨f2,k1,k2,k3,k4,k5,k6,k7,k8,k9,k10⟩:=ih g1 hl2 (λj u x hu hx=>by
    rw[Vaw] at hu;have:=Yh (row.length+j) u x hu (by rw[Vax,Vaj (by omega)];simpa using hx);exact (show En w (λg=>(¬tops s ρ g)/\g < w.heap.size) ρ u x from this).keep (.same (λg ht=>by
     obtain⟨id',b,o,c,sz,hb,ho,hρ⟩:=ht;exact⟨id',b,o,c,sz,g7 id' b hb,ho,hρ⟩)) (λ_ _ h=>h)) hs2
  refine⟨f1++f2,k1.perm ?_,by simp[k2],λsz Yx r hr=>?_,by rw[Vax,Vas,<-g2,<-k4,hl1,hl2];exact hl,λhc=>?_,λj u y hu hy=>?_,k7.trans g5,k8.trans g6,λid b hb=>g7 id b (k9 id b hb),λg hg=>k10 g (g8 g hg)⟩
  .rw[List.append_assoc]
   exact (Vbm _ _ _)
  .rcases Vap.1 hr with rfl|hr
   .rw[<-g2,hl1];exact Yx row Vaa
   .exact k3 sz (λr hr=>Yx r (Vac _ hr)) r hr
  .rw[ZZg] at hc
   have:=(g3 hc.1).append (k5 hc.2);rw[Kz] at this;exact this
  .rw[Vax] at hy
   by_cases hj:j < ys.length
   .rw[Vam hj] at hy
    have:=g4 j u y (by rw[Val,ZZj (by omega)];exact hu) hy;exact this.mono (λ_ _ _=>rfl) k10
   .rw[Vaj (by omega)] at hy
    exact k6 (j - ys.length) u y (by rw[Vaw,show row.length+(j - ys.length)=j by omega];exact hu) hy
theorem Zlt {r:List Nat} {s1:St} (h:Rel P B io w a.tmps s1 ρ F (r++fl)) (Wm:s1.env=s.env) (J9:s1.ep=s.ep) {id:Id} (Zg:ρ id=none) (Zu:id.1=s.ep) (hk:id.2 / 1024=k) {C:Array Value} {rows:List (List V)} {e:TypeId} {cl:Bool} {n:Nat}
  (hn:rows.length=n) (hm:n<=maxLen) (hu:∀q∈rows,q.length=P.cellsOf e)
  (Z3:C.size=rows.length*P.cellsOf e) (h1:cl=true->OwL w C.toList rows.flatten r) (h2:cl=false->r=[]/\∀(k:Nat) (x:V),rows.flatten[k]?=some x->∃v,C.toList[k]?=some v/\Rd w (okS s1 ρ w) v x):
  Stp P B io w a.tmps s ρ fl k (.sl id 0 n) (s1.setB id ⟨false,true,cl,e,rows⟩) (.slice (some ⟨w.heap.size,0,none⟩) n n) (w.alloc (.cells C e)):=by
 subst hn;have hR:=h.grown (w':=w.alloc (.cells C e)) (c:=rows.length) (us:=C.toList) (zs:=[]) (e:=e) (cl:=cl) Zg (by rw[J9];exact Zu) (Zaw w _) (λg hg=>Below.heap_alloc w _ g hg) (by
  have:=Zh0 w (.cells C e);simpa using this) (Vaf _) hm hu (by simpa using Z3) (by simpa using Z3) h1 h2
 refine⟨Wm,J9,(Y9.refl B io w).alloc h.base _,_,_,hR,?_,Wr Zg,Zhu Zu hk⟩;have:=En.sl (w:=w.alloc (.cells C e)) (ok:=okS (s1.setB id ⟨false,true,cl,e,rows⟩) (upd ρ id (some (.blk w.heap.size 0 rows.length (P.cellsOf e)))) (w.alloc (.cells C e)))
  (off:=0) (len:=rows.length) (Zl ρ id (some (.blk w.heap.size 0 rows.length (P.cellsOf e)))) (by omega)
 simpa using this
theorem Zwy (h:Rel P B io w a.tmps s ρ F fl) {t e:TypeId} {n:Nat} {parts:Array (Nat×Operand)} {z cs:List V} {rows:List (List V)} {c:Bool} {s1:St} (ho:o.op=.buildSlice t n parts) (Xw:Xe P t=some e) (hz:(if n*Zi P e=0 then some [] else Kq P e)=some z)
  (Yx:Zi P e≠0) (hle:n*Zi P e<=1048576) (hzo:Zex P e=true) (hf:Ze1 P (λi=>some (i*Zi P e,Zi P e)) (List.replicate n z).flatten (parts.toList.map λp=>(p.1,s.opV p.2))=some cs)
  (hs:s.sinkRows (Ze9 (Zi P e) n cs)=some (rows,c,s1)) {id:Id} (Zg:ρ id=none) (Zu:id.1=s.ep) (hk:id.2 / 1024=k):
  OpR P o a w (Stp P B io w a.tmps s ρ fl k (.sl id 0 n) (s1.setB id ⟨false,true,c,e,rows⟩)):=by
 have ht:=Q9 Xw;have hzc:n≠0->Kq P e=some z:=λhn=>by
  split at hz
  .rename_i h0;exact absurd h0 (Nat.mul_ne_zero hn Yx)
  .exact hz
 simp only[Zi] at Yx hle hf hs;have key:∃C',(Instr.buildSlice t n (parts.map λ(i,x)=>(i,a.eval x))).run P w=.ok (.slice (some ⟨w.heap.size,0,none⟩) n n) (w.alloc (.cells C' e))/\C'.size=cs.length/\cs.length=n*P.cellsOf e/\
   (∀(j:Nat) (u:Value) (x:V),C'[j]?=some u->cs[j]?=some x->En w (okS s ρ w) ρ u x):=by
  obtain⟨ti,Qi,hsi⟩:∃ti,P.info? e=some ti/\ti.size=P.cellsOf e:=by
   unfold Program.cellsOf at Yx ⊢;cases hq:P.info? e with
   | none=>rw[hq] at Yx;simp at Yx
   | some ti=>exact⟨ti,rfl,rfl⟩
  by_cases hn:n=0
  .subst hn
   have hpe:(List.replicate 0 z).flatten=[]:=rfl;rw[hpe] at hf;have Zha:parts.toList=[]/\cs=[]:=by
    cases hp:parts.toList with
    | nil=>rw[hp] at hf;simp[Ze1] at hf;exact⟨rfl,hf⟩
    | cons p ps=>
     rw[hp] at hf;simp only[Vau,Ze1,ZZa] at hf;obtain⟨cs',_,hf⟩:=ZZb.1 hf;split at hf
     .rename_i hc;simp only[Va1] at hc;omega
     .cases hf
   obtain⟨hp,rfl⟩:=Zha;refine⟨#[],?_,rfl,by simp,λj u x hu=>by simp at hu⟩;have hpa:parts=#[]:=by apply Vdc;simpa using hp
   subst hpa;simp[Instr.buildSlice,run_underlying ht,sizeOf,typeInfo,Qi,hsi,Instr.fill,newRow,Array.range_zero']
  .have hnz:n*P.cellsOf e≠0:=Nat.mul_ne_zero hn Yx
   obtain⟨ti',zv,Z4k,hzv,rfl,hsc⟩:=Zhp (hzc hn);rw[Qi] at Z4k;injection Z4k with Z4k;subst Z4k;have hzs:zv.cells.size=P.cellsOf e:=by
    unfold Zex at hzo;rw[Qi] at hzo;simp only[ZZa,hzv] at hzo;simpa using hzo
   have Z4l:(List.replicate n (zv.cells.toList.map V.lit)).flatten.length=n*P.cellsOf e:=by
    rw[Wo (sz:=P.cellsOf e) (λr hr=>by rw[(Vbp.1 hr).2];simp[hzs])];simp
   obtain⟨C',hC',r1,r2,r3,r4⟩:=Z19 (P:=P) (w:=w) (ok:=okS s ρ w) (ρ:=ρ) (λi=>some (i*P.cellsOf e,P.cellsOf e)) (parts.toList.map λp=>(p.1,a.eval p.2,s.opV p.2)) (madeCells zv.cells (n*zv.cells.size)) _ cs (by rw[size_madeCells,Z4l,hzs])
    (λj u x hu hx=>by
     have Zs:=(ZZh.1 hx).1;rw[Z4l] at Zs;have W9:(madeCells zv.cells (n*zv.cells.size)).toList[j]?=some u:=by simpa using hu
     rw[Zd6,Zuq (by simpa [hzs] using Zs)] at W9;rw[Zuq (by simpa [hzs] using Zs)] at hx;simp only[Vcb] at hx;have:=Z2a (w:=w) (ok:=okS s ρ w) (ρ:=ρ) hsc (j % zv.cells.toList.length) u x (by simpa using W9) hx;exact this) (λx hx=>by
     obtain⟨r,hr,hx⟩:=Vbs.1 hx;rw[(Vbp.1 hr).2] at hx;obtain⟨u,_,rfl⟩:=Va4.1 hx;rfl) (λp hp=>by obtain⟨q,_,rfl⟩:=Va4.1 hp;exact h.opV q.2) (by simpa [Vb4] using hf)
   refine⟨C',?_,r1,by rw[r2,Z4l],r3⟩;refine run_buildSlice w t e n _ C' ti zv ht Qi hzv (by rw[hsi];omega) (by rw[hsi];exact hnz) ?_;rw[<-hC',hsi,<-hzs]
   congr 1
   simp[Vb4]
 obtain⟨C',Z8,hCs,Y4,Yh⟩:=key;obtain⟨c1,c2,c3⟩:=Z3n n cs Y4;obtain⟨fp,k1,k2,k3,k4,k5,k6,k7,k8,k9,k10⟩:=Z06 (us:=C'.toList) _ h (by rw[c1];simpa using hCs) (λj u x hu hx=>Yh j u x (by simpa using hu) (by rw[c1] at hx;exact hx)) hs;have Ks:rows.length=n:=by rw[k2,c3]
 refine .value (v:=.slice (some ⟨w.heap.size,0,none⟩) n n) (w':=w.alloc (.cells C' e)) (by simp[execOp,ho,Z8]) ?_;have hmx:n<=maxLen:=by
  have:n<=n*P.cellsOf e:=Nat.le_mul_of_pos_right _ (Vdn Yx);unfold maxLen;omega
 cases c with
 | true=>exact Zlt k1 k7 k8 Zg Zu hk Ks hmx (k3 _ c2) (by rw[Ks,hCs,Y4]) (λ_=>k5 rfl) (λhf=>by cases hf)
 | false=>
  refine Zlt (r:=[]) (k1.less (Va6 _ _)) k7 k8 Zg Zu hk Ks hmx (k3 _ c2) (by rw[Ks,hCs,Y4]) (λhf=>by cases hf) (λ_=>⟨rfl,λj x hx=>?_⟩);have Zs:=(ZZh.1 hx).1;have hu:C'.toList[j]?=some (C'.toList[j]'(by omega)):=Vab (by omega);exact⟨_,hu,k6 j _ x hu hx⟩
theorem Zy8 (h:Rel P B io w a.tmps s ρ F fl) {t e:TypeId} {l c:Operand} {n:Nat} {z:List V} (ho:o.op=.makeSlice t l c) (Xw:Xe P t=some e) (hz:Kq P e=some z) (hl:Y3 (s.opV l)=some n) (hc:Y3 (s.opV c)=some n)
  (hby:n*P.bytesOf e<=70368744177664) (h63:n<=9223372036854775807) (hzl:z.length=Zi P e) (Yx:Zi P e≠0) {id:Id} (Zg:ρ id=none) (Zu:id.1=s.ep) (hk:id.2 / 1024=k):
  OpR P o a w (Stp P B io w a.tmps s ρ fl k (.sl id 0 n) (s.setB id ⟨false,true,true,e,List.replicate n (z.map Qn)⟩)):=by
 have ht:=Q9 Xw;obtain⟨ti,zv,Qi,hzv,rfl,hsc⟩:=Zhp hz;simp only[Zi] at hzl Yx;have hzs:zv.cells.size=P.cellsOf e:=by simpa using hzl
 have hsi:ti.size=P.cellsOf e:=by simp[Program.cellsOf,Qi]
 have hbi:ti.bytes=P.bytesOf e:=by simp[Program.bytesOf,Qi]
 obtain⟨kl,hl⟩:=Zim (h.opV l) hl;obtain⟨kc,hc⟩:=Zim (h.opV c) hc;have hb2:(ti.bytes:Int)*(n:Int)<=281474976710656:=by
  rw[hbi];have h1:=Nat.mul_comm n (P.bytesOf e);have h2:((P.bytesOf e*n:Nat):Int)<=281474976710656:=by omega
  rwa [Int.natCast_mul] at h2
 have Z8:=run_make (P:=P) w t e ti zv ht Qi hzv kl kc n n (by omega) (Int.le_refl _) hb2 (by omega);simp only[Vdt] at Z8;refine .value (v:=.slice (some ⟨w.heap.size,0,none⟩) n n) (w':=w.alloc (.cells (madeCells zv.cells (n*ti.size)) e)) (by simp[execOp,ho,hl,hc,Z8]) ?_;have Y4:(madeCells zv.cells (n*ti.size)).toList=(List.replicate n zv.cells.toList).flatten:=by rw[hsi,<-hzs];exact Zd6 _ _
 exact Zlt (r:=[]) h rfl rfl Zg Zu hk (by simp) (by unfold maxLen;omega) (λq hq=>by rw[(Vbp.1 hq).2];simp[hzs]) (by rw[size_madeCells];simp[hsi]) (λ_=>by rw[Y4];exact OwL.zerosRep hsc n) (λhf=>by cases hf)
end
section
variable {P:Program} {B:Nat} {io:Nat->Prop} {w w':World} {a:Act} {tmps:Array Value} {s s':St} {ρ ρ':Rho} {F F':Id->List Nat} {fl fl':List Nat} {k:Nat} {o:Oper} {v:V}
theorem Zts {u:Value} (h:Xn u=true):u.oneCell'=true:=by
 cases u<;>simp_all [Xn,Value.oneCell']
theorem Z59 {id:Id} {b:Blk} (h:s.heap id=some b):s.setB id b=s:=by
 unfold St.setB
 congr 1
 funext x
 unfold upd;split
 .rename_i e;rw[e,h]
 .rfl
theorem Z8b (h:Rel P B io w a.tmps s ρ F fl) {t e:TypeId} {x:Operand} {id:Id} {off n:Nat} {b:Blk} {z:List V} (ho:o.op=.call {callee:=.builtin .clear,args:=#[x],argTypes:=#[t]}) (Xw:Xe P t=some e) (hz:Kq P e=some z) (hx:s.opV x=.sl id off n)
  (hb:s.heap id=some b) (Zo:b.own=true) (Yf:b.box=false) (Z3:off+n<=b.rows.length) (hel:b.el=e) (hzl:z.length=Zi P e) (Yx:Zi P e≠0):
  OpR P o a w (Stp P B io w a.tmps s ρ fl k (.tup []) (s.setB id {b with rows:=b.rows.take off++List.replicate n (z.map Qn)++b.rows.drop (off+n)})):=by
 have ht:=Q9 Xw;obtain⟨ti,zv,Qi,hzv,rfl,hsc⟩:=Zhp hz;simp only[Zi] at hzl Yx;have hzs:zv.cells.size=P.cellsOf e:=by simpa using hzl
 have hx':=h.opV x;rw[hx] at hx';generalize hq:a.eval x=q at hx';have Yo:n=0->(∃A c,q=.slice A 0 c)->OpR P o a w (Stp P B io w a.tmps s ρ fl k (.tup []) (s.setB id {b with rows:=b.rows.take off++List.replicate n (zv.cells.toList.map V.lit |>.map Qn)++b.rows.drop (off+n)})):=by
  rintro rfl ⟨A,c,rfl⟩;have Zj0:({b with rows:=b.rows.take off++List.replicate 0 (zv.cells.toList.map V.lit |>.map Qn)++b.rows.drop (off+0)}:Blk)=b:=by simp
  rw[Zj0,Z59 hb];refine .value (v:=.tuple #[]) (w':=w) ?_ (.same h (.tup (by simp) (λk v x hv=>by simp at hv)));cases A<;>simp[execOp,ho,resolve,invoke,builtin,hq,Builtin.clear_,run_underlying ht]
 cases hx' with
 | @sle _ A _ hρ=>exact Yo rfl ⟨A,0,rfl⟩
 | @sl _ g o0 c sz _ _ hρ hoc=>
  by_cases hn:n=0
  .subst hn;exact Yo rfl ⟨_,_,rfl⟩
  have hB:=h.heap id b hb;rw[hρ] at hB;unfold Yi at hB;rw[Yf,Zo] at hB;rcases hB with⟨Yu,_⟩|⟨g',o',c',cur,Yu,hg,hl,hm,Wn,hzc,fp,J1,h1,h2⟩
  .cases Yu
  .cases Yu
   subst hel
   let us:=(List.replicate n zv.cells.toList).flatten
   let ys:=(List.replicate n ((zv.cells.toList.map V.lit).map Qn)).flatten
   have husd:us=(List.replicate n zv.cells.toList).flatten:=rfl;have hysd:ys=(List.replicate n ((zv.cells.toList.map V.lit).map Qn)).flatten:=rfl;have hul:us.length=n*P.cellsOf b.el:=by rw[husd,Wo (sz:=P.cellsOf b.el) (λr hr=>by rw[(Vbp.1 hr).2];simp[hzs])];simp
   have hyl:ys.length=n*P.cellsOf b.el:=by rw[hysd,Wo (sz:=P.cellsOf b.el) (λr hr=>by rw[(Vbp.1 hr).2];simp[hzs])];simp
   have hO0:∀{w:World},OwL w us ys []:=OwL.zerosRep hsc n;have Zu8:∀u∈us,u.oneCell'=true:=λu hu=>by
    obtain⟨r,hr,hu⟩:=Vbs.1 hu;rw[(Vbp.1 hr).2] at hu;exact Zts (hsc u hu)
   have hrc:b.rows.length*P.cellsOf b.el<=c*P.cellsOf b.el:=Vbr _ hl;have hon:(off+n)*P.cellsOf b.el<=b.rows.length*P.cellsOf b.el:=Vbr _ Z3;rw[Nat.add_mul] at hon;have hst:=run_storeCells_at P g (o0+off*P.cellsOf b.el) b.el us 0 cur w hg (by omega) Zu8;simp only[Va5] at hst;generalize Z0:(cur.toList.take (o0+off*P.cellsOf b.el)++us++cur.toList.drop (o0+off*P.cellsOf b.el+us.length)).toArray=new at hst;have Z8:(execOp a.eval o).run P w=.ok (.value (.tuple #[])) (w.setRow g new):=by
    have hzt:(Builtin.zeroCells zv.cells n).toList=us:=by rw[husd];exact Zd6 zv.cells n
    have hnn:n≠0:=hn;cases n with
    | zero=>exact absurd rfl hn
    | succ n=>simp[execOp,ho,resolve,invoke,builtin,hq,Builtin.clear_,run_underlying ht,zeroValue,typeInfo,Qi,hzv,hzt,hst]
   have Zgn:new.size=cur.size:=by rw[<-Z0];simp;omega
   have Kk:∀k',k'≠g->(w.setRow g new).heap[k']?=w.heap[k']?:=λk' Xi=>setRow_other w g k' _ Xi;have Zpf:∀m,new[o0+m]?=if off*P.cellsOf b.el<=m/\m < off*P.cellsOf b.el+us.length then us[m - off*P.cellsOf b.el]? else cur[o0+m]?:=by
    intro m;rw[<-Z0];have:=Kg (cur:=cur.toList) (n:=o0+off*P.cellsOf b.el) (vs:=us) (by simp;omega) (j:=o0+m);rw[Vcn,this];by_cases hc:off*P.cellsOf b.el<=m/\m < off*P.cellsOf b.el+us.length
    .rw[ZZj (by omega),ZZj hc];congr 1;omega
    .rw[ZZi (by omega),ZZi hc];simp
   have Zpe:=Wo Wn;have Zqd:(b.rows.take off++List.replicate n ((zv.cells.toList.map V.lit).map Qn)++b.rows.drop (off+n)).flatten=b.rows.flatten.take (off*P.cellsOf b.el)++ys++b.rows.flatten.drop (off*P.cellsOf b.el+ys.length):=by
    rw[List.flatten_append,List.flatten_append,Ziv off Wn,hyl,<-Nat.add_mul,Zcd (off+n) Wn]
   have Ziy:∀r'∈b.rows.take off++List.replicate n ((zv.cells.toList.map V.lit).map Qn)++b.rows.drop (off+n),r'.length=P.cellsOf b.el:=λr' Wl=>by
    rcases Vak.1 Wl with h4|h4
    .rcases Vak.1 h4 with h4|h4
     .exact Wn r' (Vba h4)
     .rw[(Vbp.1 h4).2];simp[hzs]
    .exact Wn r' (Va9 h4)
   have Zjy:(b.rows.take off++List.replicate n ((zv.cells.toList.map V.lit).map Qn)++b.rows.drop (off+n)).length=b.rows.length:=by simp;omega
   have Kj:(new.toList.drop o0).take (b.rows.length*P.cellsOf b.el)=((cur.toList.drop o0).take (b.rows.length*P.cellsOf b.el)).take (off*P.cellsOf b.el)++us++((cur.toList.drop o0).take (b.rows.length*P.cellsOf b.el)).drop (off*P.cellsOf b.el+us.length):=by
    apply Vcm;intro m;rw[Kg (by simp;omega),Val,Val,Vaw,Vaw];have hm:=Zpf m;simp only[Vcp];rw[hm];by_cases hc:off*P.cellsOf b.el<=m/\m < off*P.cellsOf b.el+us.length
    .rw[ZZj hc,ZZj hc,ZZj (by omega)]
    .rw[ZZi hc,ZZi hc]
   have hgr:g ∉ fp:=by
    have:=h.once id b hb Zo;rw[J1] at this;exact (Vaz.1 this).1
   let b':Blk:={b with rows:=b.rows.take off++List.replicate n ((zv.cells.toList.map V.lit).map Qn)++b.rows.drop (off+n)}
   have Yq:tops s ρ g:=⟨id,b,_,_,_,hb,Zo,hρ⟩;have hrd:∀{u:Value} {z:V},Rd w (okS s ρ w) u z->Rd (w.setRow g new) (okS (s.setB id b') ρ (w.setRow g new)) u z:=λhu=>
    hu.mono (λg' Zm _=>Kk g' (λe=>Zm.1 (e▸Yq))) (λg' Zm=>⟨λht=>Zm.1 ((Zjj (b':=b') hb rfl g').1 ht),by simpa using Zm.2⟩)
   have fin:∀(Fs:List Nat),(∃r',Fs=g::r')->(∀k'∈Fs,k'∈F id)->Fs.Nodup->
     Yi P (w.setRow g new) (okS (s.setB id b') ρ (w.setRow g new)) ρ (some (.blk g o0 c (P.cellsOf b.el))) Fs b'->
     OpR P o a w (Stp P B io w a.tmps s ρ fl k (.tup []) (s.setB id b')):=by
    intro Fs hFs hFm K0 Z8j;obtain⟨w1,w2,w3⟩:=h.write (b':=b') (Fs:=Fs) (fl':=fl) (new:=new) hb Zo Zo hρ hg ⟨fp,J1⟩ hFs (λk hk=>.inl (hFm k hk)) K0 (λ_ h=>h) h.flOnce (λk' Xi=>h.flApart id b hb Zo k' (hFm k' Xi)) (by omega) Z8j;exact .value Z8 ⟨rfl,rfl,w2,ρ,upd F id Fs,w1,.tup (by simp) (λk v x hv=>by simp at hv),λ_ _ h=>h,λ_ h=>.inl h⟩
   show OpR P o a w (Stp P B io w a.tmps s ρ fl k (.tup []) (s.setB id b'));cases Y4:b.cl with
   | true=>
    have hO1:=(h1 Y4).frame (w':=w.setRow g new) (λk' Xi=>Kk k' (λe=>hgr (e▸Xi)));obtain⟨f',hO,hf1,hf2⟩:=hO1.put (hO0 (w:=w.setRow g new)) (off*P.cellsOf b.el);rw[<-Kj,show us.length=ys.length by omega,<-Zqd] at hO;have K0:=h.once id b hb Zo;rw[J1] at K0;have hf1':∀k'∈f',k'∈fp:=λk' Xi=>by
     rcases hf1 k' Xi with h4|h4
     .exact h4
     .simp at h4
    refine fin (g::f') ⟨f',rfl⟩ (λk' Xi=>?_) (Vaz.2 ⟨λhf=>hgr (hf1' g hf),hf2 (by simpa using (Vaz.1 K0).2)⟩) (.mkRow (fp:=f') Yf Zo rfl (setRow_heap w g cur new _ _ hg) (by show (b'.rows).length<=c;simp only[b'];rw[Zjy];exact hl) hm Ziy (by rw[Zgn];exact hzc) rfl (λ_=>by simp only[b'];rw[Zjy];exact hO) (λhf=>by simp[b',Y4] at hf));rw[J1];rcases Vap.1 Xi with rfl|Xi
    .exact Vaa
    .exact Vac _ (hf1' k' Xi)
   | false=>
    refine fin [g] ⟨[],rfl⟩ (λk' Xi=>by rw[List.mem_singleton.1 Xi,J1];exact Vaa) (by simp) (.mkRow (fp:=[]) Yf Zo rfl (setRow_heap w g cur new _ _ hg) (by show (b'.rows).length<=c;simp only[b'];rw[Zjy];exact hl) hm Ziy (by rw[Zgn];exact hzc) rfl (λhf=>by simp[b',Y4] at hf) (λ_=>⟨rfl,λm z hmz=>?_⟩));simp only[b'] at hmz;rw[Zqd,Kg (by rw[Zpe];omega)] at hmz;rw[Zpf m,show us.length=ys.length by omega];split at hmz
    .rename_i hc
     rw[ZZj hc];obtain⟨u,hu,hr⟩:=(hO0 (w:=w)).rd (ok:=okS s ρ w) (λg hg=>by simp at hg) hmz;exact⟨u,hu,hrd hr⟩
    .rename_i hc
     rw[ZZi hc];obtain⟨u,hu,hr⟩:=(h2 Y4).2 m z hmz;exact⟨u,hu,hrd hr⟩
theorem Z0t:∀{rows:List (List V)} {bs:List UInt8},Zgt rows=some bs->∃ns:List Int,rows=ns.map (λn=>[V.lit (.int .u8 n)])/\bs=ns.map λn=>UInt8.ofNat n.toNat:=by
 intro rows
 induction rows with
 | nil=>intro bs h;simp only[Zgt,Vbw,Zhz,ZZd] at h;subst h;exact⟨[],rfl,rfl⟩
 | cons r rows ih=>
  intro bs h;simp only[Zgt,Vau] at h;split at h
  .rename_i n
   simp only[Zhz] at h;obtain⟨bs',hb,rfl⟩:=ZZc.1 h;obtain⟨ns,h1,h2⟩:=ih hb;exact⟨n::ns,by rw[h1];rfl,by rw[h2];rfl⟩
  .simp[Zhz] at h
theorem Z6q (ns:List Int) (s:ByteArray):ns.foldl (λr n=>r.push (UInt8.ofNat n.toNat)) s=⟨s.data++(ns.map λn=>UInt8.ofNat n.toNat).toArray⟩:=by
 induction ns generalizing s with
 | nil=>simp
 | cons n ns ih=>
  rw[Vbo,ih]
  congr 1
  apply Vdc;simp[ByteArray.push]
theorem Z6x (h:Rel P B io w a.tmps s ρ F fl) {src dst e:TypeId} {x:Operand} {rows:List (List V)} {bs:List UInt8} (ho:o.op=.convert src dst x) (hs:P.underlying src=some (.slice e)) (hd:P.underlying dst=some .string) (he:P.underlying e=some (.int .u8))
  (hr:s.rowsOf (s.opV x)=some rows) (hb:Zgt rows=some bs):OpR P o a w (Stp P B io w a.tmps s ρ fl k (.lit (.string ⟨bs.toArray⟩)) s):=by
 obtain⟨ns,Yy,hbs⟩:=Z0t hb;have Z8:(Conv.bytesToString (a.eval x)).run P w=.ok (.string ⟨bs.toArray⟩) w:=by
  have hu:=h.opV x;generalize a.eval x=u at hu;rcases Zlz h hu hr (sz:=1) (λq hq=>by
   rw[Yy] at hq;obtain⟨n,_,rfl⟩:=Va4.1 hq;rfl) with⟨rfl,A,c,rfl⟩|⟨us,hC⟩
  .have:ns=[]:=by cases ns with|nil=>rfl|cons n ns=>simp at Yy
   subst this;simp only[Vbw] at hbs;subst hbs;cases A with
   | none=>simp[Conv.bytesToString];rfl
   | some ad=>
    have:=run_bytesToString (P:=P) w ad 0 c [] (by simp[loadCells,loadCellsFrom]);rw[Vdk] at this;exact this
  .obtain⟨ad,c,rfl,hc⟩:=hC.val
   have husn:us=ns.map (Value.int .u8):=by
    apply Vcm;intro j;have Z3:us.length=ns.length:=by have:=hC.len;rw[Yy] at this;simpa using this
    by_cases hj:j < ns.length
    .have h1:rows.flatten[j]?=some (V.lit (.int .u8 ns[j])):=by
      rw[Yy];have:=K9 (sz:=1) (rows:=ns.map λn=>[V.lit (.int .u8 n)]) (i:=j) (j:=0) (x:=V.lit (.int .u8 ns[j])) (λr hr=>by obtain⟨n,_,rfl⟩:=Va4.1 hr;rfl) (by rw[Vay,Vab hj];rfl) rfl;simpa using this
     have hsee:∃v,us[j]?=some v/\Rd w (okS s ρ w) v (V.lit (.int .u8 ns[j])):=by
      cases Y4:Kn rows with
      | true=>exact (hC.own Y4).rd (λg hg=>by simp at hg) h1
      | false=>exact (hC.see Y4).2 j _ h1
     obtain⟨v,hv,hr⟩:=hsee;cases hr;rw[hv,Vay,Vab hj];rfl
    .rw[Vb0 (by omega),Vb0 (by simp;omega)]
   have hld:(loadCells ad rows.length).run P w=.ok (ns.map (Value.int .u8)).toArray w:=by
    have:=run_loadCells_list (P:=P) (w:=w) ad us (λj u hj=>hc j u hj);rw[husn] at this;rw[Yy];simpa using this
   have:=run_bytesToString (P:=P) w ad rows.length c ns hld;rw[this,Z6q,hbs];simp
 refine .value (v:=.string ⟨bs.toArray⟩) (w':=w) ?_ (.same h (.lit rfl));have hsh:∃A n c,a.eval x=.slice A n c:=by
  have hu:=h.opV x;generalize a.eval x=u at hu;rcases Zlz h hu hr (sz:=1) (λq hq=>by
   rw[Yy] at hq;obtain⟨n,_,rfl⟩:=Va4.1 hq;rfl) with⟨_,A,c,rfl⟩|⟨us,hC⟩
  .exact⟨_,_,_,rfl⟩
  .obtain⟨ad,c,rfl,_⟩:=hC.val;exact⟨_,_,_,rfl⟩
 obtain⟨A,n,c,hq⟩:=hsh;rw[hq] at Z8;simp[execOp,ho,hq,convert,run_underlying hs,run_underlying hd,run_underlying he,Z8]
def Zi8:BinOp->Bool|.neq=>true|_=>false
theorem Zjl (h:Rel P B io w a.tmps s ρ F fl) {op:BinOp} {t yt e:TypeId} {x y z:Operand} {rows:List (List V)} {r:List V} (ho:o.op=.binOp op t x y yt) (Xw:Xe P t=some e) (hop:op=.eql\/op=.neq)
  (hz:(z=x/\s.opV y=.lit (.slice none 0 0))\/(z=y/\s.opV x=.lit (.slice none 0 0))) (hr:s.rowsOf (s.opV z)=some (r::rows)) (he:v=.lit (.bool (Zi8 op))):
  OpR P o a w (Stp P B io w a.tmps s ρ fl k v s):=by
 have ht:=Q9 Xw;have hzv:∃ad n c,a.eval z=.slice (some ad) n c:=by
  have hR:=h.rowsOf (ok':=λg=>g < w.heap.size) (h.opV z) hr (λg hg=>hg.2) (λ_ _ _ _ _ _ _ _ _ _ _ _ hg _=>hg);generalize a.eval z=q at hR;cases hR with
  | tr=>exact⟨_,_,_,rfl⟩
 obtain⟨ad,n,c,hzv⟩:=hzv;have Zha:∀{y:Operand},s.opV y=.lit (.slice none 0 0)->a.eval y=.slice none 0 0:=λ{y} hy=>by
  have:=h.opV y;rw[hy] at this;generalize a.eval y=q at this;cases this;rfl
 subst he;refine .value (v:=.bool (Zi8 op)) (w':=w) ?_ (.same h (.lit rfl));have g1:∀d (u v:Value),(u=.slice (some ad) n c/\v=.slice none 0 0)\/(u=.slice none 0 0/\v=.slice (some ad) n c)->(Op.equalIn (d+1) t u v).run P w=.ok false w:=by
  rintro d u v (⟨rfl,rfl⟩|⟨rfl,rfl⟩)<;>simp[Op.equalIn,run_underlying ht]
 have g2:∀(u v:Value),(u=.slice (some ad) n c/\v=.slice none 0 0)\/(u=.slice none 0 0/\v=.slice (some ad) n c)->(Op.equal t u v).run P w=.ok false w:=λu v h=>g1 9999 u v h;have g3:∀(u v:Value) (x y:Operand),(u=.slice (some ad) n c/\v=.slice none 0 0)\/(u=.slice none 0 0/\v=.slice (some ad) n c)->(eqGuard op t x y u v).run P w=.ok () w:=by
  rintro u v x y (⟨rfl,rfl⟩|⟨rfl,rfl⟩)<;>rcases hop with rfl|rfl<;>simp[eqGuard]
 have g4:∀(u v:Value),(u=.slice (some ad) n c/\v=.slice none 0 0)\/(u=.slice none 0 0/\v=.slice (some ad) n c)->(binOp op t u v).run P w=.ok (.bool (Zi8 op)) w:=by
  intro u v h;have:=g2 u v h;rcases h with⟨rfl,rfl⟩|⟨rfl,rfl⟩<;>rcases hop with rfl|rfl<;>simp[binOp,this,Zi8]
 rcases hz with⟨rfl,hy⟩|⟨rfl,hx⟩
 .have hh:(a.eval z=.slice (some ad) n c/\a.eval y=.slice none 0 0)\/(a.eval z=.slice none 0 0/\a.eval y=.slice (some ad) n c):=.inl ⟨hzv,Zha hy⟩
  simp only[execOp,ho,Sem.run_bind,Sem.run_pure,Result.andThen_ok,g3 _ _ _ _ hh,g4 _ _ hh]
 .have hh:(a.eval x=.slice (some ad) n c/\a.eval z=.slice none 0 0)\/(a.eval x=.slice none 0 0/\a.eval z=.slice (some ad) n c):=.inr ⟨Zha hx,hzv⟩
  simp only[execOp,ho,Sem.run_bind,Sem.run_pure,Result.andThen_ok,g3 _ _ _ _ hh,g4 _ _ hh]
theorem Zv6 (h:Rel P B io w a.tmps s ρ F fl) {op:BinOp} {t yt:TypeId} {x y:Operand} {id:Id} {i off:Nat} (ho:o.op=.binOp op t x y yt) (ht:ptrT P t=true) (hop:op=.eql\/op=.neq)
  (hx:s.opV x=.ptr id i off) (hy:s.opV y=.lit (.pointer none)) (he:v=.lit (.bool (Zi8 op))):OpR P o a w (Stp P B io w a.tmps s ρ fl k v s):=by
 obtain⟨el,ht⟩:∃el,P.underlying t=some (.pointer el):=by
  unfold ptrT at ht;split at ht
  .rename_i el hu;exact⟨el,hu⟩
  .cases ht
 obtain⟨ad,hxv⟩:∃ad,a.eval x=.pointer (some ad):=by
  have:=h.opV x;rw[hx] at this;generalize a.eval x=u at this ⊢;generalize hq:V.ptr id i off=q at this;cases this<;>cases hq;exact⟨_,rfl⟩
 have hyv:a.eval y=.pointer none:=by
  have:=h.opV y;rw[hy] at this;generalize a.eval y=q at this;cases this;rfl
 subst he;refine .value (v:=.bool (Zi8 op)) (w':=w) ?_ (.same h (.lit rfl));have g1:∀d,(Op.equalIn (d+1) t (.pointer (some ad)) (.pointer none)).run P w=.ok false w:=λd=>by simp[Op.equalIn,run_underlying ht]
 have g2:(Op.equal t (.pointer (some ad)) (.pointer none)).run P w=.ok false w:=g1 9999;have g3:(eqGuard op t x y (.pointer (some ad)) (.pointer none)).run P w=.ok () w:=by rcases hop with rfl|rfl<;>simp[eqGuard]
 have g4:(binOp op t (.pointer (some ad)) (.pointer none)).run P w=.ok (.bool (Zi8 op)) w:=by rcases hop with rfl|rfl<;>simp[binOp,g2,Zi8]
 simp only[execOp,ho,hxv,hyv,Sem.run_bind,Sem.run_pure,Result.andThen_ok,g3,g4]
end
def OpW (P:Program) (o:Oper) (a:Act) (w:World) (Post:Value->World->Prop):Prop:=∀(K:Act->World->Prop) (Q:Exit->Act->World->Prop),(∀v w',Post v w'->K (a.put o.dst v) w')->o.wp P a w K Q
theorem OpR.toW {P:Program} {o:Oper} {a:Act} {w:World} {Post:Value->World->Prop} (h:OpR P o a w Post):OpW P o a w Post:=λ_ _ hK=>h.wp hK
theorem Zdb {α:Type} {a:Array α} {x:α} (h:a.toList=[x]):a=#[x]:=by apply Vdc;simpa using h
theorem Zl1 {α:Type} {a:Array α} {x y:α} (h:a.toList=[x,y]):a=#[x,y]:=by apply Vdc;simpa using h
def Ztu (P:Program) (B:Nat) (io:Nat->Prop) (w:World) (tmps:Array Value) (s:St) (ρ:Rho) (fl:List Nat) (k:Nat) (v:V) (s':St) (M:Z7) (C:Xs):Prop:=
 ∀(g:FuncId) (args:List V) (us:Array Value),us.size=args.length->(∀(j:Nat) (u:Value) (x:V),us[j]?=some u->args[j]?=some x->En w (okS s ρ w) ρ u x)->Zdk P M C s k g args=some (v,s')->
  ∃fn,P.funcs[g]?=some fn/\fn.body.isSome=true/\(fn.name == "runtime.NumGoroutine")=false/\Calls P g us w (λe w'=>∃val,e=.returned val/\Stp P B io w tmps s ρ fl k v s' val w')
section
variable {P:Program} {B:Nat} {io:Nat->Prop} {w w':World} {a:Act} {s s':St} {ρ:Rho} {F:Id->List Nat} {fl:List Nat} {k:Nat} {o:Oper} {v:V} {M:Z7} {C:Xs}
theorem Z9x (h:Rel P B io w a.tmps s ρ F fl) {f:Operand} {ars:Array Operand} {ts:Array TypeId} {g:FuncId} {caps:List V} (ho:o.op=.call {callee:=.value f,args:=ars,argTypes:=ts}) (hf:s.opV f=.fn g caps)
  (he:Zdk P M C s k g (ars.toList.map s.opV++caps)=some (v,s')) (Zfk:Ztu P B io w a.tmps s ρ fl k v s' M C):OpW P o a w (Stp P B io w a.tmps s ρ fl k v s'):=by
 have hfv:=h.opV f;rw[hf] at hfv;generalize hq:a.eval f=q at hfv;have key:∀(vs:Array Value),q=.func (.func g) #[] vs->vs.size=caps.length->(∀(j:Nat) (u:Value) (x:V),vs[j]?=some u->caps[j]?=some x->En w (okS s ρ w) ρ u x)->OpW P o a w (Stp P B io w a.tmps s ρ fl k v s'):=by
  rintro vs rfl hl hr;obtain⟨fn,h1,h2,h3,h4⟩:=Zfk g _ (ars.map a.eval++vs) (by simp[hl]) (λj u x hu hx=>by
   by_cases hj:j < ars.size
   .rw[Vbn (by simpa using hj)] at hu
    rw[Vam (by simpa using hj)] at hx;simp only[Array.getElem?_map,Vay,ZZc] at hu hx;obtain⟨y,hy,rfl⟩:=hu;obtain⟨z,hz,rfl⟩:=hx;have:y=z:=by
     have h1:ars.toList[j]?=some y:=by simpa using hy
     rw[h1] at hz;injection hz
    subst this;exact h.opV y
   .rw[Array.getElem?_append_right (by simp;omega)] at hu
    rw[Vaj (by simp;omega)] at hx;simp only[Array.size_map,Vcb,Array.length_toList] at hu hx;exact hr _ u x hu hx) he
  have hb:fn.body.isNone=false:=by cases hbb:fn.body with
   | none=>rw[hbb] at h2;cases h2
   | some c=>rfl
  have Z8:(execOp a.eval o).run P w=.ok (.enter g (ars.map a.eval++vs)) w:=by
   have h3':¬fn.name = "runtime.NumGoroutine" := by simpa using h3
   have Zn:¬fn.body=none:=λhh=>by rw[hh] at h2;cases h2
   simp[execOp,ho,resolve,hq,Deferred.ofValue,invoke,callFunc,h1,h3',Zn]
  intro K Q hK;unfold Oper.wp;rw[Z8,Oper.upon_enter];refine h4.mono ?_;rintro e w'' ⟨val,rfl,hp⟩;exact hK _ _ hp
 cases hfv with
 | fn hl hr=>exact key _ rfl hl hr
theorem Z91 (h:Rel P B io w a.tmps s ρ F fl) (he:Zkj P M C s k o=some (v,s')) (Z0:∀id:Id,id.1=s.ep->id.2 / 1024=k->ρ id=none) (Zfk:Ztu P B io w a.tmps s ρ fl k v s' M C):
  OpW P o a w (Stp P B io w a.tmps s ρ fl k v s'):=by
 have Zg:ρ (s.ep,1024*k)=none:=Z0 _ rfl (by simp);have hkk:(s.ep,1024*k).2 / 1024=k:=by simp
 have sc:∀{x:Option V},x=Ye P s.opV o->(x.map λy=>(y,s))=some (v,s')->OpW P o a w (Stp P B io w a.tmps s ρ fl k v s'):=by
  rintro _ rfl hx;obtain⟨y,hy,he⟩:=ZZc.1 hx;simp only[ZZe] at he;obtain⟨rfl,rfl⟩:=he;exact (Z5n h hy).toW
 unfold Zkj Yd at he;simp only at he;split at he
 .rename_i x ho
  split at he
  .cases he
  .simp only[ZZd,ZZe] at he
   obtain⟨hv,rfl⟩:=he;exact (Z2m h (.inl ho) hv).toW
 .rename_i x ho
  split at he
  .cases he
  .simp only[ZZd,ZZe] at he
   obtain⟨hv,rfl⟩:=he;exact (Z2m h (.inr ho) hv).toW
 .rename_i c x y ho
  split at he
  .rename_i t hc
   simp only[ZZd,ZZe] at he;obtain⟨hv,rfl⟩:=he;exact (Yag h ho hc hv).toW
  .cases he
 .rename_i t i ho
  split at he
  .rename_i vs ht
   obtain⟨y,hy,he⟩:=ZZc.1 he;simp only[ZZe] at he;obtain⟨rfl,rfl⟩:=he;exact (Z3o h ho ht hy).toW
  .cases he
 .rename_i x ho
  split at he
  .rename_i i j n hx
   simp only[ZZd,ZZe] at he;obtain⟨rfl,rfl⟩:=he;exact (Zkc h ho hx (.inl ⟨_,_,_,rfl⟩)).toW
  .rename_i b r n hx
   simp only[ZZd,ZZe] at he;obtain⟨rfl,rfl⟩:=he;exact (Zkc h ho hx (.inr (.inl ⟨_,_,_,rfl⟩))).toW
  .rename_i f cs hx
   simp only[ZZd,ZZe] at he;obtain⟨rfl,rfl⟩:=he;exact (Zkc h ho hx (.inr (.inr ⟨_,_,rfl⟩))).toW
  .cases he
 .rename_i t ho
  obtain⟨z,hz,he⟩:=ZZc.1 he;simp only[ZZe] at he;obtain⟨rfl,rfl⟩:=he;exact (Z7e h ho hz Zg rfl hkk).toW
 .rename_i t x ho
  obtain⟨cs,X5,he⟩:=ZZb.1 he;split at he
  .simp only[ZZd,ZZe] at he
   obtain⟨rfl,rfl⟩:=he;exact (box_ok h ho X5 Zg rfl hkk).toW
  .cases he
 .rename_i t parts ho
  obtain⟨z,hz,he⟩:=ZZb.1 he;split at he
  .rename_i fs hu
   split at he
   .cases he
   .rename_i Xp
    obtain⟨cs,X5,he⟩:=ZZc.1 he;simp only[ZZe] at he;obtain⟨rfl,rfl⟩:=he;exact (Z6u h ho hz hu (by cases hh:fs.toList.all (λf=>(P.info? f.type).isSome) with|true=>rfl|false=>exact absurd hh Xp) X5).toW
  .cases he
 .rename_i t n parts ho
  obtain⟨e,Xw,he⟩:=ZZb.1 he;obtain⟨z,hz,he⟩:=ZZb.1 he;split at he
  .cases he
  .rename_i hc
   obtain⟨cs,X5,he⟩:=ZZb.1 he;obtain⟨⟨rows,c,s1⟩,hs,he⟩:=ZZc.1 he;simp only[ZZe] at he;obtain⟨rfl,rfl⟩:=he;have hc1:Zi P e≠0:=λhh=>hc (.inl hh);have hc2:n*Zi P e<=1048576:=by
    rcases Vbv 1048576 (n*Zi P e) with hh|hh
    .exact absurd (.inr (.inl hh)) hc
    .exact hh
   have hc3:Zex P e=true:=by
    cases hh:Zex P e with
    | true=>rfl
    | false=>exact absurd (.inr (.inr hh)) hc
   exact (Zwy h ho Xw hz hc1 hc2 hc3 X5 hs Zg rfl hkk).toW
 .rename_i t x ho
  split at he
  .rename_i i j n hx
   obtain⟨b,hb,he⟩:=ZZb.1 he;obtain⟨row,Z6,he⟩:=ZZb.1 he;split at he
   .rename_i Z3
    obtain⟨y,hy,he⟩:=ZZc.1 he;simp only[ZZe] at he;obtain⟨rfl,rfl⟩:=he;exact (Z2n h ho (.inl ⟨i,j,n,b,row,hx,hb,Z6,Z3,hy⟩)).toW
   .cases he
  .rename_i sh row n hx
   split at he
   .rename_i Z3
    obtain⟨y,hy,he⟩:=ZZc.1 he;simp only[ZZe] at he;obtain⟨rfl,rfl⟩:=he;exact (Z2n h ho (.inr ⟨sh,row,n,hx,Z3,hy⟩)).toW
   .cases he
  .cases he
 .rename_i t x y ho
  split at he
  .rename_i i j n hx
   obtain⟨b,hb,he⟩:=ZZb.1 he;obtain⟨row,Z6,he⟩:=ZZb.1 he;obtain⟨cs,X5,he⟩:=ZZb.1 he;split at he
   .rename_i hc
    obtain⟨h1,h2,h3,h4⟩:=hc;split at he
    .rename_i Yf
     simp only[ZZd,ZZe] at he;obtain⟨rfl,rfl⟩:=he;exact (Z0z h ho hx hb Z6 X5 h1 Yf h2 h3 h4).toW
    .rename_i Yf
     obtain⟨⟨ys,c,s1⟩,hs,he⟩:=ZZb.1 he;simp only at he;split at he
     .rename_i b1 K1
      simp only[ZZd,ZZe] at he;obtain⟨rfl,rfl⟩:=he;exact (Z00 h ho hx hb Z6 X5 h1 (by simpa using Yf) h2 h3 h4 hs K1).toW
     .cases he
   .cases he
  .cases he
 .rename_i t x f ho
  obtain⟨off,Zpl,he⟩:=ZZb.1 he;split at he
  .rename_i i j n hx
   simp only[ZZd,ZZe] at he;obtain⟨rfl,rfl⟩:=he;exact (Zoj h ho Zpl (.inl ⟨_,_,_,hx,rfl⟩)).toW
  .rename_i b r n hx
   simp only[ZZd,ZZe] at he;obtain⟨rfl,rfl⟩:=he;exact (Zoj h ho Zpl (.inr ⟨_,_,_,hx,rfl⟩)).toW
  .cases he
 .rename_i t x ix ho
  obtain⟨e,Xw,he⟩:=ZZb.1 he;split at he
  .cases he
  .rename_i hz
   obtain⟨n,hn,he⟩:=ZZb.1 he;split at he
   .rename_i i off len hx
    split at he
    .rename_i Zs
     obtain⟨b,hb,he⟩:=ZZb.1 he;obtain⟨row,Z6,he⟩:=ZZb.1 he;split at he
     .rename_i Ks
      simp only[ZZd,ZZe] at he;obtain⟨rfl,rfl⟩:=he;exact (Zig h ho Xw hn (.inl ⟨i,off,len,b,row,hx,Zs,hb,Z6,Ks,rfl⟩) hz).toW
     .cases he
    .cases he
   .rename_i rows hx
    obtain⟨row,Z6,he⟩:=ZZb.1 he;split at he
    .rename_i Ks
     simp only[ZZd,ZZe] at he;obtain⟨rfl,rfl⟩:=he;exact (Zig h ho Xw hn (.inr ⟨true,rows,row,.inl hx,Z6,Ks,rfl⟩) hz).toW
    .cases he
   .rename_i rows hx
    obtain⟨row,Z6,he⟩:=ZZb.1 he;split at he
    .rename_i Ks
     simp only[ZZd,ZZe] at he;obtain⟨rfl,rfl⟩:=he;exact (Zig h ho Xw hn (.inr ⟨false,rows,row,.inr hx,Z6,Ks,rfl⟩) hz).toW
    .cases he
   .cases he
 .rename_i t x lo hi ho
  split at he
  .obtain⟨y,hy,he⟩:=ZZc.1 he
   simp only[ZZe] at he;obtain⟨rfl,rfl⟩:=he;exact (Zrh h ho hy).toW
  .obtain⟨y,hy,he⟩:=ZZc.1 he
   simp only[ZZe] at he;obtain⟨rfl,rfl⟩:=he;exact (Zrh h ho hy).toW
  .obtain⟨y,hy,he⟩:=ZZc.1 he
   simp only[ZZe] at he;obtain⟨rfl,rfl⟩:=he;exact (Zrh h ho hy).toW
  .exact sc rfl he
 .rename_i t l c ho
  obtain⟨e,Xw,he⟩:=ZZb.1 he;obtain⟨z,hz,he⟩:=ZZb.1 he;obtain⟨n,hn,he⟩:=ZZb.1 he;obtain⟨m,hm,he⟩:=ZZb.1 he;split at he
  .rename_i hc
   obtain⟨rfl,h2,h3,h4,h5⟩:=hc;simp only[ZZd,ZZe] at he;obtain⟨rfl,rfl⟩:=he;exact (Zy8 h ho Xw hz hn hm h2 h3 h4 h5 Zg rfl hkk).toW
  .cases he
 .rename_i f first caps ho
  split at he
  .rename_i hf
   simp only[ZZd,ZZe] at he;obtain⟨rfl,rfl⟩:=he;have:first=#[]:=Array.eq_empty_of_size_eq_zero hf
   subst this;exact (Z1f h ho rfl).toW
  .cases he
 .rename_i src dst x ho
  split at he
  .exact sc rfl he
  .split at he
   .rename_i e hs hd
    split at he
    .rename_i hu
     obtain⟨rows,hr,he⟩:=ZZb.1 he;obtain⟨bs,hb,he⟩:=ZZc.1 he;simp only[ZZe] at he;obtain⟨rfl,rfl⟩:=he;exact (Z6x h ho hs hd hu hr hb).toW
    .cases he
   .cases he
   .cases he
 .rename_i c ho
  obtain⟨callee,ars,ts⟩:=c;simp only at he;split at he
  .split at he
   .rename_i b x t t' ha ht
    split at he
    .rename_i htt
     subst htt;have:=Zl1 ha;subst this;have:=Zl1 ht;subst this;exact (Z5o h ho he Zg rfl hkk).toW
    .cases he
   .cases he
  .split at he
   .rename_i x t ha ht
    have:=Zdb ha;subst this;have:=Zdb ht;subst this;split at he
    .rename_i i off n hx
     split at he
     .rename_i Xw
      simp only[ZZd,ZZe] at he;obtain⟨rfl,rfl⟩:=he;exact (Zx4 h ho Xw (.inl ⟨i,off,hx⟩) rfl).toW
     .cases he
    .rename_i rows hx
     split at he
     .rename_i Xw
      simp only[ZZd,ZZe] at he;obtain⟨rfl,rfl⟩:=he;exact (Zx4 h ho Xw (.inr ⟨rows,.inl hx,rfl⟩) rfl).toW
     .cases he
    .rename_i rows hx
     split at he
     .rename_i Xw
      simp only[ZZd,ZZe] at he;obtain⟨rfl,rfl⟩:=he;exact (Zx4 h ho Xw (.inr ⟨rows,.inr hx,rfl⟩) rfl).toW
     .cases he
    .exact sc rfl he
   .cases he
  .split at he
   .rename_i x t ha ht
    have:=Zdb ha;subst this;have:=Zdb ht;subst this;obtain⟨e,Xw,he⟩:=ZZb.1 he;obtain⟨z,hz,he⟩:=ZZb.1 he;split at he
    .rename_i i off n hx
     obtain⟨b,hb,he⟩:=ZZb.1 he;split at he
     .rename_i hc
      obtain⟨h1,h2,h3,h4,h5,h6⟩:=hc;simp only[ZZd,ZZe] at he;obtain⟨rfl,rfl⟩:=he;exact (Z8b h ho Xw hz hx hb h1 h2 h3 h4 h5 h6).toW
     .cases he
    .cases he
   .cases he
  .exact sc rfl he
  .split at he
   .rename_i f g caps hf
    exact Z9x h ho hf he Zfk
   .cases he
  .cases he
 .rename_i op t x y yt ho
  split at he
  .exact sc rfl he
  .exact sc rfl he
  .exact sc rfl he
  .rename_i id i off hx hy
   split at he
   .rename_i ht
    split at he
    .simp only[ZZd,ZZe] at he
     obtain⟨rfl,rfl⟩:=he;exact (Zv6 h ho ht (.inl rfl) hx hy rfl).toW
    .simp only[ZZd,ZZe] at he
     obtain⟨rfl,rfl⟩:=he;exact (Zv6 h ho ht (.inr rfl) hx hy rfl).toW
    .cases he
   .cases he
  .rename_i z1 z2 hx hy
   split at he
   .cases he
   .rename_i Xw
    obtain⟨e,Xw⟩:=Vaq.1 (show (Xe P t).isSome=true by cases hh:(Xe P t).isSome with|true=>rfl|false=>exact absurd hh Xw);split at he
    .rename_i r rows hr
     simp only[ZZd,ZZe] at he;obtain⟨rfl,rfl⟩:=he;exact (Zjl h ho Xw (.inl rfl) (.inl ⟨rfl,by assumption⟩) hr rfl).toW
    .rename_i r rows hr
     simp only[ZZd,ZZe] at he;obtain⟨rfl,rfl⟩:=he;exact (Zjl h ho Xw (.inr rfl) (.inl ⟨rfl,by assumption⟩) hr rfl).toW
    .cases he
  .rename_i z1 z2 hx hy
   split at he
   .cases he
   .rename_i Xw
    obtain⟨e,Xw⟩:=Vaq.1 (show (Xe P t).isSome=true by cases hh:(Xe P t).isSome with|true=>rfl|false=>exact absurd hh Xw);split at he
    .rename_i r rows hr
     simp only[ZZd,ZZe] at he;obtain⟨rfl,rfl⟩:=he;exact (Zjl h ho Xw (.inl rfl) (.inr ⟨rfl,by assumption⟩) hr rfl).toW
    .rename_i r rows hr
     simp only[ZZd,ZZe] at he;obtain⟨rfl,rfl⟩:=he;exact (Zjl h ho Xw (.inr rfl) (.inr ⟨rfl,by assumption⟩) hr rfl).toW
    .cases he
  .cases he
 .exact sc rfl he
end
theorem Rd.okm {w:World} {ok ok':Nat->Prop} {v:Value} {x:V} (h:Rd w ok v x) (Zy:∀g,ok g->ok' g):Rd w ok' v x:=h.mono (λ_ _ _=>rfl) Zy
theorem En.ext {w:World} {ok ok':Nat->Prop} {ρ ρ':Rho} {v:Value} {x:V} (h:En w ok ρ v x) (Zy:∀g,ok g->ok' g) (hρ:∀id i,ρ id=some i->ρ' id=some i):En w ok' ρ' v x:=by
 induction h with
 | undef=>exact .undef
 | lit h=>exact .lit h
 | tr h=>exact .tr (h.okm Zy)
 | vw h=>exact .vw (h.okm Zy)
 | rp h=>exact .rp (h.okm Zy)
 | ptr h=>exact .ptr (hρ _ _ h)
 | sl h hc=>exact .sl (hρ _ _ h) hc
 | sle h=>
  obtain⟨i,hi⟩:=Vaq.1 h;exact .sle (by rw[hρ _ _ hi];rfl)
 | fn hl hr ih=>exact .fn hl ih
 | agg hl hc hr ih=>exact .agg hl hc ih
 | tup hl hr ih=>exact .tup hl ih
theorem En.world {w w':World} {ok:Nat->Prop} {ρ:Rho} {v:Value} {x:V} (h:En w ok ρ v x) (hw:∀g,ok g->w'.heap[g]?=w.heap[g]?):En w' ok ρ v x:=by
 induction h with
 | undef=>exact .undef
 | lit h=>exact .lit h
 | tr h=>exact .tr (h.mono (λg hg _=>hw g hg) (λ_ h=>h))
 | vw h=>exact .vw (h.mono (λg hg _=>hw g hg) (λ_ h=>h))
 | rp h=>exact .rp (h.mono (λg hg _=>hw g hg) (λ_ h=>h))
 | ptr h=>exact .ptr h
 | sl h hc=>exact .sl h hc
 | sle h=>exact .sle h
 | fn hl hr ih=>exact .fn hl ih
 | agg hl hc hr ih=>exact .agg hl hc ih
 | tup hl hr ih=>exact .tup hl ih
theorem Yi.ext {P:Program} {w:World} {ok ok':Nat->Prop} {ρ ρ':Rho} {i:Option Zff} {F:List Nat} {b:Blk} (h:Yi P w ok ρ i F b) (Zy:∀g,ok g->ok' g) (hρ:∀id i,ρ id=some i->ρ' id=some i):Yi P w ok' ρ' i F b:=by
 unfold Yi at h ⊢;split at h
 .obtain⟨h1,g,cur,e,row,hi,hg,hr,hs,he,h1c,rfl⟩:=h
  exact⟨h1,g,cur,e,row,hi,hg,hr,hs,λk v x hv hx=>(he k v x hv hx).ext Zy hρ,h1c,rfl⟩
 .rcases h with h|⟨g,o,c,cur,hi,hg,hl,hm,hu,hz,fp,rfl,h1,h2⟩
  .exact .inl h
  .refine .inr ⟨g,o,c,cur,hi,hg,hl,hm,hu,hz,fp,rfl,h1,λhc=>⟨(h2 hc).1,λk x hx=>?_⟩⟩
   obtain⟨v,hv,hr⟩:=(h2 hc).2 k x hx;exact⟨v,hv,hr.okm Zy⟩
 .obtain⟨h0,h⟩:=h
  refine⟨h0,?_⟩;rcases h with h|⟨g,o,c,sz,hi,hu,hr⟩
  .exact .inl h
  .exact .inr ⟨g,o,c,sz,hi,hu,hr.okm Zy⟩
theorem Yi.world {P:Program} {w w':World} {ok:Nat->Prop} {ρ:Rho} {i:Option Zff} {F:List Nat} {b:Blk} (h:Yi P w ok ρ i F b) (hw:∀g,ok g->w'.heap[g]?=w.heap[g]?) (hF:∀g∈F,w'.heap[g]?=w.heap[g]?):Yi P w' ok ρ i F b:=by
 unfold Yi at h ⊢;split at h
 .obtain⟨h1,g,cur,e,row,hi,hg,hr,hs,he,h1c,rfl⟩:=h
  exact⟨h1,g,cur,e,row,hi,by rw[hF g Vaa];exact hg,hr,hs,λk v x hv hx=>(he k v x hv hx).world hw,h1c,rfl⟩
 .rcases h with h|⟨g,o,c,cur,hi,hg,hl,hm,hu,hz,fp,rfl,h1,h2⟩
  .exact .inl h
  .refine .inr ⟨g,o,c,cur,hi,by rw[hF g Vaa];exact hg,hl,hm,hu,hz,fp,rfl,λhc=>(h1 hc).frame λk hk=>hF k (Vac _ hk),λhc=>⟨(h2 hc).1,λk x hx=>?_⟩⟩
   obtain⟨v,hv,hr⟩:=(h2 hc).2 k x hx;exact⟨v,hv,hr.mono (λg hg _=>hw g hg) (λ_ h=>h)⟩
 .obtain⟨h0,h⟩:=h
  refine⟨h0,?_⟩;rcases h with h|⟨g,o,c,sz,hi,hu,hr⟩
  .exact .inl h
  .exact .inr ⟨g,o,c,sz,hi,hu,hr.mono (λg hg _=>hw g hg) (λ_ h=>h)⟩
structure X7 (P:Program) (B:Nat) (io:Nat->Prop) (w:World) (tmps:Array Value) (s:St) (ρ:Rho) (F:Id->List Nat) (fl:List Nat) (ok:Nat->Prop):Prop where
 env:∀(t:Nat) (v:Value),tmps[t]?=some v->En w ok ρ v (s.env t)
 out:∀t,tmps.size<=t->s.env t=.undef
 heap:∀id b,s.heap id=some b->Yi P w ok ρ (ρ id) (F id) b
 mine:∀id b,s.heap id=some b->b.own=true->∀g∈F id,g < w.heap.size
 top:∀id b,s.heap id=some b->b.own=true->Zh2 (ρ id)->∀g,(F id).head?=some g->io g\/B<=g
 apart:∀id id' b b',s.heap id=some b->b.own=true->s.heap id'=some b'->b'.own=true->id≠id'->∀g∈F id,g ∉ F id'
 once:∀id b,s.heap id=some b->b.own=true->(F id).Nodup
 dom:∀id,(ρ id).isSome=true->id.1<=s.ep
 base0:Zhi B io w
 flMine:∀g∈fl,g < w.heap.size
 flApart:∀id b,s.heap id=some b->b.own=true->∀g∈F id,g ∉ fl
 flOnce:fl.Nodup
inductive Giv (P:Program) (w:World) (ok top:Nat->Prop):Value->V->List Nat->Prop
 | lit {v:Value} (h:Xn v=true):Giv P w ok top v (.lit v) []
 | tr {v:Value} {rows:List (List V)} (h:Rd w ok v (.tr rows)):Giv P w ok top v (.tr rows) []
 | own {v:Value} {e:TypeId} {rows:List (List V)} {fp:List Nat} (h:OwT P w e v rows fp) (ht:∀g,fp.head?=some g->top g):Giv P w ok top v (.own e rows) fp
inductive Zbq (P:Program) (w:World) (ok top:Nat->Prop):List Value->List V->List Nat->Prop
 | nil:Zbq P w ok top [] [] []
 | cons {v:Value} {x:V} {vs:List Value} {xs:List V} {f1 f2:List Nat} (h:Giv P w ok top v x f1) (hs:Zbq P w ok top vs xs f2):Zbq P w ok top (v::vs) (x::xs) (f1++f2)
theorem Zbq.length {P:Program} {w:World} {ok top:Nat->Prop} {vs:List Value} {xs:List V} {fp:List Nat} (h:Zbq P w ok top vs xs fp):vs.length=xs.length:=by
 induction h with
 | nil=>rfl
 | cons _ _ ih=>simp[ih]
def Qw (P:Program) (w:World) (ok top:Nat->Prop) (u:Value):V->List Nat->Prop
 | .agg cs,fp=>∃us:Array Value,u=.agg us/\Zbq P w ok top us.toList cs fp
 | .obx cs,fp=>∃g cur e fp',u=.pointer (some ⟨g,0,none⟩)/\w.heap[g]?=some (.cells cur e (0,0))/\Zbq P w ok top cur.toList cs fp'/\fp=g::fp'/\top g
 | x,fp=>Giv P w ok top u x fp
inductive Znp (P:Program) (w:World) (ok top:Nat->Prop):Value->V->List Nat->Prop
 | one {v:Value} {x:V} {fp:List Nat} (h:Giv P w ok top v x fp):Znp P w ok top v x fp
 | box {v:Value} {cs:List V} {fp:List Nat} (h:Qw P w ok top v (.obx cs) fp):Znp P w ok top v (.obx cs) fp
inductive Zac (P:Program) (w:World) (ok top:Nat->Prop):List Value->List V->List Nat->Prop
 | nil:Zac P w ok top [] [] []
 | cons {v:Value} {x:V} {vs:List Value} {xs:List V} {f1 f2:List Nat} (h:Znp P w ok top v x f1) (hs:Zac P w ok top vs xs f2):Zac P w ok top (v::vs) (x::xs) (f1++f2)
theorem Zac.length {P:Program} {w:World} {ok top:Nat->Prop} {vs:List Value} {xs:List V} {fp:List Nat} (h:Zac P w ok top vs xs fp):vs.length=xs.length:=by
 induction h with
 | nil=>rfl
 | cons _ _ ih=>simp[ih]
def Zio (P:Program) (w:World) (ok top:Nat->Prop) (u:Value) (cs:List V) (fp:List Nat):Prop:=∃g cur e fp',u=.pointer (some ⟨g,0,none⟩)/\w.heap[g]?=some (.cells cur e (0,0))/\Zac P w ok top cur.toList cs fp'/\fp=g::fp'/\top g
section
variable {P:Program} {B:Nat} {io:Nat->Prop} {w w':World} {tmps:Array Value} {s s':St} {ρ ρ':Rho} {F F':Id->List Nat} {fl fl':List Nat} {ok ok' top:Nat->Prop}
theorem X7.toRel (h:X7 P B io w tmps s ρ F fl ok) (Zy:∀g,ok g->okS s ρ w g):Rel P B io w tmps s ρ F fl:=
 {h with
  env:=λt v hv=>(h.env t v hv).ext Zy (λ_ _ h=>h)
  heap:=λid b hb=>(h.heap id b hb).ext Zy (λ_ _ h=>h)}
theorem X7.less (h:X7 P B io w tmps s ρ F fl ok) (hs:fl'.Sublist fl):X7 P B io w tmps s ρ F fl' ok:=
 {h with
  flMine:=λg hg=>h.flMine g (hs.subset hg)
  flApart:=λid b hb ho g hg Zm=>h.flApart id b hb ho g hg (hs.subset Zm)
  flOnce:=h.flOnce.sublist hs}
theorem X7.perm (h:X7 P B io w tmps s ρ F fl ok) (hs:fl'.Perm fl):X7 P B io w tmps s ρ F fl' ok:=
 {h with
  flMine:=λg hg=>h.flMine g (hs.mem_iff.1 hg)
  flApart:=λid b hb ho g hg Zm=>h.flApart id b hb ho g hg (hs.mem_iff.1 Zm)
  flOnce:=hs.nodup_iff.2 h.flOnce}
theorem X7.put (h:X7 P B io w tmps s ρ F fl ok) {p:Nat} {x:V} {u:Value} (hp:tmps[p]?=some u) (hx:En w ok ρ u x):X7 P B io w tmps (s.put (some p) x) ρ F fl ok:=
 {h with
  env:=λt v hv=>by
   simp only[St.put,upd];split
   .rename_i e;subst e;rw[hp] at hv;injection hv with hv;subst hv;exact hx
   .exact h.env t v hv
  out:=λt ht=>by
   simp only[St.put,upd];split
   .rename_i e;subst e
    have:=(Van.1 hp).1;omega
   .exact h.out t ht}
theorem X7.add {fp:List Nat} (h:X7 P B io w tmps s ρ F (fp++fl) ok) {id:Id} (hs:s.heap id=none) (Zu:id.1<=s.ep) (hρ:∀id' i,ρ id'=some i->ρ' id'=some i) (hρn:∀id',id'≠id->ρ' id'=ρ id') {b:Blk} (hB:Yi P w ok ρ' (ρ' id) fp b)
  (Yq:Zh2 (ρ' id)->∀g,fp.head?=some g->io g\/B<=g):X7 P B io w tmps (s.setB id b) ρ' (upd F id fp) fl ok:=by
 have K0:=Vat.1 h.flOnce;refine⟨λt v hv=>(h.env t v hv).ext (λ_ h=>h) hρ,h.out,λid' b' hb=>?_,λid' b' hb ho g hg=>?_,λid' b' hb ho Qc g hg=>?_,λid1 id2 b1 b2 K1 ho1 hb2 ho2 Zp g hg1 hg2=>?_,λid' b' hb ho=>?_,λid' hi=>?_,h.base0,λg hg=>h.flMine g (Vao _ hg),λid' b' hb ho g hg Zm=>?_,K0.2.1⟩
 .by_cases e:id'=id
  .subst e;rw[K6] at hb;injection hb with hb;subst hb;rw[Zl];exact hB
  .rw[Yn e] at hb;rw[hρn id' e,Zz e];exact (h.heap id' b' hb).ext (λ_ h=>h) hρ
 .by_cases e:id'=id
  .subst e;rw[Zl] at hg;exact h.flMine g (Vae _ hg)
  .rw[Yn e] at hb;rw[Zz e] at hg;exact h.mine id' b' hb ho g hg
 .by_cases e:id'=id
  .subst e;rw[Zl] at hg;exact Yq Qc g hg
  .rw[Yn e] at hb;rw[Zz e] at hg;rw[hρn id' e] at Qc;exact h.top id' b' hb ho Qc g hg
 .by_cases e1:id1=id
  .subst e1
   rw[Zl] at hg1;rw[Yn (Ne.symm Zp)] at hb2;rw[Zz (Ne.symm Zp)] at hg2;exact h.flApart id2 b2 hb2 ho2 g hg2 (Vae _ hg1)
  .rw[Yn e1] at K1
   rw[Zz e1] at hg1;by_cases e2:id2=id
   .subst e2
    rw[Zl] at hg2;exact h.flApart id1 b1 K1 ho1 g hg1 (Vae _ hg2)
   .rw[Yn e2] at hb2;rw[Zz e2] at hg2
    exact h.apart id1 id2 b1 b2 K1 ho1 hb2 ho2 Zp g hg1 hg2
 .by_cases e:id'=id
  .subst e;rw[Zl];exact K0.1
  .rw[Yn e] at hb;rw[Zz e];exact h.once id' b' hb ho
 .by_cases e:id'=id
  .subst e;exact Zu
  .rw[hρn id' e] at hi;exact h.dom id' hi
 .by_cases e:id'=id
  .subst e;rw[Zl] at hg;exact K0.2.2 g hg g Zm rfl
  .rw[Yn e] at hb;rw[Zz e] at hg;exact h.flApart id' b' hb ho g hg (Vao _ Zm)
structure Wh (P:Program) (B:Nat) (io:Nat->Prop) (w:World) (tmps:Array Value) (s:St) (ρ:Rho) (fl:List Nat) (ok top:Nat->Prop) (J:Id->Prop) (s':St) (ρ':Rho) (F':Id->List Nat):Prop where
 rel:X7 P B io w tmps s' ρ' F' fl ok
 ext:∀id i,ρ id=some i->ρ' id=some i
 dom:∀id,(ρ' id).isSome=true->(ρ id).isSome=true\/J id
 env:s'.env=s.env
 ep:s'.ep=s.ep
 heap:∀id,¬J id->s'.heap id=s.heap id
 tops:∀g,Ev.tops s' ρ' g->Ev.tops s ρ g\/top g
theorem Wh.trans {fl1:List Nat} {J K:Id->Prop} {s1 s2:St} {ρ1 ρ2:Rho} {F1 F2:Id->List Nat} (h1:Wh P B io w tmps s ρ fl1 ok top J s1 ρ1 F1) (h2:Wh P B io w tmps s1 ρ1 fl ok top K s2 ρ2 F2):Wh P B io w tmps s ρ fl ok top (λid=>J id\/K id) s2 ρ2 F2 where
 rel:=h2.rel
 ext:=λid i h=>h2.ext id i (h1.ext id i h)
 dom:=λid h=>by
  rcases h2.dom id h with h|h
  .rcases h1.dom id h with h|h
   .exact .inl h
   .exact .inr (.inl h)
  .exact .inr (.inr h)
 env:=h2.env.trans h1.env
 ep:=h2.ep.trans h1.ep
 heap:=λid h=>(h2.heap id λhk=>h (.inr hk)).trans (h1.heap id λhj=>h (.inl hj))
 tops:=λg h=>by
  rcases h2.tops g h with h|h
  .exact h1.tops g h
  .exact .inr h
theorem Wh.mono {J K:Id->Prop} {s1:St} {ρ1:Rho} {F1:Id->List Nat} (h:Wh P B io w tmps s ρ fl ok top J s1 ρ1 F1) (hJ:∀id,J id->K id):Wh P B io w tmps s ρ fl ok top K s1 ρ1 F1:=
 {h with
  dom:=λid hi=>(h.dom id hi).imp (λh=>h) (hJ id)
  heap:=λid hk=>h.heap id λhj=>hk (hJ id hj)}
theorem Wh.refl (h:X7 P B io w tmps s ρ F fl ok):Wh P B io w tmps s ρ fl ok top (λ_=>False) s ρ F:=
 ⟨h,λ_ _ h=>h,λ_ h=>.inl h,rfl,rfl,λ_ _=>rfl,λ_ h=>.inl h⟩
theorem Zic {id:Id} {b:Blk} (hρn:∀id',id'≠id->ρ' id'=ρ id') {g:Nat} (h:tops (s.setB id b) ρ' g):tops s ρ g\/(b.own=true/\∃o c sz,ρ' id=some (.blk g o c sz)):=by
 obtain⟨id',b',o,c,sz,hb,ho,hρ⟩:=h;by_cases e:id'=id
 .subst e;rw[K6] at hb;injection hb with hb;subst hb;exact .inr ⟨ho,o,c,sz,hρ⟩
 .rw[Yn e] at hb;rw[hρn id' e] at hρ;exact .inl ⟨id',b',o,c,sz,hb,ho,hρ⟩
theorem Z7r {fp:List Nat} (h:X7 P B io w tmps s ρ F (fp++fl) ok) {u:Value} {e:TypeId} {rows:List (List V)} (hO:OwT P w e u rows fp) (ht:∀g,fp.head?=some g->top g) (Yq:∀g,top g->io g\/B<=g) {id:Id} (Zg:ρ id=none) (hs:s.heap id=none) (Zu:id.1<=s.ep):
  ∃ρ' F',Wh P B io w tmps s ρ fl ok top (λid'=>id'=id) (s.setB id ⟨false,true,true,e,rows⟩) ρ' F'/\En w ok ρ' u (.sl id 0 rows.length):=by
 rcases hO with⟨A,rfl,rfl,rfl⟩|⟨g,o,c,cur,fp',rfl,hg,hl,hm,Wn,hz,hO,rfl⟩
 .refine⟨upd ρ id (some .emp),upd F id [],⟨h.add hs Zu (Wr Zg) (λid' e=>Zz e) (by rw[Zl];exact .mkEmp rfl rfl rfl rfl rfl) (λ_ g hg=>by simp at hg),Wr Zg,λid' hi=>?_,rfl,rfl,λid' e=>Yn e,λg hg=>?_⟩,.sle (by rw[Zl];rfl)⟩
  .by_cases e:id'=id
   .exact .inr e
   .rw[Zz e] at hi;exact .inl hi
  .rcases Zic (λid' e=>Zz e) hg with h1|⟨_,o,c,sz,h1⟩
   .exact .inl h1
   .rw[Zl] at h1;cases h1
 .refine⟨upd ρ id (some (.blk g o c (P.cellsOf e))),upd F id (g::fp'),⟨h.add hs Zu (Wr Zg) (λid' e=>Zz e) (by
   rw[Zl];exact .mkRow rfl rfl rfl hg hl hm Wn hz rfl (λ_=>hO) (λhf=>by cases hf)) (λ_ g' Zm=>Yq g' (ht g' Zm)),Wr Zg,λid' hi=>?_,rfl,rfl,λid' e=>Yn e,λg' Zm=>?_⟩,?_⟩
  .by_cases e:id'=id
   .exact .inr e
   .rw[Zz e] at hi;exact .inl hi
  .rcases Zic (λid' e=>Zz e) Zm with h1|⟨_,o',c',sz,h1⟩
   .exact .inl h1
   .rw[Zl] at h1
    injection h1 with h1;injection h1 with h1;subst h1;exact .inr (ht _ rfl)
  .have:=En.sl (w:=w) (ok:=ok) (off:=0) (len:=rows.length) (Zl ρ id (some (.blk g o c (P.cellsOf e)))) (by omega)
   simpa using this
theorem Zka {fp:List Nat} (h:X7 P B io w tmps s ρ F (fp++fl) ok) {u:Value} {x y:V} (hg:Giv P w ok top u x fp) (Yq:∀g,top g->io g\/B<=g) {id:Id} (Zg:ρ id=none) (hs:s.heap id=none) (Zu:id.1<=s.ep) (ht:s.takeCell id x=some (y,s')):
  ∃ρ' F',Wh P B io w tmps s ρ fl ok top (λid'=>id'=id) s' ρ' F'/\En w ok ρ' u y/\cellish y=true:=by
 cases hg with
 | lit hsc=>
  simp only[St.takeCell,ZZd,ZZe] at ht;obtain⟨rfl,rfl⟩:=ht;exact⟨ρ,F,(Wh.refl h).mono (λ_ h=>h.elim),.lit hsc,rfl⟩
 | tr hr=>
  simp only[St.takeCell,ZZd,ZZe] at ht;obtain⟨rfl,rfl⟩:=ht;exact⟨ρ,F,(Wh.refl h).mono (λ_ h=>h.elim),.tr hr,rfl⟩
 | own hO htp=>
  simp only[St.takeCell,ZZd,ZZe] at ht;obtain⟨rfl,rfl⟩:=ht;obtain⟨ρ',F',h1,h2⟩:=Z7r h hO htp Yq Zg hs Zu;exact⟨ρ',F',h1,h2,rfl⟩
theorem Zil {e:Nat}:∀(xs:List V) {us:List Value} {k:Nat} {fp fl:List Nat} {s s':St} {ρ:Rho} {F:Id->List Nat} {ys:List V},X7 P B io w tmps s ρ F (fp++fl) ok->Zbq P w ok top us xs fp->(∀g,top g->io g\/B<=g)->e<=s.ep->
  (∀j,k<=j->j < k+xs.length->ρ (e,j)=none/\s.heap (e,j)=none)->s.takeCells e k xs=some (ys,s')->
  ∃ρ' F',Wh P B io w tmps s ρ fl ok top (λid=>id.1=e/\k<=id.2/\id.2 < k+xs.length) s' ρ' F'/\us.length=ys.length/\(∀y∈ys,cellish y=true)/\(∀(j:Nat) (u:Value) (y:V),us[j]?=some u->ys[j]?=some y->En w ok ρ' u y):=by
 intro xs
 induction xs with
 | nil=>
  intro us k fp fl s s' ρ F ys h hg Yq Zu Z0 ht;cases hg;simp only[St.takeCells,ZZd,ZZe] at ht;obtain⟨rfl,rfl⟩:=ht;exact⟨ρ,F,(Wh.refl h).mono (λ_ h=>h.elim),rfl,by simp,λj u y hu=>by simp at hu⟩
 | cons x xs ih=>
  intro us k fp fl s s' ρ F ys h hg Yq Zu Z0 ht;cases hg with
  | @cons u _ us _ f1 f2 hg hgs=>
   simp only[St.takeCells] at ht;obtain⟨⟨y,s1⟩,h1,ht⟩:=ZZb.1 ht;obtain⟨⟨zs,s2⟩,h2,ht⟩:=ZZc.1 ht;simp only[ZZe] at ht;obtain⟨rfl,rfl⟩:=ht;simp only at h2;obtain⟨hn1,hn2⟩:=Z0 k (Vaf _) (by simp);obtain⟨ρ1,F1,t1,e1,c1⟩:=Zka (fl:=f2++fl) (by rw[<-List.append_assoc];exact h) hg Yq hn1 hn2 Zu h1;obtain⟨ρ2,F2,t2,l2,c2,e2⟩:=ih t1.rel hgs Yq (by rw[t1.ep];exact Zu) (λj hj Zs=>by
    obtain⟨a1,a2⟩:=Z0 j (by omega) (by simp only[Vad];omega);have Zp:¬((e,j):Id)=(e,k):=λhh=>by injection hh with _ hh;omega
    refine⟨?_,by rw[t1.heap _ Zp];exact a2⟩;cases hr:ρ1 (e,j) with
    | none=>rfl
    | some i=>
     rcases t1.dom (e,j) (by rw[hr];rfl) with hh|hh
     .rw[a1] at hh;cases hh
     .exact absurd hh Zp) h2
   refine⟨ρ2,F2,(t1.trans t2).mono (λid Zg=>?_),by simp[l2],λz hz=>?_,λj u' z hu hz=>?_⟩
   .rcases Zg with rfl|⟨a,b,c⟩
    .exact⟨rfl,Vaf _,by simp⟩
    .exact⟨a,by omega,by simp only[Vad];omega⟩
   .rcases Vap.1 hz with rfl|hz
    .exact c1
    .exact c2 z hz
   .cases j with
    | zero=>
     have a1:u=u':=by simpa using hu
     have a2:y=z:=by simpa using hz
     subst a1;subst a2;exact e1.ext (λ_ h=>h) t2.ext
    | succ j=>exact e2 j u' z (by simpa using hu) (by simpa using hz)
theorem Zrl {g:Nat} {J:Id->Prop} {s1:St} {ρ1:Rho} {F1:Id->List Nat} (t:Wh P B io w tmps s ρ ([g]++fl) ok top J s1 ρ1 F1) {id:Id} (Zu:id.1<=s.ep) (n1:ρ id=none) (n2:s.heap id=none) (hJ:¬J id) (Yq:∀g,top g->io g\/B<=g) (htg:top g)
  {cur:Array Value} {e':TypeId} {ys:List V} (hgc:w.heap[g]?=some (.cells cur e' (0,0))) (l:cur.toList.length=ys.length) (c:∀y∈ys,cellish y=true) (en:∀(j:Nat) (u:Value) (y:V),cur.toList[j]?=some u->ys[j]?=some y->En w ok ρ1 u y):
  ∃ρ' F',Wh P B io w tmps s ρ fl ok top (λi=>J i\/i=id) (s1.setB id ⟨true,true,true,0,[ys]⟩) ρ' F'/\En w ok ρ' (.pointer (some ⟨g,0,none⟩)) (.ptr id 0 0):=by
 have hn1:ρ1 id=none:=by
  cases hr:ρ1 id with
  | none=>rfl
  | some i=>
   rcases t.dom _ (by rw[hr];rfl) with hh|hh
   .rw[n1] at hh;cases hh
   .exact absurd hh hJ
 have hn2:s1.heap id=none:=by rw[t.heap _ hJ];exact n2
 have Zfj:=t.rel.add (fp:=[g]) (fl:=fl) (id:=id) (ρ':=upd ρ1 id (some (.blk g 0 1 ys.length))) (b:=⟨true,true,true,0,[ys]⟩) hn2 (by rw[t.ep];exact Zu) (Wr hn1) (λid' e=>Zz e) (by
  rw[Zl];exact .mkBox rfl rfl rfl hgc rfl (by simpa using l) (λj v z hv hz=>(en j v z (by simpa using hv) hz).ext (λ_ h=>h) (Wr hn1)) c rfl) (λ_ g' Zm=>by
  have:g=g':=by simpa using Zm
  subst this;exact Yq g htg)
 refine⟨_,_,⟨Zfj,λid i hi=>Wr hn1 id i (t.ext id i hi),λi hi=>?_,t.env,t.ep,λi Zg=>?_,λg' Zm=>?_⟩,?_⟩
 .by_cases e1:i=id
  .exact .inr (.inr e1)
  .rw[Zz e1] at hi
   exact (t.dom i hi).imp (λh=>h) .inl
 .rw[Yn (λhh=>Zg (.inr hh))]
  exact t.heap i (λhh=>Zg (.inl hh))
 .rcases Zic (λid' e=>Zz e) Zm with h3|⟨_,o,c',sz,h3⟩
  .exact t.tops g' h3
  .rw[Zl] at h3
   injection h3 with h3;injection h3 with h3;subst h3;exact .inr htg
 .have:=En.ptr (w:=w) (ok:=ok) (i:=0) (off:=0) (Zl ρ1 id (some (.blk g 0 1 ys.length)))
  simpa using this
theorem Zmj {fp:List Nat} (h:X7 P B io w tmps s ρ F (fp++fl) ok) {u:Value} {x y:V} (hg:Qw P w ok top u x fp) (Yq:∀g,top g->io g\/B<=g) {e k:Nat} (Zu:e<=s.ep) (Z0:∀j,k<=j->j < k+64->ρ (e,j)=none/\s.heap (e,j)=none) (ht:s.takeOne e k x=some (y,s')):
  ∃ρ' F',Wh P B io w tmps s ρ fl ok top (λid=>id.1=e/\k<=id.2/\id.2 < k+64) s' ρ' F'/\En w ok ρ' u y:=by
 have one:∀{x},Giv P w ok top u x fp->s.takeCell (e,k) x=some (y,s')->∃ρ' F',Wh P B io w tmps s ρ fl ok top (λid=>id.1=e/\k<=id.2/\id.2 < k+64) s' ρ' F'/\En w ok ρ' u y:=by
  intro x hg ht;obtain⟨a1,a2⟩:=Z0 k (Vaf _) (by omega);obtain⟨ρ',F',h1,h2,_⟩:=Zka h hg Yq a1 a2 Zu ht;exact⟨ρ',F',h1.mono (λid Zg=>by subst Zg;exact⟨rfl,Vaf _,by omega⟩),h2⟩
 unfold St.takeOne at ht;split at ht
 .rename_i cs
  split at ht
  .rename_i hl
   obtain⟨⟨ys,s1⟩,h1,ht⟩:=ZZc.1 ht;simp only[ZZe] at ht;obtain⟨rfl,rfl⟩:=ht;obtain⟨us,rfl,hgl⟩:=hg;obtain⟨ρ',F',t,l,c,en⟩:=Zil cs h hgl Yq Zu (λj hj Zs=>Z0 j hj (by omega)) h1;exact⟨ρ',F',t.mono (λid Zg=>⟨Zg.1,Zg.2.1,by omega⟩),.agg (by simpa using l) c (λj v z hv hz=>en j v z (by simpa using hv) hz)⟩
  .cases ht
 .rename_i cs
  split at ht
  .rename_i hl
   obtain⟨⟨ys,s1⟩,h1,ht⟩:=ZZc.1 ht;simp only[ZZe] at ht;obtain⟨rfl,rfl⟩:=ht;obtain⟨g,cur,e',fp',rfl,hgc,hgl,rfl,htg⟩:=hg;have Z4m:((fp'++([g]++fl)):List Nat).Perm (g::fp'++fl):=by
    exact Vch
   obtain⟨ρ1,F1,t,l,c,en⟩:=Zil cs (fl:=[g]++fl) (h.perm Z4m) hgl Yq Zu (λj hj Zs=>Z0 j hj (by omega)) h1;obtain⟨n1,n2⟩:=Z0 (k+63) (by omega) (by omega);obtain⟨ρ',F',t2,e2⟩:=Zrl t (id:=(e,k+63)) Zu n1 n2 (λhh=>by have:=hh.2.2;simp only at this;omega) Yq htg hgc l c en;refine⟨ρ',F',t2.mono λid Zg=>?_,e2⟩;rcases Zg with hh|rfl
   .exact⟨hh.1,hh.2.1,by omega⟩
   .exact⟨rfl,by simp,by simp⟩
  .cases ht
 .rename_i h1 h2
  exact one (by
   cases x with
   | agg cs=>exact absurd rfl (h1 cs)
   | obx cs=>exact absurd rfl (h2 cs)
   | _=>exact hg) ht
theorem Zzf {fp:List Nat} (h:X7 P B io w tmps s ρ F (fp++fl) ok) {u:Value} {x y:V} (hg:Znp P w ok top u x fp) (Yq:∀g,top g->io g\/B<=g) {e k:Nat} (Zu:e<=s.ep) (Z0:∀j,k<=j->j < k+wt1 x->ρ (e,j)=none/\s.heap (e,j)=none) (ht:s.takeCell2 e k x=some (y,s')):
  ∃ρ' F',Wh P B io w tmps s ρ fl ok top (λid=>id.1=e/\k<=id.2/\id.2 < k+wt1 x) s' ρ' F'/\En w ok ρ' u y/\cellish y=true:=by
 cases hg with
 | one hg=>
  have hx:wt1 x=1/\s.takeCell2 e k x=s.takeCell (e,k) x:=by cases hg<;>exact⟨rfl,rfl⟩
  rw[hx.2] at ht;obtain⟨a1,a2⟩:=Z0 k (Vaf _) (by omega);obtain⟨ρ',F',h1,h2,h3⟩:=Zka h hg Yq a1 a2 Zu ht;exact⟨ρ',F',h1.mono (λid Zg=>by subst Zg;exact⟨rfl,Vaf _,by rw[hx.1];omega⟩),h2,h3⟩
 | @box cs _ hg=>
  simp only[St.takeCell2] at ht;obtain⟨⟨ys,s1⟩,h1,ht⟩:=ZZc.1 ht;simp only[ZZe] at ht;obtain⟨rfl,rfl⟩:=ht;obtain⟨g,cur,e',fp',rfl,hgc,hgl,rfl,htg⟩:=hg;simp only[wt1] at Z0 ⊢;obtain⟨ρ1,F1,t,l,c,en⟩:=Zil cs (fl:=[g]++fl) (h.perm Vch) hgl Yq Zu (λj hj Zs=>Z0 j (by omega) (by omega)) h1;obtain⟨n1,n2⟩:=Z0 k (Vaf _) (by omega);obtain⟨ρ',F',t2,e2⟩:=Zrl t (id:=(e,k)) Zu n1 n2 (λhh=>by have:=hh.2.1;simp only at this;omega) Yq htg hgc l c en;refine⟨ρ',F',t2.mono λid Zg=>?_,e2,rfl⟩;rcases Zg with hh|rfl
  .exact⟨hh.1,by omega,by omega⟩
  .exact⟨rfl,Vaf _,by simp only;omega⟩
theorem Zm2 {e:Nat}:∀(xs:List V) {us:List Value} {k:Nat} {fp fl:List Nat} {s s':St} {ρ:Rho} {F:Id->List Nat} {ys:List V},X7 P B io w tmps s ρ F (fp++fl) ok->Zac P w ok top us xs fp->(∀g,top g->io g\/B<=g)->e<=s.ep->
  (∀j,k<=j->j < k+wt xs->ρ (e,j)=none/\s.heap (e,j)=none)->s.takeCells2 e k xs=some (ys,s')->
  ∃ρ' F',Wh P B io w tmps s ρ fl ok top (λid=>id.1=e/\k<=id.2/\id.2 < k+wt xs) s' ρ' F'/\us.length=ys.length/\(∀y∈ys,cellish y=true)/\(∀(j:Nat) (u:Value) (y:V),us[j]?=some u->ys[j]?=some y->En w ok ρ' u y):=by
 intro xs
 induction xs with
 | nil=>
  intro us k fp fl s s' ρ F ys h hg Yq Zu Z0 ht;cases hg;simp only[St.takeCells2,ZZd,ZZe] at ht;obtain⟨rfl,rfl⟩:=ht;exact⟨ρ,F,(Wh.refl h).mono (λ_ h=>h.elim),rfl,by simp,λj u y hu=>by simp at hu⟩
 | cons x xs ih=>
  intro us k fp fl s s' ρ F ys h hg Yq Zu Z0 ht;simp only[wt] at Z0 ⊢;cases hg with
  | @cons u _ us _ f1 f2 hg hgs=>
   simp only[St.takeCells2] at ht;obtain⟨⟨y,s1⟩,h1,ht⟩:=ZZb.1 ht;obtain⟨⟨zs,s2⟩,h2,ht⟩:=ZZc.1 ht;simp only[ZZe] at ht;obtain⟨rfl,rfl⟩:=ht;simp only at h2;obtain⟨ρ1,F1,t1,e1,c1⟩:=Zzf (fl:=f2++fl) (by rw[<-List.append_assoc];exact h) hg Yq Zu (λj hj Zs=>Z0 j hj (by omega)) h1;obtain⟨ρ2,F2,t2,l2,c2,e2⟩:=ih t1.rel hgs Yq (by rw[t1.ep];exact Zu) (λj hj Zs=>by
    obtain⟨a1,a2⟩:=Z0 j (by omega) (by omega);have Zp:¬(((e,j):Id).1=e/\k<=((e,j):Id).2/\((e,j):Id).2 < k+wt1 x):=λhh=>by have:=hh.2.2;simp only at this;omega
    refine⟨?_,by rw[t1.heap _ Zp];exact a2⟩;cases hr:ρ1 (e,j) with
    | none=>rfl
    | some i=>
     rcases t1.dom (e,j) (by rw[hr];rfl) with hh|hh
     .rw[a1] at hh;cases hh
     .exact absurd hh Zp) h2
   refine⟨ρ2,F2,(t1.trans t2).mono (λid Zg=>?_),by simp[l2],λz hz=>?_,λj u' z hu hz=>?_⟩
   .rcases Zg with⟨a,b,c⟩|⟨a,b,c⟩
    .exact⟨a,b,by omega⟩
    .exact⟨a,by omega,by omega⟩
   .rcases Vap.1 hz with rfl|hz
    .exact c1
    .exact c2 z hz
   .cases j with
    | zero=>
     have a1:u=u':=by simpa using hu
     have a2:y=z:=by simpa using hz
     subst a1;subst a2;exact e1.ext (λ_ h=>h) t2.ext
    | succ j=>exact e2 j u' z (by simpa using hu) (by simpa using hz)
theorem Z3r {fp:List Nat} (h:X7 P B io w tmps s ρ F (fp++fl) ok) {u:Value} {cs:List V} {y:V} (hg:Zio P w ok top u cs fp) (Yq:∀g,top g->io g\/B<=g) {e k:Nat} (Zu:e<=s.ep) (Z0:∀j,k<=j->j < k+64->ρ (e,j)=none/\s.heap (e,j)=none) (ht:s.takeTwo e k cs=some (y,s')):
  ∃ρ' F',Wh P B io w tmps s ρ fl ok top (λid=>id.1=e/\k<=id.2/\id.2 < k+64) s' ρ' F'/\En w ok ρ' u y/\y=.ptr (e,k+63) 0 0:=by
 unfold St.takeTwo at ht;split at ht
 .rename_i hl
  obtain⟨⟨ys,s1⟩,h1,ht⟩:=ZZc.1 ht;simp only[ZZe] at ht;obtain⟨rfl,rfl⟩:=ht;obtain⟨g,cur,e',fp',rfl,hgc,hgl,rfl,htg⟩:=hg;obtain⟨ρ1,F1,t,l,c,en⟩:=Zm2 cs (fl:=[g]++fl) (h.perm Vch) hgl Yq Zu (λj hj Zs=>Z0 j hj (by omega)) h1;obtain⟨n1,n2⟩:=Z0 (k+63) (by omega) (by omega);obtain⟨ρ',F',t2,e2⟩:=Zrl t (id:=(e,k+63)) Zu n1 n2 (λhh=>by have:=hh.2.2;simp only at this;omega) Yq htg hgc l c en;refine⟨ρ',F',t2.mono λid Zg=>?_,e2,rfl⟩;rcases Zg with hh|rfl
  .exact⟨hh.1,hh.2.1,by omega⟩
  .exact⟨rfl,by simp,by simp⟩
 .cases ht
end
def Wj (s s':St) (ρ:Rho) (F:Id->List Nat) (g:Nat):Prop:=∃id b,s.heap id=some b/\b.own=true/\s'.heap id=none/\(F id).head?=some g/\Zh2 (ρ id)
structure Yt (s s':St):Prop where
 env:s'.env=s.env
 ep:s'.ep=s.ep
 sub:∀id b,s'.heap id=some b->s.heap id=some b
theorem Yt.refl (s:St):Yt s s:=⟨rfl,rfl,λ_ _ h=>h⟩
theorem Yt.trans {a b c:St} (h:Yt a b) (k:Yt b c):Yt a c:=⟨k.env.trans h.env,k.ep.trans h.ep,λid x hx=>h.sub id x (k.sub id x hx)⟩
theorem Yt.none {a b:St} (h:Yt a b) {id:Id} (hn:a.heap id=none):b.heap id=none:=by
 cases hb:b.heap id with
 | none=>rfl
 | some x=>rw[h.sub id x hb] at hn;cases hn
theorem Yt.kill (s:St) (id:Id):Yt s (s.kill id):=⟨rfl,rfl,λ_ _ h=>Kf h⟩
theorem Wj.left {a b c:St} {ρ:Rho} {F:Id->List Nat} {g:Nat} (h:Wj a b ρ F g) (k:Yt b c):Wj a c ρ F g:=by
 obtain⟨id,x,h1,h2,h3,h4⟩:=h;exact⟨id,x,h1,h2,k.none h3,h4⟩
theorem Wj.right {a b c:St} {ρ:Rho} {F:Id->List Nat} {g:Nat} (h:Wj b c ρ F g) (k:Yt a b):Wj a c ρ F g:=by
 obtain⟨id,x,h1,h2,h3,h4⟩:=h;exact⟨id,x,k.sub id x h1,h2,h3,h4⟩
theorem Giv.top {P:Program} {w:World} {ok top top':Nat->Prop} {v:Value} {x:V} {fp:List Nat} (h:Giv P w ok top v x fp) (ht:∀g,top g->top' g):Giv P w ok top' v x fp:=by
 cases h with
 | lit h=>exact .lit h
 | tr h=>exact .tr h
 | own h k=>exact .own h λg hg=>ht g (k g hg)
theorem Zbq.top {P:Program} {w:World} {ok top top':Nat->Prop} {v:List Value} {x:List V} {fp:List Nat} (h:Zbq P w ok top v x fp) (ht:∀g,top g->top' g):Zbq P w ok top' v x fp:=by
 induction h with
 | nil=>exact .nil
 | cons h _ ih=>exact .cons (h.top ht) ih
theorem Qw.top {P:Program} {w:World} {ok top top':Nat->Prop} {v:Value} {x:V} {fp:List Nat} (h:Qw P w ok top v x fp) (ht:∀g,top g->top' g):Qw P w ok top' v x fp:=by
 cases x
 case agg cs=>obtain⟨us,h1,h2⟩:=h;exact⟨us,h1,h2.top ht⟩
 case obx cs=>obtain⟨g,cur,e,fp',h1,h2,h3,h4,h5⟩:=h;exact⟨g,cur,e,fp',h1,h2,h3.top ht,h4,ht g h5⟩
 all_goals exact Giv.top h ht
theorem Znp.top {P:Program} {w:World} {ok top top':Nat->Prop} {v:Value} {x:V} {fp:List Nat} (h:Znp P w ok top v x fp) (ht:∀g,top g->top' g):Znp P w ok top' v x fp:=by
 cases h with
 | one h=>exact .one (h.top ht)
 | box h=>exact .box (Qw.top h ht)
theorem Zac.top {P:Program} {w:World} {ok top top':Nat->Prop} {v:List Value} {x:List V} {fp:List Nat} (h:Zac P w ok top v x fp) (ht:∀g,top g->top' g):Zac P w ok top' v x fp:=by
 induction h with
 | nil=>exact .nil
 | cons h _ ih=>exact .cons (h.top ht) ih
theorem Zio.top {P:Program} {w:World} {ok top top':Nat->Prop} {u:Value} {cs:List V} {fp:List Nat} (h:Zio P w ok top u cs fp) (ht:∀g,top g->top' g):Zio P w ok top' u cs fp:=by
 obtain⟨g,cur,e,fp',h1,h2,h3,h4,h5⟩:=h;exact⟨g,cur,e,fp',h1,h2,h3.top ht,h4,ht g h5⟩
section
variable {P:Program} {B:Nat} {io:Nat->Prop} {w w':World} {tmps:Array Value} {s s' s1:St} {ρ ρ':Rho} {F F':Id->List Nat} {fl fl':List Nat} {ok ok' top:Nat->Prop}
theorem Zd5 (h:Yt s s') {g:Nat} (hg:okS s ρ w g):okS s' ρ w g:=
 ⟨λ⟨id,b,o,c,sz,h1,h2,h3⟩=>hg.1 ⟨id,b,o,c,sz,h.sub id b h1,h2,h3⟩,hg.2⟩
theorem Rel.head_tops (h:Rel P B io w tmps s ρ F fl) {id:Id} {b:Blk} {g:Nat} (hb:s.heap id=some b) (ho:b.own=true) (hg:(F id).head?=some g):tops s ρ g:=by
 have hB:=h.heap id b hb;unfold Yi at hB;split at hB
 .obtain⟨_,g',cur,e,row,hi,_,_,_,_,_,hF⟩:=hB
  rw[hF] at hg;have:g'=g:=by simpa using hg
  subst this;exact⟨id,b,_,_,_,hb,ho,hi⟩
 .rcases hB with⟨_,_,hF⟩|⟨g',o',c',cur,hi,_,_,_,_,_,fp,hF,_⟩
  .rw[hF] at hg;simp at hg
  .rw[hF] at hg
   have:g'=g:=by simpa using hg
   subst this;exact⟨id,b,_,_,_,hb,ho,hi⟩
 .rename_i h2;rw[ho] at h2;cases h2
theorem Zgl (h:Rel P B io w tmps s ρ F fl) {u:Value} {x y:V} {t:Option TypeId} (hu:En w ok ρ u x) (Zy:∀g,ok g->okS s ρ w g) (hg:s.giveCell t x=some (y,s')):
  ∃fp,Rel P B io w tmps s' ρ F (fp++fl)/\Giv P w ok (Wj s s' ρ F) u y fp/\Yt s s':=by
 unfold St.giveCell at hg;split at hg
 .obtain⟨e,_,he⟩:=ZZc.1 hg
  simp only[ZZe] at he;obtain⟨rfl,rfl⟩:=he;cases hu;exact⟨[],h,.own (.inl ⟨none,rfl,rfl,rfl⟩) (λg hg=>by simp at hg),.refl _⟩
 .simp only[ZZd,ZZe] at hg
  obtain⟨rfl,rfl⟩:=hg;cases hu with|lit hs=>exact⟨[],h,.lit hs,.refl _⟩
 .simp only[ZZd,ZZe] at hg
  obtain⟨rfl,rfl⟩:=hg;cases hu with|tr hr=>exact⟨[],h,.tr hr,.refl _⟩
 .simp only[ZZd,ZZe] at hg
  obtain⟨rfl,rfl⟩:=hg;cases hu with|vw hr=>exact⟨[],h,.tr hr,.refl _⟩
 .rename_i id off len
  obtain⟨⟨e,rows⟩,hw,he⟩:=ZZc.1 hg;simp only[ZZe] at he;obtain⟨rfl,rfl⟩:=he;obtain⟨fp,hR,hO,hh⟩:=h.whole2 (hu.ext Zy (λ_ _ h=>h)) hw;refine⟨fp,hR,.own hO (λg hg=>?_),.kill s id⟩;unfold St.whole at hw;obtain⟨b,hb,hw⟩:=ZZb.1 hw;split at hw
  .rename_i hc
   exact⟨id,b,hb,hc.2.1,Xo,(hh g hg).1,(hh g hg).2⟩
  .cases hw
 .cases hg
theorem Zog:∀(xs:List V) {us:List Value} {ts:List (Option TypeId)} {s s':St} {fl:List Nat} {ys:List V},Rel P B io w tmps s ρ F fl->us.length=xs.length->(∀(j:Nat) (u:Value) (x:V),us[j]?=some u->xs[j]?=some x->En w ok ρ u x)->
  (∀g,ok g->okS s ρ w g)->s.giveCells ts xs=some (ys,s')->∃fp,Rel P B io w tmps s' ρ F (fp++fl)/\Zbq P w ok (Wj s s' ρ F) us ys fp/\Yt s s'/\ys.length=xs.length:=by
 intro xs
 induction xs with
 | nil=>
  intro us ts s s' fl ys h hl Yh Zy hg;have:us=[]:=Var (by simpa using hl);subst this;simp only[St.giveCells,ZZd,ZZe] at hg;obtain⟨rfl,rfl⟩:=hg;exact⟨[],h,.nil,.refl _,rfl⟩
 | cons x xs ih=>
  intro us ts s s' fl ys h hl Yh Zy hg
  match us,hl with
  | u::us,hl=>
   simp only[St.giveCells] at hg;obtain⟨⟨y,s1⟩,h1,hg⟩:=ZZb.1 hg;obtain⟨⟨zs,s2⟩,h2,hg⟩:=ZZc.1 hg;simp only[ZZe] at hg;obtain⟨rfl,rfl⟩:=hg;simp only at h2;obtain⟨f1,r1,g1,l1⟩:=Zgl h (Yh 0 u x rfl rfl) Zy h1;obtain⟨f2,r2,g2,l2,l3⟩:=ih r1 (by simpa using hl) (λj v z hv hz=>Yh (j+1) v z (by simpa using hv) (by simpa using hz)) (λg hg=>Zd5 l1 (Zy g hg)) h2;refine⟨f1++f2,r2.perm ?_,.cons (g1.top λg hg=>hg.left l2) (g2.top λg hg=>hg.right l1),l1.trans l2,by simp[l3]⟩;rw[List.append_assoc];exact (Vbm _ _ _)
theorem Zl2 (h:Rel P B io w tmps s ρ F fl) {ts:List (Option TypeId)} {u:Value} {x y:V} (hu:En w ok ρ u x) (Zy:∀g,ok g->okS s ρ w g) (hg:s.giveArg ts x=some (y,s')):
  ∃fp,Rel P B io w tmps s' ρ F (fp++fl)/\Qw P w ok (Wj s s' ρ F) u y fp/\Yt s s':=by
 unfold St.giveArg at hg;split at hg
 .rename_i cs
  obtain⟨⟨ys,s1⟩,h1,he⟩:=ZZc.1 hg;simp only[ZZe] at he;obtain⟨rfl,rfl⟩:=he;cases hu with
  | @agg vs _ hl hc hr=>
   obtain⟨fp,a,b,c,_⟩:=Zog cs (us:=vs.toList) h (by simpa using hl) (λj v z hv hz=>hr j v z (by simpa using hv) hz) Zy h1;exact⟨fp,a,⟨vs,rfl,b⟩,c⟩
 .rename_i Zp
  obtain⟨fp,a,b,c⟩:=Zgl h hu Zy hg;refine⟨fp,a,?_,c⟩;cases b with
  | lit h=>exact .lit h
  | tr h=>exact .tr h
  | own h k=>exact .own h k
theorem Zsy (h:Rel P B io w tmps s ρ F fl) {ts:List (Option TypeId)} {u:Value} {id:Id} {ys:List V} (hu:En w ok ρ u (.ptr id 0 0)) (Zy:∀g,ok g->okS s ρ w g) (hbx:∀b row,s.heap id=some b->b.rows=[row]->b.box=true->∀(j:Nat) (cur:Array Value) (e:TypeId) (g o c sz:Nat) (v:Value) (x:V),ρ id=some (.blk g o c sz)->w.heap[g]?=some (.cells cur e (0,0))->cur[j]?=some v->row[j]?=some x->En w ok ρ v x)
  (hg:s.giveBox ts id=some (ys,s')):∃fp,Rel P B io w tmps s' ρ F (fp++fl)/\Qw P w ok (Wj s s' ρ F) u (.obx ys) fp/\Yt s s'/\∃g,ρ id=some (.blk g 0 1 ys.length):=by
 unfold St.giveBox at hg;obtain⟨b,hb,hg⟩:=ZZb.1 hg;split at hg
 .rename_i hc
  obtain⟨Yf,Zo⟩:=hc;split at hg
  .rename_i row hr
   have hB:=h.heap id b hb;unfold Yi at hB;rw[Yf] at hB;obtain⟨_,g,cur,e,row',hi,hgc,Wl,hs,he,hce,hF⟩:=hB;rw[hr] at Wl;injection Wl with Wl _;subst Wl;have J2:=h.float hb Zo;obtain⟨fp,a,b',c,d⟩:=Zog row (us:=cur.toList) J2 (by simpa using hs) (λj v z hv hz=>hbx b row hb hr Yf j cur e g _ _ _ v z hi hgc (by simpa using hv) hz) (λg hg=>Zd5 (.kill s id) (Zy g hg)) hg;rw[hF] at a;refine⟨g::fp,a.perm (Vch (l₁:=fp) (l₂:=fl)).symm,?_,(Yt.kill s id).trans c,g,by rw[d];exact hi⟩;generalize hq:(V.ptr id 0 0)=q at hu;cases hu<;>cases hq;rename_i g' o' c' sz hρ;rw[hi] at hρ;injection hρ with hρ;injection hρ with h1 h2 h3 h4;subst h1;subst h2;refine⟨g,cur,e,fp,by simp,hgc,b'.top (λg hg=>hg.right (.kill s id)),rfl,⟨id,b,hb,Zo,c.none Xo,by rw[hF];rfl,g,0,1,_,hi,Nat.one_pos⟩⟩
  .cases hg
 .cases hg
def Zd9 (w:World) (ok:Nat->Prop) (ρ:Rho) (s:St):Prop:=∀(id:Id) b row,s.heap id=some b->b.rows=[row]->b.box=true->∀(j:Nat) (cur:Array Value) (e:TypeId) (g o c sz:Nat) (v:Value) (x:V),ρ id=some (.blk g o c sz)->w.heap[g]?=some (.cells cur e (0,0))->cur[j]?=some v->row[j]?=some x->En w ok ρ v x
theorem Zd9.less (h:Zd9 w ok ρ s) (hl:Yt s s'):Zd9 w ok ρ s':=λid b row hb=>h id b row (hl.sub id b hb)
theorem Zyl (h:Rel P B io w tmps s ρ F fl) {u:Value} {x y:V} {t:Option TypeId} (hu:En w ok ρ u x) (Zy:∀g,ok g->okS s ρ w g) (hbx:Zd9 w ok ρ s) (hg:s.giveCell2 t x=some (y,s')):
  ∃fp,Rel P B io w tmps s' ρ F (fp++fl)/\Znp P w ok (Wj s s' ρ F) u y fp/\Yt s s':=by
 unfold St.giveCell2 at hg;split at hg
 .rename_i id
  obtain⟨⟨cs,s4⟩,h3,he⟩:=ZZc.1 hg;simp only[ZZe] at he;obtain⟨rfl,rfl⟩:=he;obtain⟨fp,a,b,c,_⟩:=Zsy h hu Zy (hbx id) h3;exact⟨fp,a,.box b,c⟩
 .obtain⟨fp,a,b,c⟩:=Zgl h hu Zy hg
  exact⟨fp,a,.one b,c⟩
theorem Zw2:∀(xs:List V) {us:List Value} {ts:List (Option TypeId)} {s s':St} {fl:List Nat} {ys:List V},Rel P B io w tmps s ρ F fl->us.length=xs.length->(∀(j:Nat) (u:Value) (x:V),us[j]?=some u->xs[j]?=some x->En w ok ρ u x)->
  (∀g,ok g->okS s ρ w g)->Zd9 w ok ρ s->s.giveCells2 ts xs=some (ys,s')->∃fp,Rel P B io w tmps s' ρ F (fp++fl)/\Zac P w ok (Wj s s' ρ F) us ys fp/\Yt s s'/\ys.length=xs.length:=by
 intro xs
 induction xs with
 | nil=>
  intro us ts s s' fl ys h hl Yh Zy _ hg;have:us=[]:=Var (by simpa using hl);subst this;simp only[St.giveCells2,ZZd,ZZe] at hg;obtain⟨rfl,rfl⟩:=hg;exact⟨[],h,.nil,.refl _,rfl⟩
 | cons x xs ih=>
  intro us ts s s' fl ys h hl Yh Zy hbx hg
  match us,hl with
  | u::us,hl=>
   simp only[St.giveCells2] at hg;obtain⟨⟨y,s1⟩,h1,hg⟩:=ZZb.1 hg;obtain⟨⟨zs,s2⟩,h2,hg⟩:=ZZc.1 hg;simp only[ZZe] at hg;obtain⟨rfl,rfl⟩:=hg;simp only at h2;obtain⟨f1,r1,g1,l1⟩:=Zyl h (Yh 0 u x rfl rfl) Zy hbx h1;obtain⟨f2,r2,g2,l2,l3⟩:=ih r1 (by simpa using hl) (λj v z hv hz=>Yh (j+1) v z (by simpa using hv) (by simpa using hz)) (λg hg=>Zd5 l1 (Zy g hg)) (hbx.less l1) h2;refine⟨f1++f2,r2.perm ?_,.cons (g1.top λg hg=>hg.left l2) (g2.top λg hg=>hg.right l1),l1.trans l2,by simp[l3]⟩;rw[List.append_assoc];exact (Vbm _ _ _)
theorem Zqt (h:Rel P B io w tmps s ρ F fl) {ts:List (Option TypeId)} {u:Value} {id:Id} {ys:List V} (hu:En w ok ρ u (.ptr id 0 0)) (Zy:∀g,ok g->okS s ρ w g) (hbx:Zd9 w ok ρ s)
  (hg:s.giveBox2 ts id=some (ys,s')):∃fp,Rel P B io w tmps s' ρ F (fp++fl)/\Zio P w ok (Wj s s' ρ F) u ys fp/\Yt s s'/\∃g,ρ id=some (.blk g 0 1 ys.length):=by
 unfold St.giveBox2 at hg;obtain⟨b,hb,hg⟩:=ZZb.1 hg;split at hg
 .rename_i hc
  obtain⟨Yf,Zo⟩:=hc;split at hg
  .rename_i row hr
   have hB:=h.heap id b hb;unfold Yi at hB;rw[Yf] at hB;obtain⟨_,g,cur,e,row',hi,hgc,Wl,hs,he,hce,hF⟩:=hB;rw[hr] at Wl;injection Wl with Wl _;subst Wl;have J2:=h.float hb Zo;obtain⟨fp,a,b',c,d⟩:=Zw2 row (us:=cur.toList) J2 (by simpa using hs) (λj v z hv hz=>hbx id b row hb hr Yf j cur e g _ _ _ v z hi hgc (by simpa using hv) hz) (λg hg=>Zd5 (.kill s id) (Zy g hg)) (hbx.less (.kill s id)) hg;rw[hF] at a;refine⟨g::fp,a.perm (Vch (l₁:=fp) (l₂:=fl)).symm,?_,(Yt.kill s id).trans c,g,by rw[d];exact hi⟩;generalize hq:(V.ptr id 0 0)=q at hu;cases hu<;>cases hq;rename_i g' o' c' sz hρ;rw[hi] at hρ;injection hρ with hρ;injection hρ with h1 h2 h3 h4;subst h1;subst h2;refine⟨g,cur,e,fp,by simp,hgc,b'.top (λg hg=>hg.right (.kill s id)),rfl,⟨id,b,hb,Zo,c.none Xo,by rw[hF];rfl,g,0,1,_,hi,Nat.one_pos⟩⟩
  .cases hg
 .cases hg
end
end Go.Proofs.YthdljdelfgofdaaGreatDoor.Ev
