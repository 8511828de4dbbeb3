/- A part of the proof of FnDeskWorks: see the text YthdljdelfgofdaaGreatDoorLawFnDeskWorks for what is proved and its conditions. Conditions here: those in each line. -/
import Derived.Below
import Derived.Calls
import Derived.Great.BuildSlice
import Derived.Laws.Append
import Derived.Laws.AppendOwn
import Derived.Laws.BytesString
import Derived.Laws.Cells
import Derived.Laws.CopyRow
import Derived.Laws.Entries
import Derived.Laws.MakeOwn
import Derived.Laws.NewBlocks
import Derived.Laws.Rows
import Derived.Laws.Sem
import Derived.Laws.Slices
import Derived.Laws.Tables
import Derived.Orders
import Derived.Test.YthdljdelfgofdaaGreatDoorProg
set_option linter.unusedSimpArgs false
set_option linter.unusedVariables false
set_option linter.unusedSectionVars false
namespace Go.Proofs.YthdljdelfgofdaaGreatDoor.Ev
open Go
abbrev AU:=@List.length_cons
abbrev Bo:=@List.length_nil
abbrev B5:=@List.getElem_mem
abbrev BJ:=@List.mem_cons_self
abbrev CB:=@List.getElem?_eq_getElem
abbrev Cp:=@List.mem_cons_of_mem
abbrev B2:=@Nat.le_refl
abbrev Cw:=@List.length_pos_iff
abbrev BU:=@List.mem_append
abbrev Cy:=@List.length_append
abbrev CC:=@List.mem_append_left
abbrev D5:=@List.drop_eq_getElem_cons
abbrev Ce:=@List.mem_cons
abbrev Ds:=@List.mem_append_right
abbrev D6:=@List.take_of_length_le
abbrev Dg:=@List.getElem?_take
abbrev Cf:=@Nat.zero_le
abbrev Var:=@Array.getElem?_eq_getElem
abbrev C7:=@List.map_cons
abbrev Dt:=@List.getElem?_map
abbrev EX:=@List.getElem?_append_left
abbrev FE:=@List.getElem?_append_right
abbrev D7:=@List.getElem?_drop
abbrev EY:=@Option.isSome_iff_exists
abbrev Gz:=@List.eq_nil_of_length_eq_zero
abbrev Eh:=@List.mem_of_getElem?
abbrev EZ:=@List.drop_eq_nil_of_le
abbrev DV:=@List.flatten_cons
abbrev D8:=@Option.map_some
abbrev Du:=@Bool.not_true
abbrev HE:=@Array.getElem?_eq_some_iff
abbrev EE:=@List.nodup_append
abbrev FX:=@List.mem_of_mem_drop
abbrev FY:=@List.mem_of_mem_take
abbrev Fa:=@List.flatMap_cons
abbrev Dx:=@List.mem_map
abbrev Im:=@List.sublist_append_right
abbrev DW:=@List.all_cons
abbrev Fb:=@List.take_length
abbrev EF:=@List.nodup_cons
abbrev HF:=@List.getElem?_of_mem
abbrev FZ:=@List.length_take
abbrev Ga:=@Option.getD_some
abbrev Hc:=@Nat.lt_of_lt_of_le
abbrev Gb:=@List.append_nil
abbrev FF:=@Bool.not_false
abbrev G0:=@List.map_append
abbrev N2:=@List.getD_eq_getElem?_getD
abbrev Pg:=@Array.getD_eq_getD_getElem?
abbrev Ph:=@List.perm_append_comm_assoc
abbrev HG:=@List.foldl_cons
abbrev Io:=@List.cons_append
abbrev Ip:=@List.not_mem_nil
abbrev Hd:=@Bool.true_and
abbrev LU:=@List.mem_replicate
abbrev N3:=@Nat.mul_le_mul_right
abbrev He:=@Nat.add_zero
abbrev Hf:=@List.map_nil
abbrev Hg:=@List.map_map
abbrev Iq:=@Bool.false_and
abbrev KH:=@List.length_map
abbrev KI:=@List.length_set
abbrev KJ:=@List.nil_append
abbrev Pj:=@Bool.or_eq_false_iff
abbrev N4:=@List.Sublist.refl
abbrev N5:=@Int.toNat_natCast
abbrev N6:=@Bool.not_eq_true'
abbrev Pk:=@List.map_congr_left
abbrev Pm:=@List.getElem_of_mem
abbrev KK:=@Bool.and_true
abbrev SZ:=@List.getElem?_eq_none
abbrev Ta:=@List.length_filter_le
abbrev Pn:=@Option.isSome_some
abbrev LV:=@List.drop_zero
abbrev Vj:=@List.mem_or_eq_of_mem_set
abbrev KL:=@Nat.succ_mul
abbrev KN:=@Nat.lt_or_ge
abbrev N7:=@Bool.or_eq_true
abbrev Po:=@Function.comp_def
abbrev LW:=@Bool.and_self
abbrev Vk:=@Nat.add_sub_cancel_left
abbrev gC:=@Array.getElem?_setIfInBounds
abbrev G1:=@Eq.trans
abbrev Vl:=@List.drop_of_length_le
abbrev LX:=@Nat.le_trans
abbrev Tb:=@Int.emod_lt_of_pos
abbrev Vm:=@Classical.choose_spec
abbrev Pp:=@List.mem_filter
abbrev gD:=@Array.getElem?_append_left
abbrev N8:=@List.any_cons
abbrev Tc:=@List.foldl_append
abbrev Vn:=@Nat.pow_le_pow_right
abbrev LY:=@Int.le_refl
abbrev Td:=@List.perm_middle
abbrev Vo:=@List.Sublist.append
abbrev Te:=@Int.emod_nonneg
abbrev Vp:=@List.ext_getElem?
abbrev gE:=@List.getElem?_toArray
abbrev gF:=@List.perm_append_comm
abbrev Pq:=@Nat.zero_add
abbrev gG:=@Array.getElem?_toList
abbrev gH:=@List.take_append_drop
abbrev gI:=@List.length_replicate
abbrev Vq:=@Nat.mod_eq_of_lt
abbrev gJ:=@BitVec.ofInt_natCast
abbrev Vr:=@List.flatten_nil
abbrev Vs:=@List.flatMap_def
abbrev Vt:=@List.cons.injEq
abbrev gK:=@List.filter_append
abbrev Tf:=@Nat.pow_succ
abbrev Tg:=@Int.mul_comm
abbrev gL:=@BitVec.toNat_ofNat
abbrev Vu:=@List.mem_range
abbrev Vv:=@Bool.and_false
abbrev tY:=@Classical.axiomOfChoice
abbrev tZ:=@Int.eq_ofNat_of_zero_le
abbrev uA:=@Array.getElem?_eq_none
abbrev Vw:=@Bool.false_or
abbrev gM:=@Nat.le_of_not_lt
abbrev gN:=@List.length_drop
abbrev gO:=@List.mem_flatten
abbrev gP:=@List.cons_ne_nil
abbrev gQ:=@List.countP_cons
abbrev gR:=@List.getElem_map
abbrev Vx:=@List.all_nil
abbrev gS:=@Option.map_none
abbrev uB:=@List.range_eq_range'
abbrev Vy:=@Int.min_comm
abbrev uC:=@List.mem_of_mem_tail
abbrev Vdv:=@List.take_append_of_le_length
abbrev uD:=@List.drop_succ_cons
abbrev uE:=@List.getElem?_range
abbrev uF:=@List.flatMap_append
abbrev gT:=@List.foldl_nil
abbrev uG:=@List.getElem_range
abbrev uH:=@Nat.pos_of_ne_zero
abbrev uI:=@Nat.eq_zero_or_pos
abbrev Vd3:=@Int.tmod_eq_emod_of_nonneg
abbrev uJ:=@List.length_range
abbrev uK:=@Array.size_append
abbrev Vz:=@Array.ext'
abbrev Vd7:=@List.pairwise_iff_getElem
abbrev uL:=@Nat.lt_of_not_le
abbrev gU:=@Nat.add_comm
abbrev gV:=@Nat.zero_mul
abbrev uM:=@List.range'_succ
abbrev Vec:=@List.getElem?_cons_succ
abbrev Ved:=@List.getElem?_replicate
abbrev Vee:=@List.Perm.append_right
abbrev Vef:=@List.sublist_cons_self
abbrev Veg:=@List.filter_eq_nil_iff
abbrev Veh:=@Array.mem_of_getElem?
abbrev Vei:=@List.countP_le_length
abbrev uN:=@Int.mul_nonneg
abbrev uO:=@Bool.or_false
abbrev uP:=@Bool.not_not
theorem Ag {α β : Type} {a : α} {f : α -> Option β} : (some a).bind f = f a := rfl
theorem A8 {α β : Type} {x : Option α} {f : α -> Option β} {b : β} : x.bind f = some b ↔ ∃ a, x = some a /\ f a = some b := Option.bind_eq_some_iff
theorem AL {α β : Type} {x : Option α} {f : α -> β} {b : β} : x.map f = some b ↔ ∃ a, x = some a /\ f a = b := Option.map_eq_some_iff
theorem AB {α : Type} (a b : α) : (some a = some b) = (a = b) := Option.some.injEq a b
theorem Bn : (false = true) = False := Bool.false_eq_true
theorem Bg (a b : Bool) : ((a && b) = true) = (a = true /\ b = true) := Bool.and_eq_true a b
theorem CZ {α : Type} {l : List α} {i : Nat} {a : α} : l[i]? = some a ↔ ∃ h : i < l.length, l[i] = a := List.getElem?_eq_some_iff
theorem Ak {c : Prop} {h : Decidable c} (hn : ¬c) {α : Type} {t e : α} : ite c t e = e := if_neg hn
theorem Aj {c : Prop} {h : Decidable c} (hn : c) {α : Type} {t e : α} : ite c t e = t := if_pos hn
theorem Cd {α : Type} {p : α -> Bool} {l : List α} : l.all p = true ↔ ∀ x, x ∈ l -> p x = true := List.all_eq_true
theorem Bj {p : Prop} [Decidable p] : (decide p = true) = p := decide_eq_true_eq
theorem A6 {α β : Type} (a : α) (b : β) (c : α) (d : β) : ((a, b) = (c, d)) = (a = c /\ b = d) := Prod.mk.injEq a b c d
abbrev Id:=Nat×Nat
inductive V where
 | undef
 | lit (v:Value)
 | agg (cs:List V)
 | AZ (vs:List V)
 | ptr (id:Id) (i off:Nat)
 | rp (sh:Bool) (row:List V) (off:Nat)
 | sl (id:Id) (off len:Nat)
 | tr (rows:List (List V))
 | vw (rows:List (List V))
 | own (e:TypeId) (rows:List (List V))
 | CL (cs:List V)
 | fn (f:FuncId) (Bu:List V)
 deriving Inhabited
structure Bc where
 box:Bool
 own:Bool
 cl:Bool
 el:TypeId
 rows:List (List V)
structure St where
 env:Nat->V
 heap:Id->Option Bc
 ep:Nat
def Bi {α β:Type} [DecidableEq α] (f:α->β) (a:α) (b:β):α->β:=λx=>if x=a then b else f x
def St.put (s:St) (dst:Option Tmp) (v:V):St:=match dst with|some d=>{s with env:=Bi s.env d v}|none=>s
def St.A5 (s:St) (id:Id) (b:Bc):St:={s with heap:=Bi s.heap id (some b)}
def St.kill (s:St) (id:Id):St:={s with heap:=Bi s.heap id none}
def eval? {α:Type} (P:Program):Sem α->Option α
 | .pure a=>some a
 | .program k=>eval? P (k P)
 | _=>none
def D9:Value->Bool
 | .bool _|.int _ _|.string _|.float _ _|.pointer none|.slice none 0 0|.nilFunc|.nilIface=>true
 | _=>false
def EG:List V->Option (List Value)
 | []=>some []
 | .lit v::r=>(EG r).map (v::·)
 | _=>none
def Qp:V->Option Value
 | .lit v=>some v
 | .agg cs=>(EG cs).map λl=>.agg l.toArray
 | _=>none
def G2:Value->Option V
 | .agg cs=>if cs.toList.all D9 then some (.agg (cs.toList.map .lit)) else none
 | v=>if D9 v then some (.lit v) else none
def St.AP (s:St):Operand->V
 | .tmp t=>s.env t
 | .const v=>(G2 v).getD .undef
 | .func f=>.fn f []
 | .global _=>.undef
def Th {α:Type}:List (Option α)->Option (List α)
 | []=>some []
 | some a::r=>(Th r).map (a::·)
 | none::_=>none
def N9:Op->Bool
 | .binOp ..|.unOp ..|.convert ..|.index ..|.slice ..|.field ..=>true
 | .call {callee:=.builtin .len,..}|.call {callee:=.builtin .min,..}|.call {callee:=.builtin .max,..}=>true
 | _=>false
def Qc (P:Program) (v:Operand->V) (o:Oper):Option V:=
 if N9 o.op&&o.op.operands.toList.all (λx=>(Qp (v x)).isSome) then
  match eval? P (execOp (λx=>(Qp (v x)).getD undef) o) with
  | some (.value v)=>G2 v
  | _=>none
 else none
def HH (P:Program) (t:TypeId):Bool:=match P.underlying t with|some (.struct _)|some (.array _ _)=>true|_=>false
def Pr (P:Program) (t:TypeId):Bool:=match P.underlying t with|some (.pointer _)=>true|_=>false
def Z4 (P:Program) (t:TypeId):Nat:=P.cellsOf t
def Fc (P:Program) (t:TypeId):Option (List V):=((P.info? t).bind (·.zero)).bind λz=>if z.cells.toList.all D9 then some (z.cells.toList.map .lit) else none
def Qu (P:Program) (t:TypeId):Option TypeId:=match P.underlying t with|some (.slice e)=>some e|_=>none
def uQ (P:Program) (t:TypeId) (k:Nat):Option Nat:=match P.underlying t with|some (.struct fs)=>(fs[k]?).bind λf=>if P.cellsOf f.type=0 then none else some f.offset|_=>none
def EH:V->V
 | .lit (.slice none 0 0)=>.tr []
 | x=>x
def LZ:V->Option (List V)
 | .agg cs=>some cs
 | .AZ _|.undef|.own _ _|.CL _=>none
 | x=>some [x]
def AD:V->Bool
 | .lit _|.tr _|.vw _|.rp ..|.ptr ..|.sl ..|.fn ..=>true
 | _=>false
def St.rowsOf (s:St):V->Option (List (List V))
 | .sl id off len=>(s.heap id).bind λb=>if b.box=false/\off+len<=b.rows.length then some ((b.rows.drop off).take len) else none
 | .tr rows|.vw rows=>some rows
 | .lit (.slice none 0 0)=>some []
 | _=>none
def St.whole (s:St) (id:Id) (off len:Nat):Option (TypeId×List (List V)):=
 (s.heap id).bind λb=>if b.box=false/\b.own=true/\b.cl=true/\off+len<=b.rows.length then some (b.el,(b.rows.drop off).take len) else none
def St.sink (s:St):List V->Option (List V×Bool×St)
 | []=>some ([],true,s)
 | x::r=>
  match x with
  | .lit (.slice none 0 0)=>(s.sink r).map λy=>(.tr []::y.1,y.2)
  | .lit v=>(s.sink r).map λy=>(.lit v::y.1,y.2)
  | .tr rows|.vw rows=>(s.sink r).map λy=>(.tr rows::y.1,false,y.2.2)
  | .sl id off len=>match s.whole id off len with
   | some er=>((s.kill id).sink r).map λy=>(.tr er.2::y.1,y.2)
   | none=>match s.heap id with
    | some b=>if b.own=false then (s.rowsOf (.sl id off len)).bind λrows=>(s.sink r).map λy=>(.tr rows::y.1,false,y.2.2) else none
    | none=>none
  | _=>none
def St.Bp (s:St):List (List V)->Option (List (List V)×Bool×St)
 | []=>some ([],true,s)
 | row::r=>(s.sink row).bind λy=>(y.2.2.Bp r).map λz=>(y.1::z.1,y.2.1&&z.2.1,z.2.2)
def Dh (l:List V) (off:Nat) (vs:List V):List V:=l.take off++vs++l.drop (off+vs.length)
def KO (P:Program) (t:TypeId) (cs:List V):Option V:=
 if (P.underlying t).isSome then if HH P t then some (.agg cs) else match cs with|[x]=>some x|_=>none else none
def gW (P:Program):Nat->TypeId->List (Option TypeId)
 | 0,_=>[]
 | n+1,t=>match P.underlying t with
  | some (.struct fs)=>fs.toList.flatMap λf=>gW P n f.type
  | some (.array k e)=>(List.replicate k (gW P n e)).flatten
  | some (.slice e)=>[some e]
  | _=>[none]
def Ti (P:Program) (t:TypeId):List (Option TypeId):=match P.underlying t with|some (.pointer e)=>gW P 9 e|_=>gW P 9 t
inductive Yu where
 | rd|io|mv|Ey
 deriving DecidableEq
def St.BA (s:St):V->Option V
 | .lit (.slice none 0 0)=>some (.tr [])
 | .lit v=>some (.lit v)
 | .tr rows|.vw rows=>some (.tr rows)
 | .sl id off len=>(s.rowsOf (.sl id off len)).map .tr
 | .rp _ row off=>some (.rp true row off)
 | _=>none
def St.B0 (s:St):List V->Option (List V)
 | []=>some []
 | x::r=>(s.BA x).bind λy=>(s.B0 r).map (y::·)
def St.Br (s:St):V->Option V
 | .ptr id i off=>(s.heap id).bind λb=>if b.own=true then (b.rows[i]?).bind λrow=>(s.B0 row).map λcs=>.rp true cs off else none
 | x=>s.BA x
def St.By (s:St):List V->Option (List V)
 | []=>some []
 | x::r=>(s.Br x).bind λy=>(s.By r).map (y::·)
def St.C1 (s:St):V->Option V
 | .agg cs=>(s.B0 cs).map .agg
 | .fn f Bu=>(s.By Bu).map (.fn f)
 | x=>s.Br x
def St.Cn (s:St) (m:Yu) (x:V):Option V:=match m with|.rd=>s.C1 x|_=>some x
def St.BL (s:St):List Yu->List V->Option (List V)
 | _,[]=>some []
 | ms,x::r=>(s.Cn (ms.headD .rd) x).bind λy=>(s.BL ms.tail r).map (y::·)
def St.A9 (s:St) (t:Option TypeId):V->Option (V×St)
 | .lit (.slice none 0 0)=>t.map λe=>(.own e [],s)
 | .lit v=>some (.lit v,s)
 | .tr rows|.vw rows=>some (.tr rows,s)
 | .sl id off len=>(s.whole id off len).map λer=>(.own er.1 er.2,s.kill id)
 | _=>none
def St.AK (s:St):List (Option TypeId)->List V->Option (List V×St)
 | _,[]=>some ([],s)
 | ts,x::r=>(s.A9 (ts.headD none) x).bind λy=>(y.2.AK ts.tail r).map λz=>(y.1::z.1,z.2)
def St.Ba (s:St) (ts:List (Option TypeId)):V->Option (V×St)
 | .agg cs=>(s.AK ts cs).map λy=>(.agg y.1,y.2)
 | x=>s.A9 (ts.headD none) x
def BV:V->V
 | .sl _ _ 0=>.tr []
 | x=>x
def thin:V->V
 | .agg cs=>.agg (cs.map BV)
 | x=>BV x
def St.Bv (s:St) (ts:List (Option TypeId)) (id:Id):Option (List V×St):=
 (s.heap id).bind λb=>if b.box=true/\b.own=true then match b.rows with
  | [row]=>(s.kill id).AK ts row
  | _=>none else none
def St.Bh (s:St) (t:Option TypeId):V->Option (V×St)
 | .ptr id 0 0=>(s.Bv [] id).map λy=>(.CL y.1,y.2)
 | x=>s.A9 t x
def St.AQ (s:St):List (Option TypeId)->List V->Option (List V×St)
 | _,[]=>some ([],s)
 | ts,x::r=>(s.Bh (ts.headD none) x).bind λy=>(y.2.AQ ts.tail r).map λz=>(y.1::z.1,z.2)
def St.Bd (s:St) (ts:List (Option TypeId)) (id:Id):Option (List V×St):=
 (s.heap id).bind λb=>if b.box=true/\b.own=true then match b.rows with
  | [row]=>(s.kill id).AQ ts row
  | _=>none else none
def St.Dd (s:St) (ts:List (Option TypeId)) (m:Yu) (x:V):Option (V×St):=
 match m with
 | .rd=>some (x,s)
 | .io=>match x with
  | .ptr id 0 0=>(s.Bd ts id).map λy=>(.agg y.1,y.2)
  | _=>none
 | .mv=>s.Ba ts x
 | .Ey=>s.Ba ts (thin x)
def St.Bs (P:Program) (s:St):List TypeId->List Yu->List V->Option (List V×St)
 | _,_,[]=>some ([],s)
 | ts,ms,x::r=>(s.Dd (Ti P (ts.headD 0)) (ms.headD .rd) x).bind λy=>(y.2.Bs P ts.tail ms.tail r).map λz=>(y.1::z.1,z.2)
def St.AS (s:St) (id:Id):V->Option (V×St)
 | .own e rows=>some (.sl id 0 rows.length,s.A5 id ⟨false,true,true,e,rows⟩)
 | .lit v=>some (.lit v,s)
 | .tr rows=>some (.tr rows,s)
 | _=>none
def St.AM (s:St) (e:Nat):(k:Nat)->List V->Option (List V×St)
 | _,[]=>some ([],s)
 | k,x::r=>(s.AS (e,k) x).bind λy=>(y.2.AM e (k+1) r).map λz=>(y.1::z.1,z.2)
def St.Bb (s:St) (e k:Nat):V->Option (V×St)
 | .agg cs=>if cs.length<=62 then (s.AM e k cs).map λy=>(.agg y.1,y.2) else none
 | .CL cs=>if cs.length<=62 then (s.AM e k cs).map λy=>(.ptr (e,k+63) 0 0,y.2.A5 (e,k+63) ⟨true,true,true,0,[y.1]⟩) else none
 | x=>s.AS (e,k) x
def St.Bw (s:St) (e:Nat):(k:Nat)->List V->Option (List V×St)
 | _,[]=>some ([],s)
 | k,x::r=>(s.Bb e (64*k) x).bind λy=>(y.2.Bw e (k+1) r).map λz=>(y.1::z.1,z.2)
def St.BB (s:St) (e k:Nat):V->Option (V×St)
 | .AZ vs=>if vs.length<=8 then (s.Bw e k vs).map λy=>(.AZ y.1,y.2) else none
 | x=>s.Bb e (64*k) x
def KQ:V->Nat
 | .CL cs=>cs.length+1
 | _=>1
def wt:List V->Nat
 | []=>0
 | x::r=>KQ x+wt r
def St.B1 (s:St) (e k:Nat):V->Option (V×St)
 | .CL cs=>(s.AM e (k+1) cs).map λy=>(.ptr (e,k) 0 0,y.2.A5 (e,k) ⟨true,true,true,0,[y.1]⟩)
 | x=>s.AS (e,k) x
def St.AW (s:St) (e:Nat):(k:Nat)->List V->Option (List V×St)
 | _,[]=>some ([],s)
 | k,x::r=>(s.B1 e k x).bind λy=>(y.2.AW e (k+KQ x) r).map λz=>(y.1::z.1,z.2)
def St.BC (s:St) (e k:Nat) (cs:List V):Option (V×St):=
 if wt cs<=62 then (s.AW e k cs).map λy=>(.ptr (e,k+63) 0 0,y.2.A5 (e,k+63) ⟨true,true,true,0,[y.1]⟩) else none
def St.AO (s:St):List V->List V->Option St
 | [],_=>some s
 | .sl id 0 _::os,.own e rows::ns=>(s.A5 id ⟨false,true,true,e,rows⟩).AO os ns
 | _::os,_::ns=>s.AO os ns
 | _::_,[]=>none
def St.back (s:St) (m:Yu) (e k:Nat) (x o:V):Option St:=
 match m with
 | .rd|.mv=>some s
 | .io=>match x,o with
  | .ptr id 0 0,.agg cs=>if wt cs<=62 then (s.AW e (64*k) cs).map λy=>y.2.A5 id ⟨true,true,true,0,[y.1]⟩ else none
  | _,_=>none
 | .Ey=>match thin x,o with
  | .agg cs,.agg ns=>s.AO cs ns
  | x,o=>s.AO [x] [o]
def St.BE (s:St) (e:Nat):List Yu->(k:Nat)->List V->List V->Option St
 | _,_,[],_=>some s
 | ms,k,x::xs,o::os=>(s.back (ms.headD .rd) e k x o).bind λs=>s.BE e ms.tail (k+1) xs os
 | _,_,_::_,[]=>none
abbrev Ki:=FuncId->List V->Option (V×List V)
def Hh (n:Nat) (rows:List (List V)):Bool:=rows.all λr=>r.length == n
def Ma:V->Bool|.lit _=>true|_=>false
def Fe (rows:List (List V)):Bool:=rows.all λr=>r.all Ma
def St.Cq (s:St) (all:Bool):V->Option (List (List V)×Bool×St)
 | .sl id off len=>match (if id.1=s.ep\/all=true then s.whole id off len else none) with
  | some er=>some (er.2,true,s.kill id)
  | none=>(s.rowsOf (.sl id off len)).map λrows=>(rows,Fe rows,s)
 | x=>(s.rowsOf x).map λrows=>(rows,Fe rows,s)
def Mb (P:Program) (e:TypeId):Bool:=match (P.info? e).bind (·.zero) with|some z=>z.cells.size == P.cellsOf e|none=>false
def NA (P:Program) (all:Bool) (s:St) (id:Id) (t:TypeId) (b x:V):Option (V×St):=
 (Qu P t).bind λe=>
 (s.Cq all x).bind λm=>
 if Hh (Z4 P e) m.1=true/\Z4 P e≠0/\Mb P e=true then
  match b with
  | .lit (.slice none 0 0)=>if m.1.length*P.bytesOf e<=140737488355328/\m.1.length<=9223372036854775807 then some (.sl id 0 m.1.length,m.2.2.A5 id ⟨false,true,m.2.1,e,m.1⟩) else none
  | .sl i off len=>(m.2.2.heap i).bind λk=>
   if k.box=false/\k.own=true/\off+len=k.rows.length/\k.el=e/\(len+m.1.length)*P.bytesOf e<=140737488355328/\len+m.1.length<=9223372036854775807 then
    some (.sl id 0 (len+m.1.length),(m.2.2.kill i).A5 id ⟨false,true,k.cl&&m.2.1,e,k.rows.drop off++m.1⟩)
   else none
  | _=>none
 else none
def Wz:V->Option Nat
 | .lit (.int _ n)=>if 0<=n then some n.toNat else none
 | _=>none
def NB (P:Program) (s:St) (t:TypeId) (x:V) (lo hi:Option V):Option V:=
 (Qu P t).bind λe=>(s.rowsOf x).bind λrows=>
 let l:=match lo with|some v=>Wz v|none=>some 0
 let h:=match hi with|some v=>Wz v|none=>some rows.length
 l.bind λl=>h.bind λh=>if l<=h/\h<=rows.length/\Hh (Z4 P e) rows=true/\Z4 P e≠0 then
  match x with
  | .sl id off _=>some (.sl id (off+l) (h - l))
  | .tr rows=>some (.tr ((rows.drop l).take (h - l)))
  | .vw rows=>some (.vw ((rows.drop l).take (h - l)))
  | _=>none
 else none
def Ir (P:Program) (place:Nat->Option (Nat×Nat)) (cells:List V):List (Nat×V)->Option (List V)
 | []=>some cells
 | (i,v)::rest=>(place i).bind λp=>(LZ v).bind λcs=>
  if cs.length=p.2/\p.1+p.2<=cells.length then Ir P place (Dh cells p.1 cs) rest else none
def Is (sz:Nat):Nat->List V->List (List V)
 | 0,_=>[]
 | n+1,l=>l.take sz::Is sz n (l.drop sz)
def NC (rows:List (List V)):Option (List UInt8):=Th (rows.map λr=>match r with|[.lit (.int .u8 n)]=>some (UInt8.ofNat n.toNat)|_=>none)
def uR (P:Program) (t:TypeId):Bool:=match P.underlying t with|some (.int _)=>true|_=>false
structure X6 where
 AV:FuncId->List Yu
 mv:String->Bool
def Ps:V->Bool|.tr _=>true|_=>false
def Iu:V->Bool|.CL cs=>cs.any Ps|x=>Ps x
def HI:V->Bool|.agg cs|.CL cs=>cs.any Iu|x=>Iu x
def Pt:V->Bool|.AZ vs=>vs.any HI|x=>HI x
def ND:V->Bool
 | .lit _|.tr _|.vw _|.rp ..=>true
 | _=>false
def plain:V->Bool
 | .agg cs|.fn _ cs=>cs.all ND
 | x=>ND x
def uS (m:Yu) (x:V):Bool:=match m with|.rd=>plain x|_=>true
def Iv:List Yu->List V->Bool
 | _,[]=>true
 | ms,x::r=>uS (ms.headD .rd) x&&Iv ms.tail r
def KR (P:Program) (M:X6) (C:Ki) (s:St) (k:Nat) (g:FuncId) (args:List V):Option (V×St):=
 if args.length<=8 then
  (s.Bs P (((P.funcs[g]?).map (·.params.toList)).getD []) (M.AV g) args).bind λy=>(y.2.BL (M.AV g) y.1).bind λxs=>(C g xs).bind λr=>
   if (Pt r.1||r.2.any HI)&&!Iv (M.AV g) args then none else
   (y.2.BE s.ep (M.AV g) (16*k+8) args r.2).bind λs'=>s'.BB s.ep (16*k) r.1
 else none
def Xj (P:Program) (M:X6) (C:Ki) (v:Operand->V) (s:St) (k:Nat) (o:Oper):Option (V×St):=
 let CD (x:Option V):Option (V×St):=x.map λy=>(y,s)
 let id:Id:=(s.ep,1024*k)
 match o.op with
 | .move x|.assign x=>match v x with|.undef=>none|y=>some (y,s)
 | .pick c a b=>match v c with|.lit (.bool c)=>some (if c then v a else v b,s)|_=>none
 | .extract t i=>match v t with|.AZ vs=>CD vs[i]?|_=>none
 | .nilCheck x=>match v x with|.ptr i j n=>some (.ptr i j n,s)|.rp b r n=>some (.rp b r n,s)|.fn f cs=>some (.fn f cs,s)|_=>none
 | .alloc t=>(Fc P t).map λz=>(.ptr id 0 0,s.A5 id ⟨true,true,true,t,[z]⟩)
 | .box t x=>(LZ (v x)).bind λcs=>if cs.length=Z4 P t then some (.ptr id 0 0,s.A5 id ⟨true,true,true,t,[cs]⟩) else none
 | .build t parts=>(Fc P t).bind λz=>match P.underlying t with
  | some (.struct fs)=>if fs.toList.all (λf=>(P.info? f.type).isSome)=false then none else (Ir P (λi=>(fs[i]?).map λf=>(f.offset,P.cellsOf f.type)) z (parts.toList.map λp=>(p.1,v p.2))).map λcs=>(.agg cs,s)
  | _=>none
 | .buildSlice t n parts=>(Qu P t).bind λe=>
  let sz:=Z4 P e
  (if n*sz=0 then some [] else Fc P e).bind λz=>
  if sz=0\/n*sz > 1048576\/Mb P e=false then none else
  (Ir P (λi=>some (i*sz,sz)) (List.replicate n z).flatten (parts.toList.map λp=>(p.1,v p.2))).bind λcs=>
   (s.Bp (Is sz n cs)).map λy=>(.sl id 0 n,y.2.2.A5 id ⟨false,true,y.2.1,e,y.1⟩)
 | .load t a=>match v a with
  | .ptr i j n=>(s.heap i).bind λb=>(b.rows[j]?).bind λrow=>if n+Z4 P t<=row.length then CD (KO P t ((row.drop n).take (Z4 P t))) else none
  | .rp sh row n=>if n+Z4 P t<=row.length then CD (KO P t ((row.drop n).take (Z4 P t))) else none
  | _=>none
 | .store t a x=>match v a with
  | .ptr i j n=>(s.heap i).bind λb=>(b.rows[j]?).bind λrow=>(LZ (v x)).bind λcs=>
   if b.own=true/\cs.length=Z4 P t/\n+Z4 P t<=row.length/\Z4 P t≠0 then
    if b.box then some (.undef,s.A5 i {b with rows:=b.rows.set j (Dh row n cs)})
    else (s.sink cs).bind λy=>match y.2.2.heap i with
     | some b=>some (.undef,y.2.2.A5 i {b with cl:=b.cl&&y.2.1,rows:=b.rows.set j (Dh row n y.1)})
     | none=>none
   else none
  | _=>none
 | .fieldAddr t x f=>(uQ P t f).bind λoff=>match v x with
  | .ptr i j n=>some (.ptr i j (n+off),s)
  | .rp b row n=>some (.rp b row (n+off),s)
  | _=>none
 | .indexAddr t x ix=>(Qu P t).bind λe=>if Z4 P e=0 then none else (Wz (v ix)).bind λn=>match v x with
  | .sl i off len=>if n < len then (s.heap i).bind λb=>(b.rows[off+n]?).bind λrow=>if row.length=Z4 P e then some (.ptr i (off+n) 0,s) else none else none
  | .tr rows=>(rows[n]?).bind λrow=>if row.length=Z4 P e then some (.rp true row 0,s) else none
  | .vw rows=>(rows[n]?).bind λrow=>if row.length=Z4 P e then some (.rp false row 0,s) else none
  | _=>none
 | .slice t x lo hi none=>match v x with
  | .sl ..|.tr _|.vw _=>CD (NB P s t (v x) (lo.map v) (hi.map v))
  | _=>CD (Qc P v o)
 | .makeSlice t l c=>(Qu P t).bind λe=>(Fc P e).bind λz=>(Wz (v l)).bind λn=>(Wz (v c)).bind λm=>
  if n=m/\n*P.bytesOf e<=70368744177664/\n<=9223372036854775807/\z.length=Z4 P e/\Z4 P e≠0 then some (.sl id 0 n,s.A5 id ⟨false,true,true,e,List.replicate n (z.map EH)⟩) else none
 | .makeFunc (.func f) first Bu=>if first.size=0 then some (.fn f (Bu.toList.map v),s) else none
 | .convert src dst x=>match v x with
  | .lit _=>CD (Qc P v o)
  | y=>match P.underlying src,P.underlying dst with
   | some (.slice e),some .string=>match P.underlying e with
    | some (.int .u8)=>(s.rowsOf y).bind λrows=>(NC rows).map λbs=>(.lit (.string ⟨bs.toArray⟩),s)
    | _=>none
   | some (.slice _),some (.slice _)=>none
   | _,_=>none
 | .call c=>match c.callee with
  | .builtin .append=>match c.args.toList,c.argTypes.toList with
   | [b,x],[t,t']=>if t=t' then NA P (M.mv o.pos) s id t (v b) (v x) else none
   | _,_=>none
  | .builtin .len=>match c.args.toList,c.argTypes.toList with
   | [x],[t]=>match v x with
    | .sl _ _ n=>if (Qu P t).isSome then some (.lit (.int .i64 n),s) else none
    | .tr rows|.vw rows=>if (Qu P t).isSome then some (.lit (.int .i64 rows.length),s) else none
    | _=>CD (Qc P v o)
   | _,_=>none
  | .builtin .clear=>match c.args.toList,c.argTypes.toList with
   | [x],[t]=>(Qu P t).bind λe=>(Fc P e).bind λz=>match v x with
    | .sl i off n=>(s.heap i).bind λb=>if b.own=true/\b.box=false/\off+n<=b.rows.length/\b.el=e/\z.length=Z4 P e/\Z4 P e≠0 then
      some (.AZ [],s.A5 i {b with rows:=b.rows.take off++List.replicate n (z.map EH)++b.rows.drop (off+n)}) else none
    | _=>none
   | _,_=>none
  | .builtin _=>CD (Qc P v o)
  | .value f=>match v f with
   | .fn g Bu=>KR P M C s k g (c.args.toList.map v++Bu)
   | _=>none
  | _=>none
 | .binOp op t x y _=>match v x,v y with
  | .lit _,.lit _|.agg _,_|_,.agg _=>CD (Qc P v o)
  | .ptr ..,.lit (.pointer none)=>if Pr P t then match op with
   | .eql=>some (.lit (.bool false),s)
   | .neq=>some (.lit (.bool true),s)
   | _=>none
   else none
  | a,.lit (.slice none 0 0)|.lit (.slice none 0 0),a=>if (Qu P t).isSome=false then none else match op,s.rowsOf a with
   | .eql,some (_::_)=>some (.lit (.bool false),s)
   | .neq,some (_::_)=>some (.lit (.bool true),s)
   | _,_=>none
  | _,_=>none
 | _=>CD (Qc P v o)
def Iw (P:Program) (M:X6) (C:Ki) (s:St) (k:Nat) (o:Oper):Option (V×St):=Xj P M C s.AP s k o
def wanted (s:St) (ops:Array Oper) (o:Oper):Option Bool:=
 match o.guard with
 | none=>some true
 | some (j,b)=>match ((ops[j]?).bind (·.dst)).map s.env with
  | some (.lit (.bool c))=>some (c == b)
  | some (.AZ [])=>some false
  | _=>none
def FG (P:Program) (M:X6) (C:Nat->Ki) (ops:Array Oper) (s:St):(k:Nat)->List Oper->Option St
 | _,[]=>some s
 | k,o::rest=>
  (wanted s ops o).bind λg=>
  if g then (Iw P M (C k) s k o).bind λy=>FG P M C ops (y.2.put o.dst y.1) (k+1) rest
  else FG P M C ops (s.put o.dst (.AZ [])) (k+1) rest
def V0:V->List Id
 | .sl id _ _|.ptr id _ _=>[id]
 | _=>[]
def ids:V->List Id
 | .agg cs|.fn _ cs=>cs.flatMap V0
 | x=>V0 x
def St.deep (s:St) (id:Id):List Id:=match s.heap id with|some b=>if b.box then b.rows.flatMap (λr=>r.flatMap ids) else []|none=>[]
def St.storeT (s:St) (d:List Id):V->List Id
 | .ptr i _ _=>match s.heap i with
  | some b=>match b.box,b.rows with
   | true,[_]=>[i]
   | _,_=>d
  | none=>d
 | _=>d
def BW (s:St) (o:Oper):List Id:=
 let d:=o.op.operands.toList.flatMap λx=>ids (s.AP x)
 match o.op with
 | .store _ a _=>s.storeT d (s.AP a)
 | .load ..|.indexAddr ..|.slice ..|.convert ..|.buildSlice ..|.binOp ..=>d
 | .call {callee:=.value _,..}=>let e:=d.flatMap s.deep;d++e++e.flatMap s.deep
 | .call _=>d
 | _=>[]
def Ix (M:X6) (f:Operand->V) (o:Oper):Bool:=
 match o.op with
 | .store ..|.buildSlice ..=>true
 | .call c=>match c.callee with
  | .builtin .append|.builtin .clear=>true
  | .value x=>match f x with|.fn g _=>(M.AV g).any λm=>m != .rd|_=>true
  | _=>false
 | _=>false
structure Rec where
 pre:List Nat
 T:List Id
 w:Bool
def St.only (s:St) (T:List Id):St:={s with heap:=λid=>if T.contains id then s.heap id else none}
def W2 (e k:Nat) (id:Id):Bool:=id.1 == e&&id.2 / 1024 == k
def St.merge (s:St) (k:Nat) (T:List Id) (w:Bool) (y:St):St:={s with heap:=λid=>if W2 s.ep k id||(w&&T.contains id) then y.heap id else s.heap id}
def KT (recs:List Rec) (o:Oper):List Nat:=((o.after.toList.filter (Region.binds .any ·)).flatMap λe=>e.on::((recs[e.on]?).map (·.pre)).getD []).eraseDups
def Mc (ops:Array Oper) (e:Nat) (recs:List Rec) (pr:List Nat) (k:Nat) (o:Oper) (T:List Id) (w:Bool):Bool:=
 (o.after.toList.all λa=>!Region.binds .any a||decide (a.on < k))&&T.all (λid=>!(id.1 == e&&decide (k<=id.2 / 1024)))&&
 recs.zipIdx.all λp=>pr.contains p.2||
  (match ops[p.2]? with|some q=>q.apart ops o|none=>false)&&T.all (λid=>!W2 e p.2 id)&&p.1.T.all (λid=>!W2 e k id)&&(!(p.1.w||w)||T.all (λid=>!p.1.T.contains id))
def Ff (P:Program) (M:X6) (C:Nat->Ki) (ops:Array Oper) (s:St) (recs:List Rec):(k:Nat)->List Oper->Option St
 | _,[]=>some s
 | k,o::rest=>
  let pr:=KT recs o
  (wanted s ops o).bind λg=>
  if g then
   let T:=BW s o
   let w:=Ix M s.AP o
   if Mc ops s.ep recs pr k o T w then (Xj P M (C k) s.AP (s.only T) k o).bind λy=>Ff P M C ops ((s.merge k T w y.2).put o.dst y.1) (recs++[⟨pr,T,w⟩]) (k+1) rest else none
  else if Mc ops s.ep recs pr k o [] false then Ff P M C ops (s.put o.dst (.AZ [])) (recs++[⟨pr,[],false⟩]) (k+1) rest else none
inductive Ex where
 | normal|ret|exit (n:Nat)
 deriving DecidableEq
def G3 (P:Program) (s:St):List ResultVar->Option (List V)
 | []=>some []
 | .tmp t::r=>match s.env t with|.undef=>none|x=>(G3 P s r).map (x::·)
 | .cell a t::r=>match s.env a with
  | .ptr i j n=>(s.heap i).bind λb=>(b.rows[j]?).bind λrow=>if n+Z4 P t<=row.length then (KO P t ((row.drop n).take (Z4 P t))).bind λx=>(G3 P s r).map (x::·) else none
  | _=>none
def St.BD (s:St) (ts:List (Option TypeId)):V->Option (V×St)
 | .agg cs=>(s.AK ts cs).map λy=>(.agg y.1,y.2)
 | .ptr id 0 0=>(s.Bv ts id).map λy=>(.CL y.1,y.2)
 | x=>s.A9 (ts.headD none) x
def St.liftAll (P:Program) (s:St):List TypeId->List V->Option (List V×St)
 | _,[]=>some ([],s)
 | ts,x::r=>(s.BD (Ti P (ts.headD 0)) x).bind λy=>(y.2.liftAll P ts.tail r).map λz=>(y.1::z.1,z.2)
def St.enter (s:St) (p:Nat) (m:Yu) (x:V):Option St:=
 if p < 1000 then match m with
 | .rd=>some (s.put (some p) x)
 | .io=>match x with
  | .agg cs=>(s.BC 0 (64*p) cs).map λy=>y.2.put (some p) y.1
  | _=>none
 | .mv|.Ey=>match x with
  | .CL _=>none
  | x=>(s.Bb 0 (64*p) x).map λy=>y.2.put (some p) y.1
 else none
def St.enters (s:St):(p:Nat)->List Yu->List V->Option St
 | _,_,[]=>some s
 | p,ms,x::r=>(s.enter p (ms.headD .rd) x).bind λs=>s.enters (p+1) ms.tail r
def St.AY (s:St) (p:Nat):(k:Nat)->List V->Option (List V×St)
 | _,[]=>some ([],s)
 | k,.own e rows::r=>(s.whole (0,64*p+k) 0 rows.length).bind λer=>if er.1=e then ((s.kill (0,64*p+k)).AY p (k+1) r).map λz=>(.own er.1 er.2::z.1,z.2) else none
 | k,_::r=>(s.AY p (k+1) r).map λz=>(.undef::z.1,z.2)
def St.out (s:St) (p:Nat) (ts:List (Option TypeId)) (m:Yu) (x:V):Option (V×St):=
 match m with
 | .rd|.mv=>some (.undef,s)
 | .io=>match x with
  | .agg cs=>(s.Bd ts (0,64*p+63)).bind λy=>if y.1.length=cs.length then some (.agg y.1,y.2) else none
  | _=>none
 | .Ey=>match x with
  | .agg cs=>(s.AY p 0 cs).map λy=>(.agg y.1,y.2)
  | x=>(s.AY p 0 [x]).bind λy=>(y.1.head?).map λv=>(v,y.2)
def St.outs (P:Program) (s:St):(p:Nat)->List TypeId->List Yu->List V->Option (List V)
 | _,_,_,[]=>some []
 | p,ts,ms,x::r=>(s.out p (Ti P (ts.headD 0)) (ms.headD .rd) x).bind λy=>(y.2.outs P (p+1) ts.tail ms.tail r).map (y.1::·)
def V1:List V->V
 | [x]=>x
 | l=>.AZ l
end Go.Proofs.YthdljdelfgofdaaGreatDoor.Ev
namespace Go.Proofs.YthdljdelfgofdaaGreatDoor.Ev
open Go Go.RowKit
inductive Rd (w:World) (ok:Nat->Prop):Value->V->Prop
 | lit {v:Value} (h:D9 v=true):Rd w ok v (.lit v)
 | emp {A:Option Addr} {c:Nat}:Rd w ok (.slice A 0 c) (.tr [])
 | tr {g o n c sz:Nat} {rows:List (List V)} {u:Nat->Value} (hn:rows.length=n) (hc:n<=c) (hm:c<=maxLen) (hs:∀r∈rows,r.length=sz) (hg:ok g)
   (hu:∀(k:Nat) (x:V),rows.flatten[k]?=some x->w.cell? ⟨g,o+k,none⟩=some (u k)) (hr:∀(k:Nat) (x:V),rows.flatten[k]?=some x->Rd w ok (u k) x):
   Rd w ok (.slice (some ⟨g,o,none⟩) n c) (.tr rows)
 | rp {g o off:Nat} {sh:Bool} {row:List V} {u:Nat->Value} (hg:ok g)
   (hu:∀(k:Nat) (x:V),row[k]?=some x->w.cell? ⟨g,o+k,none⟩=some (u k)) (hr:∀(k:Nat) (x:V),row[k]?=some x->Rd w ok (u k) x):
   Rd w ok (.pointer (some ⟨g,o+off,none⟩)) (.rp sh row off)
 | fn {f:FuncId} {vs:Array Value} {Bu:List V} (hl:vs.size=Bu.length) (hr:∀(k:Nat) (v:Value) (x:V),vs[k]?=some v->Bu[k]?=some x->Rd w ok v x):
   Rd w ok (.func (.func f) #[] vs) (.fn f Bu)
theorem gX {w:World} {g o:Nat} {v:Value} (h:w.cell? ⟨g,o,none⟩=some v):g < w.heap.size:=by
 unfold World.cell? at h;split at h
 .rename_i c e f hc
  exact (HE.1 hc).1
 .cases h
theorem uT {w w':World} {g o:Nat} (h:w'.heap[g]?=w.heap[g]?):w'.cell? ⟨g,o,none⟩=w.cell? ⟨g,o,none⟩:=by
 unfold World.cell?;rw[h]
theorem Rd.frame {w w':World} {ok ok':Nat->Prop} {v:Value} {x:V} (h:Rd w ok v x) (hw:∀g,ok g->g < w.heap.size->w'.heap[g]?=w.heap[g]?) (Yf:∀g,ok g->g < w.heap.size->ok' g) (Yg:∀g,ok g->g < w.heap.size\/ok' g):Rd w' ok' v x:=by
 induction h with
 | lit h=>exact .lit h
 | emp=>exact .emp
 | @tr g o n c sz rows u hn hc hm hs hg hu hr ih=>
  refine .tr hn hc hm hs ?_ (λk x hk=>?_) ih
  .rcases Yg g hg with h1|h1
   .exact Yf g hg h1
   .exact h1
  .have:=hu k x hk
   rw[uT (hw g hg (gX this))];exact this
 | @rp g o off sh row u hg hu hr ih=>
  refine .rp ?_ (λk x hk=>?_) ih
  .rcases Yg g hg with h1|h1
   .exact Yf g hg h1
   .exact h1
  .have:=hu k x hk
   rw[uT (hw g hg (gX this))];exact this
 | fn hl hr ih=>exact .fn hl ih
theorem Rd.mono {w w':World} {ok ok':Nat->Prop} {v:Value} {x:V} (h:Rd w ok v x) (hw:∀g,ok g->g < w.heap.size->w'.heap[g]?=w.heap[g]?) (Yf:∀g,ok g->ok' g):Rd w' ok' v x:=
 h.frame hw (λg h _=>Yf g h) (λg h=>.inr (Yf g h))
mutual
inductive Ow (w:World):Value->V->List Nat->Prop
 | lit {v:Value} (h:D9 v=true):Ow w v (.lit v) []
 | emp {A:Option Addr}:Ow w (.slice A 0 0) (.tr []) []
 | tr {g o n c sz:Nat} {cur:Array Value} {e:TypeId} {rows:List (List V)} {fp:List Nat} (hb:w.heap[g]?=some (.cells cur e (0,0))) (hn:rows.length=n) (hc:n<=c) (hm:c<=maxLen) (hs:∀r∈rows,r.length=sz)
   (hz:o+c*sz=cur.size) (hl:B3 w ((cur.toList.drop o).take (n*sz)) rows.flatten fp):Ow w (.slice (some ⟨g,o,none⟩) n c) (.tr rows) (g::fp)
inductive B3 (w:World):List Value->List V->List Nat->Prop
 | nil:B3 w [] [] []
 | cons {v:Value} {x:V} {vs:List Value} {xs:List V} {f1 f2:List Nat} (h:Ow w v x f1) (hs:B3 w vs xs f2):B3 w (v::vs) (x::xs) (f1++f2)
end
theorem Ow.frame {w w':World} {v:Value} {x:V} {fp:List Nat} (h:Ow w v x fp):(∀g∈fp,w'.heap[g]?=w.heap[g]?)->Ow w' v x fp:=by
 apply Ow.rec (motive_1:=λv x fp _=>(∀g∈fp,w'.heap[g]?=w.heap[g]?)->Ow w' v x fp) (motive_2:=λvs xs fp _=>(∀g∈fp,w'.heap[g]?=w.heap[g]?)->B3 w' vs xs fp) ?_ ?_ ?_ ?_ ?_ h
 .intro v h _;exact .lit h
 .intro A _;exact .emp
 .intro g o n c sz cur e rows fp hb hn hc hm hs hz hl ih hw
  exact .tr (by rw[hw g BJ];exact hb) hn hc hm hs hz (ih λk hk=>hw k (Cp _ hk))
 .intro _;exact .nil
 .intro v x vs xs f1 f2 h hs V2 V3 hw
  exact .cons (V2 λk hk=>hw k (CC _ hk)) (V3 λk hk=>hw k (Ds _ hk))
theorem B3.frame {w w':World} {vs:List Value} {xs:List V} {fp:List Nat} (h:B3 w vs xs fp):(∀g∈fp,w'.heap[g]?=w.heap[g]?)->B3 w' vs xs fp:=by
 induction xs generalizing vs fp with
 | nil=>intro _;cases h;exact .nil
 | cons x xs ih=>
  intro hw;cases h with
  | cons h hs=>exact .cons (h.frame λg hg=>hw g (CC _ hg)) (ih hs λg hg=>hw g (Ds _ hg))
theorem B3.get {w:World} {vs:List Value} {xs:List V} {fp:List Nat} (h:B3 w vs xs fp):∀(k:Nat) (x:V),xs[k]?=some x->∃v f,vs[k]?=some v/\Ow w v x f/\∀g∈f,g∈fp:=by
 induction xs generalizing vs fp with
 | nil=>intro k x hk;simp at hk
 | cons y ys ih=>
  intro k x hk;cases h with
  | @cons v _ vs _ f1 f2 h hs=>
   cases k with
   | zero=>
    have uU:y=x:=by simpa using hk
    subst uU;exact⟨v,f1,rfl,h,λg hg=>CC _ hg⟩
   | succ k=>
    obtain⟨v',f,h1,h2,h3⟩:=ih hs k x (by simpa using hk);exact⟨v',f,by simpa using h1,h2,λg hg=>Ds _ (h3 g hg)⟩
theorem B3.length {w:World} {vs:List Value} {xs:List V} {fp:List Nat} (h:B3 w vs xs fp):vs.length=xs.length:=by
 induction xs generalizing vs fp with
 | nil=>cases h;rfl
 | cons y ys ih=>cases h with|cons h hs=>simp[ih hs]
theorem Ow.rd {w:World} {ok:Nat->Prop} {v:Value} {x:V} {fp:List Nat} (h:Ow w v x fp):(∀g∈fp,ok g)->Rd w ok v x:=by
 apply Ow.rec (motive_1:=λv x fp _=>(∀g∈fp,ok g)->Rd w ok v x) (motive_2:=λvs xs fp _=>(∀g∈fp,ok g)->∀(k:Nat) (x:V),xs[k]?=some x->∃v,vs[k]?=some v/\Rd w ok v x) ?_ ?_ ?_ ?_ ?_ h
 .intro v h _;exact .lit h
 .intro A _;exact .emp
 .intro g o n c sz cur e rows fp hb hn hc hm hs hz hl ih hw
  have ih':=ih λk hk=>hw k (Cp _ hk);refine .tr (u:=λk=>((cur.toList.drop o).take (n*sz)).getD k undef) hn hc hm hs (hw g BJ) (λk x hk=>?_) (λk x hk=>?_)
  .obtain⟨v,hv,_⟩:=ih' k x hk
   rw[cell_of_row w g _ cur e (0,0) hb,N2,hv];rw[Dg] at hv;split at hv
   .simpa using hv
   .cases hv
  .obtain⟨v,hv,hr⟩:=ih' k x hk
   rw[N2,hv];exact hr
 .intro _ k x hk;simp at hk
 .intro v x vs xs f1 f2 h hs V2 V3 hw k y hk
  cases k with
  | zero=>
   have:x=y:=by simpa using hk
   subst this;exact⟨v,rfl,V2 λg hg=>hw g (CC _ hg)⟩
  | succ k=>
   obtain⟨v',h1,h2⟩:=V3 (λg hg=>hw g (Ds _ hg)) k y (by simpa using hk);exact⟨v',by simpa using h1,h2⟩
theorem B3.rd {w:World} {ok:Nat->Prop} {vs:List Value} {xs:List V} {fp:List Nat} (h:B3 w vs xs fp) (hg:∀g∈fp,ok g) {k:Nat} {x:V} (hk:xs[k]?=some x):∃v,vs[k]?=some v/\Rd w ok v x:=by
 obtain⟨v,f,h1,h2,h3⟩:=h.get k x hk;exact⟨v,h1,h2.rd λg h=>hg g (h3 g h)⟩
theorem Ow.lt {w:World} {v:Value} {x:V} {fp:List Nat} (h:Ow w v x fp):∀g∈fp,g < w.heap.size:=by
 apply Ow.rec (motive_1:=λv x fp _=>∀g∈fp,g < w.heap.size) (motive_2:=λvs xs fp _=>∀g∈fp,g < w.heap.size) ?_ ?_ ?_ ?_ ?_ h
 .intro v h g hg;simp at hg
 .intro A g hg;simp at hg
 .intro g o n c sz cur e rows fp hb hn hc hm hs hz hl ih k hk
  rcases Ce.1 hk with rfl|hk
  .exact (HE.1 hb).1
  .exact ih k hk
 .intro g hg;simp at hg
 .intro v x vs xs f1 f2 h hs V2 V3 g hg
  rcases BU.1 hg with hg|hg
  .exact V2 g hg
  .exact V3 g hg
theorem B3.lt {w:World} {vs:List Value} {xs:List V} {fp:List Nat} (h:B3 w vs xs fp):∀g∈fp,g < w.heap.size:=by
 induction xs generalizing vs fp with
 | nil=>cases h;intro g hg;simp at hg
 | cons x xs ih=>
  cases h with
  | cons h hs=>
   intro g hg;rcases BU.1 hg with hg|hg
   .exact h.lt g hg
   .exact ih hs g hg
theorem B3.append {w:World} {vs us:List Value} {xs ys:List V} {f1 f2:List Nat} (h1:B3 w vs xs f1) (h2:B3 w us ys f2):B3 w (vs++us) (xs++ys) (f1++f2):=by
 induction xs generalizing vs f1 with
 | nil=>cases h1;exact h2
 | cons x xs ih=>
  cases h1 with
  | cons h hs=>rw[List.append_assoc];exact .cons h (ih hs)
theorem Ow.one {w:World} {v:Value} {x:V} {fp:List Nat} (h:Ow w v x fp):v.oneCell'=true:=by
 cases h with
 | lit h=>cases v<;>simp_all [D9,Value.oneCell']
 | emp=>rfl
 | tr=>rfl
theorem B3.one {w:World} {vs:List Value} {xs:List V} {fp:List Nat} (h:B3 w vs xs fp):∀u∈vs,u.oneCell'=true:=by
 induction xs generalizing vs fp with
 | nil=>cases h;intro u hu;simp at hu
 | cons x xs ih=>
  cases h with
  | cons h hs=>
   intro u hu;rcases Ce.1 hu with rfl|hu
   .exact h.one
   .exact ih hs u hu
theorem Rd.one {w:World} {ok:Nat->Prop} {v:Value} {x:V} (h:Rd w ok v x):v.oneCell'=true:=by
 cases h with
 | lit h=>cases v<;>simp_all [D9,Value.oneCell']
 | emp=>rfl
 | tr=>rfl
 | rp=>rfl
 | fn=>rfl
inductive G4 where
 | emp
 | Bl (g o c sz:Nat)
abbrev AX:=Id->Option G4
inductive En (w:World) (ok:Nat->Prop) (U:AX):Value->V->Prop
 | undef {v:Value}:En w ok U v .undef
 | lit {v:Value} (h:D9 v=true):En w ok U v (.lit v)
 | tr {v:Value} {rows:List (List V)} (h:Rd w ok v (.tr rows)):En w ok U v (.tr rows)
 | vw {v:Value} {rows:List (List V)} (h:Rd w ok v (.tr rows)):En w ok U v (.vw rows)
 | rp {v:Value} {sh:Bool} {row:List V} {off:Nat} (h:Rd w ok v (.rp sh row off)):En w ok U v (.rp sh row off)
 | ptr {id:Id} {g o c sz i off:Nat} (h:U id=some (.Bl g o c sz)):En w ok U (.pointer (some ⟨g,o+i*sz+off,none⟩)) (.ptr id i off)
 | sl {id:Id} {g o c sz off len:Nat} (h:U id=some (.Bl g o c sz)) (hc:off+len<=c):En w ok U (.slice (some ⟨g,o+off*sz,none⟩) len (c - off)) (.sl id off len)
 | sle {id:Id} {A:Option Addr} {off:Nat} (h:(U id).isSome=true):En w ok U (.slice A 0 0) (.sl id off 0)
 | fn {f:FuncId} {vs:Array Value} {Bu:List V} (hl:vs.size=Bu.length) (hr:∀(k:Nat) (v:Value) (x:V),vs[k]?=some v->Bu[k]?=some x->En w ok U v x):En w ok U (.func (.func f) #[] vs) (.fn f Bu)
 | agg {vs:Array Value} {cs:List V} (hl:vs.size=cs.length) (hc:∀x∈cs,AD x=true) (hr:∀(k:Nat) (v:Value) (x:V),vs[k]?=some v->cs[k]?=some x->En w ok U v x):En w ok U (.agg vs) (.agg cs)
 | AZ {vs:Array Value} {cs:List V} (hl:vs.size=cs.length) (hr:∀(k:Nat) (v:Value) (x:V),vs[k]?=some v->cs[k]?=some x->En w ok U v x):En w ok U (.tuple vs) (.AZ cs)
structure Iy (w w':World) (ok ok':Nat->Prop):Prop where
 heap:∀g,ok g->g < w.heap.size->w'.heap[g]?=w.heap[g]?
 V4:∀g,ok g->g < w.heap.size->ok' g
 size:w.heap.size<=w'.heap.size
theorem Rd.C8 {w w':World} {ok ok':Nat->Prop} (hk:Iy w w' ok ok') {v:Value} {x:V} (h:Rd w (λg=>ok g/\g < w.heap.size) v x):Rd w' (λg=>ok' g/\g < w'.heap.size) v x:=
 h.mono (λg hg _=>hk.heap g hg.1 hg.2) (λg hg=>⟨hk.V4 g hg.1 hg.2,Hc hg.2 hk.size⟩)
theorem En.C8 {w w':World} {ok ok':Nat->Prop} {U U':AX} (hk:Iy w w' ok ok') (hU:∀id i,U id=some i->U' id=some i) {v:Value} {x:V} (h:En w (λg=>ok g/\g < w.heap.size) U v x):
  En w' (λg=>ok' g/\g < w'.heap.size) U' v x:=by
 induction h with
 | undef=>exact .undef
 | lit h=>exact .lit h
 | tr h=>exact .tr (h.C8 hk)
 | vw h=>exact .vw (h.C8 hk)
 | rp h=>exact .rp (h.C8 hk)
 | ptr h=>exact .ptr (hU _ _ h)
 | sl h hc=>exact .sl (hU _ _ h) hc
 | sle h=>
  refine .sle ?_;obtain⟨i,hi⟩:=EY.1 h;rw[hU _ _ hi];rfl
 | fn hl hr ih=>exact .fn hl ih
 | agg hl hc hr ih=>exact .agg hl hc ih
 | AZ hl hr ih=>exact .AZ hl ih
def AJ (s:St) (U:AX) (g:Nat):Prop:=∃id b o c sz,s.heap id=some b/\b.own=true/\U id=some (.Bl g o c sz)
def AG (s:St) (U:AX) (w:World) (g:Nat):Prop:=¬AJ s U g/\g < w.heap.size
def Xs (P:Program) (w:World) (ok:Nat->Prop) (U:AX) (i:Option G4) (F:List Nat) (b:Bc):Prop:=
 match b.box,b.own with
 | true,_=>b.own=true/\∃g cur e row,i=some (.Bl g 0 1 row.length)/\w.heap[g]?=some (.cells cur e (0,0))/\b.rows=[row]/\cur.size=row.length/\
   (∀(k:Nat) (v:Value) (x:V),cur[k]?=some v->row[k]?=some x->En w ok U v x)/\(∀x∈row,AD x=true)/\F=[g]
 | false,true=>(i=some .emp/\b.rows=[]/\F=[])\/
   ∃g o c cur,i=some (.Bl g o c (P.cellsOf b.el))/\w.heap[g]?=some (.cells cur b.el (0,0))/\b.rows.length<=c/\c<=maxLen/\(∀r∈b.rows,r.length=P.cellsOf b.el)/\o+c*P.cellsOf b.el=cur.size/\
    ∃fp,F=g::fp/\(b.cl=true->B3 w ((cur.toList.drop o).take (b.rows.length*P.cellsOf b.el)) b.rows.flatten fp)/\
     (b.cl=false->fp=[]/\∀(k:Nat) (x:V),b.rows.flatten[k]?=some x->∃v,cur[o+k]?=some v/\Rd w ok v x)
 | false,false=>F=[]/\((i=some .emp/\b.rows=[])\/∃g o c sz,i=some (.Bl g o c sz)/\(∀r∈b.rows,r.length=sz)/\Rd w ok (.slice (some ⟨g,o,none⟩) b.rows.length c) (.tr b.rows))
theorem Xs.Iz {P:Program} {w:World} {ok:Nat->Prop} {U:AX} {i:Option G4} {F:List Nat} {b:Bc} (Xl:b.box=true) (Yw:b.own=true) {g:Nat} {cur:Array Value} {e:TypeId} {row:List V} (hi:i=some (.Bl g 0 1 row.length)) (hg:w.heap[g]?=some (.cells cur e (0,0))) (hr:b.rows=[row]) (hs:cur.size=row.length)
  (he:∀(k:Nat) (v:Value) (x:V),cur[k]?=some v->row[k]?=some x->En w ok U v x) (hc:∀x∈row,AD x=true) (hF:F=[g]):Xs P w ok U i F b:=by
 unfold Xs;rw[Xl];exact⟨Yw,g,cur,e,row,hi,hg,hr,hs,he,hc,hF⟩
theorem Xs.Cr {P:Program} {w:World} {ok:Nat->Prop} {U:AX} {i:Option G4} {F:List Nat} {b:Bc} (Xl:b.box=false) (Yw:b.own=true) {g o c:Nat} {cur:Array Value} {fp:List Nat} (hi:i=some (.Bl g o c (P.cellsOf b.el))) (hg:w.heap[g]?=some (.cells cur b.el (0,0))) (hl:b.rows.length<=c) (hm:c<=maxLen)
  (hu:∀r∈b.rows,r.length=P.cellsOf b.el) (hz:o+c*P.cellsOf b.el=cur.size) (hF:F=g::fp) (h1:b.cl=true->B3 w ((cur.toList.drop o).take (b.rows.length*P.cellsOf b.el)) b.rows.flatten fp)
  (h2:b.cl=false->fp=[]/\∀(k:Nat) (x:V),b.rows.flatten[k]?=some x->∃v,cur[o+k]?=some v/\Rd w ok v x):Xs P w ok U i F b:=by
 unfold Xs;rw[Xl,Yw];exact .inr ⟨g,o,c,cur,hi,hg,hl,hm,hu,hz,fp,hF,h1,h2⟩
theorem Xs.I0 {P:Program} {w:World} {ok:Nat->Prop} {U:AX} {i:Option G4} {F:List Nat} {b:Bc} (Xl:b.box=false) (Yw:b.own=true) (hi:i=some .emp) (hr:b.rows=[]) (hF:F=[]):Xs P w ok U i F b:=by
 unfold Xs;rw[Xl,Yw];exact .inl ⟨hi,hr,hF⟩
def Pu (i:Option G4):Prop:=∃g o c sz,i=some (.Bl g o c sz)/\0 < c
class Anchor where
 w:World
def Md [A:Anchor] (w:World) (T:Nat->Prop):Prop:=A.w.heap.size<=w.heap.size/\(∀k,k < A.w.heap.size->w.heap[k]?=A.w.heap[k]?)/\∀g,T g->A.w.heap.size<=g
structure V5 [Anchor] (B:Nat) (io:Nat->Prop) (w:World):Prop where
 base:B<=w.heap.size
 Fg:Md w (λg=>io g\/B<=g)
variable [Anchor]
structure Rel (P:Program) (B:Nat) (io:Nat->Prop) (w:World) (tmps:Array Value) (s:St) (U:AX) (F:Id->List Nat) (fl:List Nat):Prop where
 env:∀(t:Nat) (v:Value),tmps[t]?=some v->En w (AG s U w) U v (s.env t)
 out:∀t,tmps.size<=t->s.env t=.undef
 heap:∀id b,s.heap id=some b->Xs P w (AG s U w) U (U id) (F id) b
 CH:∀id b,s.heap id=some b->b.own=true->∀g∈F id,g < w.heap.size
 top:∀id b,s.heap id=some b->b.own=true->Pu (U id)->∀g,(F id).head?=some g->io g\/B<=g
 apart:∀id Av b b',s.heap id=some b->b.own=true->s.heap Av=some b'->b'.own=true->id≠Av->∀g∈F id,g ∉ F Av
 once:∀id b,s.heap id=some b->b.own=true->(F id).Nodup
 C4:∀id,(U id).isSome=true->id.1<=s.ep
 Cs:V5 B io w
 AR:∀g∈fl,g < w.heap.size
 A7:∀id b,s.heap id=some b->b.own=true->∀g∈F id,g ∉ fl
 AT:fl.Nodup
structure J5 (B:Nat) (io:Nat->Prop) (w w':World):Prop where
 os:w'.os=w.os
 tape:w'.tape=w.tape
 output:w'.output=w.output
 size:w.heap.size<=w'.heap.size
 block:∀k,k < B->¬io k->w'.heap[k]?=w.heap[k]?
theorem V5.step {B:Nat} {io:Nat->Prop} {w w':World} (h:V5 B io w) (hs:w.heap.size<=w'.heap.size) (hA:∀k,k < B->¬io k->w'.heap[k]?=w.heap[k]?):V5 B io w':=
 ⟨LX h.base hs,LX h.Fg.1 hs,λk hk=>by
  rw[hA k (by
   refine uL (λhle=>?_);have:=h.Fg.2.2 k (.inr hle);omega) (λHi=>by have:=h.Fg.2.2 k (.inl Hi);omega)]
  exact h.Fg.2.1 k hk,h.Fg.2.2⟩
theorem Rel.base {P:Program} {B:Nat} {io:Nat->Prop} {w:World} {tmps:Array Value} {s:St} {U:AX} {F:Id->List Nat} {fl:List Nat} (h:Rel P B io w tmps s U F fl):B<=w.heap.size:=h.Cs.base
theorem J5.refl (B:Nat) (io:Nat->Prop) (w:World):J5 B io w w:=⟨rfl,rfl,rfl,B2 _,λ_ _ _=>rfl⟩
theorem J5.trans {B:Nat} {io:Nat->Prop} {a b c:World} (h:J5 B io a b) (k:J5 B io b c):J5 B io a c:=
 ⟨k.os.trans h.os,k.tape.trans h.tape,k.output.trans h.output,LX h.size k.size,λi hi hn=>(k.block i hi hn).trans (h.block i hi hn)⟩
theorem J5.below {B:Nat} {w w':World} (h:J5 B (λ_=>False) w w'):Below B w w':=⟨h.os,h.tape,h.output,h.size,λk hk=>h.block k hk id⟩
theorem Xs.top {P:Program} {w:World} {ok:Nat->Prop} {U:AX} {g o c sz:Nat} {F:List Nat} {b:Bc} (h:Xs P w ok U (some (.Bl g o c sz)) F b) (ho:b.own=true):g∈F:=by
 unfold Xs at h;split at h
 .obtain⟨_,g',cur,e,row,hi,_,_,_,_,_,hF⟩:=h
  cases hi;rw[hF];exact BJ
 .rcases h with⟨hi,_⟩|⟨g',o',c',cur,hi,_,_,_,_,_,fp,hF,_⟩
  .cases hi
  .cases hi
   rw[hF];exact BJ
 .rename_i h1 h2
  rw[ho] at h2;cases h2
theorem Xs.C8 {P:Program} {w w':World} {ok ok':Nat->Prop} {U U':AX} {i:Option G4} {F:List Nat} {b:Bc} (hk:Iy w w' ok ok') (hU:∀id i,U id=some i->U' id=some i)
  (h:Xs P w (λg=>ok g/\g < w.heap.size) U i F b) (hF:∀g∈F,w'.heap[g]?=w.heap[g]?):Xs P w' (λg=>ok' g/\g < w'.heap.size) U' i F b:=by
 unfold Xs at h ⊢;split at h
 .obtain⟨h1,g,cur,e,row,hi,hg,hr,hs,he,V6,rfl⟩:=h
  exact⟨h1,g,cur,e,row,hi,by rw[hF g BJ];exact hg,hr,hs,λk v x hv hx=>(he k v x hv hx).C8 hk hU,V6,rfl⟩
 .rcases h with h|⟨g,o,c,cur,hi,hg,hl,hm,hu,hz,fp,rfl,h1,h2⟩
  .exact .inl h
  .refine .inr ⟨g,o,c,cur,hi,by rw[hF g BJ];exact hg,hl,hm,hu,hz,fp,rfl,λhc=>(h1 hc).frame λk W9=>hF k (Cp _ W9),λhc=>⟨(h2 hc).1,λk x hx=>?_⟩⟩
   obtain⟨v,hv,hr⟩:=(h2 hc).2 k x hx;exact⟨v,hv,hr.C8 hk⟩
 .obtain⟨h0,h⟩:=h
  refine⟨h0,?_⟩;rcases h with h|⟨g,o,c,sz,hi,hu,hr⟩
  .exact .inl h
  .exact .inr ⟨g,o,c,sz,hi,hu,hr.C8 hk⟩
end Go.Proofs.YthdljdelfgofdaaGreatDoor.Ev
namespace Go.Proofs.YthdljdelfgofdaaGreatDoor.Ev
open Go Go.RowKit
variable [Anchor]
theorem Y7n {α:Type} {P:Program} {x:Sem α} {a:α} (h:eval? P x=some a) (w:World):x.run P w=.ok a w:=by
 induction x with
 | pure b=>simp only[eval?,AB] at h;subst h;rfl
 | program k ih=>simp only[eval?] at h;exact ih P h
 | _=>simp[eval?] at h
def Cg (P:Program) (o:Oper) (a:Act) (w:World) (C9:Value->World->Prop):Prop:=
 match (execOp a.eval o).run P w with
 | .ok (.value v) w'=>C9 v w'
 | .ok .skip w'=>C9 undef w'
 | _=>False
theorem Cg.wp {P:Program} {o:Oper} {a:Act} {w:World} {C9:Value->World->Prop} (h:Cg P o a w C9) {K:Act->World->Prop} {Q:Exit->Act->World->Prop} (hK:∀v w',C9 v w'->K (a.put o.dst v) w'):o.wp P a w K Q:=by
 unfold Cg at h;unfold Oper.wp;split at h
 .rename_i heq;rw[heq];exact hK _ _ h
 .rename_i heq;rw[heq];exact hK _ _ h
 .exact h.elim
theorem Cg.value {P:Program} {o:Oper} {a:Act} {w w':World} {v:Value} {C9:Value->World->Prop} (h:(execOp a.eval o).run P w=.ok (.value v) w') (hp:C9 v w'):Cg P o a w C9:=by
 unfold Cg;rw[h];exact hp
theorem Cg.skip {P:Program} {o:Oper} {a:Act} {w w':World} {C9:Value->World->Prop} (h:(execOp a.eval o).run P w=.ok .skip w') (hp:C9 undef w'):Cg P o a w C9:=by
 unfold Cg;rw[h];exact hp
theorem Yfx {U U':Operand->Value} {o:Oper} (hp:N9 o.op=true) (h:∀x∈o.op.operands.toList,U x=U' x):execOp U o=execOp U' o:=by
 obtain⟨dst,op,type,pos,after,guard⟩:=o;cases op<;>simp only[N9,Bn] at hp
 case binOp op t x y yt=>
  have h1:=h x (by simp[Op.operands]);have h2:=h y (by simp[Op.operands]);simp only[execOp,h1,h2]
 case unOp op t x=>
  have h1:=h x (by simp[Op.operands]);simp only[execOp,h1]
 case convert s d x=>
  have h1:=h x (by simp[Op.operands]);simp only[execOp,h1]
 case field t x i=>
  have h1:=h x (by simp[Op.operands]);simp only[execOp,h1]
 case index t x i=>
  have h1:=h x (by simp[Op.operands]);have h2:=h i (by simp[Op.operands]);simp only[execOp,h1,h2]
 case slice t x l hi m=>
  have h1:=h x (by simp[Op.operands]);have h2:l.map U=l.map U':=by cases l<;>simp;exact h _ (by simp[Op.operands])
  have h3:hi.map U=hi.map U':=by cases hi<;>simp;exact h _ (by simp[Op.operands])
  have h4:m.map U=m.map U':=by cases m<;>simp;exact h _ (by simp[Op.operands])
  simp only[execOp,h1,h2,h3,h4]
 case call c=>
  obtain⟨callee,args,ats⟩:=c;have ha:∀b:Builtin,callee=.builtin b->args.map U=args.map U':=by
   intro b hb;apply Array.map_congr_left;intro x hx;exact h x (by simp[Op.operands,Call.operands,hb];exact hx)
  cases callee with
  | value f=>simp at hp
  | invoke r m=>simp at hp
  | builtin b=>simp only[execOp,resolve,ha b rfl]
theorem Y7z {w:World} {ok:Nat->Prop} {U:AX} {v v':Value} {x:V} (h:En w ok U v x) (ht:Qp x=some v'):v=v':=by
 cases x<;>simp only[Qp] at ht<;>try cases ht
 case lit=>cases h;rfl
 case agg cs=>
  cases h with
  | @agg vs _ hl hc hr=>
   cases hL:EG cs with
   | none=>rw[hL] at ht;cases ht
   | some l=>
    rw[hL] at ht;simp only[D8,AB] at ht;subst ht
    congr 1
    have key:∀(cs:List V) (l:List Value),EG cs=some l->cs=l.map .lit:=by
     intro cs
     induction cs with
     | nil=>intro l h;simp only[EG,AB] at h;subst h;rfl
     | cons c cs ih=>
      intro l h;cases c<;>simp only[EG] at h<;>try cases h
      rename_i v;cases hr:EG cs with
      | none=>rw[hr] at h;cases h
      | some l'=>rw[hr] at h;simp only[D8,AB] at h;subst h;rw[ih l' hr];rfl
    have BO:=key cs l hL;subst BO;apply Array.ext_getElem?;intro k;rw[KH] at hl;simp only[gE];by_cases hk:k < vs.size
    .have h1:vs[k]?=some vs[k]:=Var hk
     have h2:l[k]?=some (l[k]'(by omega)):=CB (by omega);have h3:=hr k vs[k] (.lit (l[k]'(by omega))) h1 (by rw[Dt,h2];rfl);rw[h1,h2];generalize (l[k]'(by omega))=y at h3;generalize vs[k]=z at h3;cases h3;rfl
    .rw[uA (by omega),SZ (by omega)]
theorem Yty {w:World} {ok:Nat->Prop} {U:AX} {v:Value} {x:V} (h:G2 v=some x):En w ok U v x:=by
 unfold G2 at h;split at h
 .split at h
  .rename_i cs hs
   simp only[AB] at h;subst h;refine .agg (by simp) (λx hx=>by obtain⟨u,_,rfl⟩:=Dx.1 hx;rfl) (λk v x hv hx=>?_);simp only[Dt,AL] at hx;obtain⟨u,hu,rfl⟩:=hx;have:u=v:=by
    have h1:cs.toList[k]?=some v:=by simpa using hv
    rw[h1] at hu;injection hu with hu;exact hu.symm
   subst this;exact .lit (Cd.1 hs _ (Eh hu))
  .cases h
 .split at h
  .rename_i hs
   simp only[AB] at h;subst h;exact .lit hs
  .cases h
theorem Rel.AP {P:Program} {B:Nat} {io:Nat->Prop} {w:World} {a:Act} {s:St} {U:AX} {F:Id->List Nat} {fl:List Nat} (h:Rel P B io w a.tmps s U F fl) (x:Operand):En w (AG s U w) U (a.eval x) (s.AP x):=by
 cases x with
 | tmp t=>
  simp only[St.AP,Act.eval];by_cases ht:t < a.tmps.size
  .have h1:a.tmps[t]?=some a.tmps[t]:=Var ht
   have:=h.env t a.tmps[t] h1;rw[Pg,h1];exact this
  .rw[h.out t (gM ht)];exact .undef
 | const v=>
  simp only[St.AP,Act.eval];cases hv:G2 v with
  | none=>exact .undef
  | some x=>exact Yty hv
 | global g=>exact .undef
 | func f=>exact .fn rfl (λk v x hv hx=>by simp at hx)
structure Ch (P:Program) (B:Nat) (io:Nat->Prop) (w:World) (tmps:Array Value) (s:St) (U:AX) (fl:List Nat) (k:Nat) (v:V) (s':St) (val:Value) (w':World):Prop where
 env:s'.env=s.env
 ep:s'.ep=s.ep
 left:J5 B io w w'
 ex:∃U' F',Rel P B io w' tmps s' U' F' fl/\En w' (AG s' U' w') U' val v/\(∀id i,U id=some i->U' id=some i)/\(∀id,(U' id).isSome=true->(U id).isSome=true\/(id.1=s.ep/\id.2 / 1024=k))
theorem Ch.same {P:Program} {B:Nat} {io:Nat->Prop} {w:World} {a:Act} {s:St} {U:AX} {F:Id->List Nat} {fl:List Nat} {k:Nat} {v:V} {val:Value} (h:Rel P B io w a.tmps s U F fl) (hv:En w (AG s U w) U val v):Ch P B io w a.tmps s U fl k v s val w:=
 ⟨rfl,rfl,J5.refl _ _ _,U,F,h,hv,λ_ _ h=>h,λ_ h=>.inl h⟩
theorem Y6g {P:Program} {B:Nat} {io:Nat->Prop} {w:World} {a:Act} {s:St} {U:AX} {F:Id->List Nat} {fl:List Nat} {k:Nat} {o:Oper} {v:V} (h:Rel P B io w a.tmps s U F fl) (he:Qc P s.AP o=some v):
  Cg P o a w (Ch P B io w a.tmps s U fl k v s):=by
 unfold Qc at he;split at he
 .rename_i hc
  rw[Bg] at hc;obtain⟨hp,K3⟩:=hc;split at he
  .rename_i val Hj
   have hcg:execOp a.eval o=execOp (λx=>(Qp (s.AP x)).getD undef) o:=Yfx hp (λx hx=>by
    have h1:=Cd.1 K3 x hx;obtain⟨u,hu⟩:=EY.1 h1;rw[hu];exact Y7z (h.AP x) hu)
   exact .value (by rw[hcg];exact Y7n Hj w) (.same h (Yty he))
  .cases he
 .cases he
theorem Tj {α:Type} {sz:Nat}:∀{rows:List (List α)} {i j:Nat} {row:List α} {x:α},(∀r∈rows,r.length=sz)->rows[i]?=some row->row[j]?=some x->rows.flatten[i*sz+j]?=some x:=by
 intro rows
 induction rows with
 | nil=>intro i j row x _ h;simp at h
 | cons r rs ih=>
  intro i j row x hs hi hj;have hr:r.length=sz:=hs r BJ;cases i with
  | zero=>
   have:r=row:=by simpa using hi
   subst this;rw[DV,EX (by have:=(CZ.1 hj).1;omega)];simpa using hj
  | succ i=>
   have h1:=ih (λr h=>hs r (Cp _ h)) (by simpa using hi) hj;rw[DV,FE (by rw[hr,KL];omega),hr];rw[show (i+1)*sz+j - sz=i*sz+j by rw[KL];omega];exact h1
theorem Rd.en {w:World} {ok:Nat->Prop} {U:AX} {v:Value} {x:V} (h:Rd w ok v x):En w ok U v x:=by
 induction h with
 | lit h=>exact .lit h
 | emp=>exact .tr .emp
 | tr hn hc hm hs hg hu hr ih=>exact .tr (.tr hn hc hm hs hg hu hr)
 | rp hg hu hr ih=>exact .rp (.rp hg hu hr)
 | fn hl hr ih=>exact .fn hl ih
theorem Rd.AD {w:World} {ok:Nat->Prop} {v:Value} {x:V} (h:Rd w ok v x):AD x=true:=by
 cases h<;>rfl
section
variable {P:Program} {B:Nat} {io:Nat->Prop} {w:World} {a:Act} {tmps:Array Value} {s:St} {U:AX} {F:Id->List Nat} {fl:List Nat}
theorem Rel.cell (h:Rel P B io w tmps s U F fl) {id:Id} {b:Bc} {g o c sz i j:Nat} {row:List V} {x:V} (hb:s.heap id=some b) (hU:U id=some (.Bl g o c sz)) (hi:b.rows[i]?=some row) (hj:row[j]?=some x):
  ∃u,w.cell? ⟨g,o+i*sz+j,none⟩=some u/\(b.box=true->En w (AG s U w) U u x)/\(b.box=false->Rd w (AG s U w) u x):=by
 have hB:=h.heap id b hb;rw[hU] at hB;have hF:b.own=true->∀k∈F id,k≠g->AG s U w k:=λho k hk Yg=>by
  refine⟨?_,h.CH id b hb ho k hk⟩;rintro⟨Av,b',o',c',Ct,Yx,BP,Di⟩;have ht:k∈F Av:=by
   have:=h.heap Av b' Yx;rw[Di] at this;exact this.top BP
  by_cases e:Av=id
  .subst e
   rw[hU] at Di;injection Di with Di;injection Di with hg;exact Yg hg.symm
  .exact h.apart Av id b' b Yx BP hb ho e k ht hk
 unfold Xs at hB;split at hB
 .rename_i Xl
  obtain⟨_,g',cur,e,Ci,Y3,hg,hr,hs,he,h1,_⟩:=hB;cases Y3;rw[hr] at hi;have:i=0/\Ci=row:=by
   cases i with
   | zero=>exact⟨rfl,by simpa using hi⟩
   | succ i=>simp at hi
  obtain⟨rfl,rfl⟩:=this;have KU:=(CZ.1 hj).1;have hc:cur[j]?=some cur[j]:=Var (by omega);refine⟨cur[j],?_,λ_=>he j _ x hc hj,λhf=>by rw[Xl] at hf;cases hf⟩;rw[show 0+0*Ci.length+j=j by omega,cell_of_row w g j cur e (0,0) hg];exact hc
 .rename_i Xl Yw
  rcases hB with⟨Y3,_⟩|⟨g',o',c',cur,Y3,hg,hl,hm,hu,hz,fp,CR,h1,h2⟩
  .cases Y3
  .cases Y3
   have hk:=Tj hu hi hj;cases W8:b.cl with
   | true=>
    have hfp:∀k∈fp,AG s U w k:=λk hk=>hF Yw k (by rw[CR];exact Cp _ hk) (by
     rintro rfl;have:=h.once id b hb Yw;rw[CR] at this;exact (EF.1 this).1 hk)
    obtain⟨v,hv,hr⟩:=(h1 W8).rd hfp hk;refine⟨v,?_,λhf=>(by rw[Xl] at hf;cases hf),λ_=>hr⟩;rw[Dg] at hv;split at hv
    .rw[cell_of_row w g _ cur b.el (0,0) hg,Nat.add_assoc]
     simpa using hv
    .cases hv
   | false=>
    obtain⟨v,hv,hr⟩:=(h2 W8).2 _ x hk;refine⟨v,?_,λhf=>(by rw[Xl] at hf;cases hf),λ_=>hr⟩;rw[cell_of_row w g _ cur b.el (0,0) hg,Nat.add_assoc];exact hv
 .rename_i Xl Yw
  obtain⟨_,hB⟩:=hB;rcases hB with⟨Y3,_⟩|⟨g',o',c',Ct,Y3,hu,hr⟩
  .cases Y3
  .cases Y3
   have hk:=Tj hu hi hj;generalize b.rows=rows at hr hi hk hu;generalize hn:rows.length=n at hr;cases hr with
   | emp=>simp at hi
   | @tr _ _ _ _ uV _ u Tk gY DA HJ Yc Cl Cj=>
    have:=Cl _ x hk;exact⟨u (i*sz+j),by rw[Nat.add_assoc];exact this,λhf=>(by rw[Xl] at hf;cases hf),λ_=>Cj _ x hk⟩
theorem Rel.Fh (h:Rel P B io w tmps s U F fl) {id:Id} {b:Bc} {j:Nat} {row:List V} (hb:s.heap id=some b) (Xl:b.box=true) (hr:b.rows[j]?=some row):∀x∈row,AD x=true:=by
 have hB:=h.heap id b hb;unfold Xs at hB;rw[Xl] at hB;obtain⟨_,g,cur,e,Ci,_,_,hrs,_,_,hc,_⟩:=hB;rw[hrs] at hr;cases j with
 | zero=>
      have:Ci=row:=by simpa using hr
      subst this;exact hc
 | succ j=>simp at hr
end
section
variable {P:Program} {B:Nat} {io:Nat->Prop} {w:World} {a:Act} {s:St} {U:AX} {F:Id->List Nat} {fl:List Nat} {k:Nat} {o:Oper} {v:V}
theorem Y0q (h:Rel P B io w a.tmps s U F fl) {x:Operand} (ho:o.op=.move x\/o.op=.assign x) (he:s.AP x=v):Cg P o a w (Ch P B io w a.tmps s U fl k v s):=by
 subst he;have hr:(execOp a.eval o).run P w=.ok (.value (a.eval x)) w:=by
  rcases ho with ho|ho<;>simp[execOp,ho]
 exact .value hr (.same h (h.AP x))
theorem Xaz (h:Rel P B io w a.tmps s U F fl) {c x y:Operand} {t:Bool} (ho:o.op=.pick c x y) (hc:s.AP c=.lit (.bool t)) (he:(if t then s.AP x else s.AP y)=v):Cg P o a w (Ch P B io w a.tmps s U fl k v s):=by
 have h1:=h.AP c;rw[hc] at h1;generalize hb:a.eval c=b at h1;cases h1;have hr:(execOp a.eval o).run P w=.ok (.value (if t then a.eval x else a.eval y)) w:=by
  cases t<;>simp[execOp,ho,hb,asBool]
 refine .value hr (.same h ?_);subst he;cases t
 .exact h.AP y
 .exact h.AP x
theorem Y1r (h:Rel P B io w a.tmps s U F fl) {t:Operand} {i:Nat} {vs:List V} (ho:o.op=.extract t i) (ht:s.AP t=.AZ vs) (he:vs[i]?=some v):Cg P o a w (Ch P B io w a.tmps s U fl k v s):=by
 have h1:=h.AP t;rw[ht] at h1;generalize hb:a.eval t=b at h1;cases h1 with
 | @AZ us _ hl hr=>
  have hi:=(CZ.1 he).1;have hu:us[i]?=some us[i]:=Var (by omega);have Xt:(execOp a.eval o).run P w=.ok (.value us[i]) w:=by
   simp[execOp,ho,hb,Instr.extract,hu]
  exact .value Xt (.same h (hr i _ _ hu he))
theorem uW (h:Rel P B io w a.tmps s U F fl) {x:Operand} (ho:o.op=.nilCheck x) (hx:s.AP x=v) (hv:(∃i j n,v=.ptr i j n)\/(∃b r n,v=.rp b r n)\/(∃f cs,v=.fn f cs)):Cg P o a w (Ch P B io w a.tmps s U fl k v s):=by
 have h1:=h.AP x;rw[hx] at h1;have Xt:(execOp a.eval o).run P w=.ok (.value (a.eval x)) w:=by
  generalize hb:a.eval x=b at h1;rcases hv with⟨i,j,n,rfl⟩|⟨b',r,n,rfl⟩|⟨f,cs,rfl⟩
  .cases h1;simp[execOp,ho,hb]
  .cases h1 with|rp h2=>cases h2;simp[execOp,ho,hb]
  .cases h1;simp[execOp,ho,hb]
 exact .value Xt (.same h h1)
theorem HK (g o n:Nat):(⟨g,o,none⟩:Addr).add n=⟨g,o+n,none⟩:=by
 unfold Addr.add;split<;>simp_all
theorem Ych (h:Rel P B io w a.tmps s U F fl) {t:TypeId} {x:Operand} {f off:Nat} (ho:o.op=.fieldAddr t x f) (hf:uQ P t f=some off)
  (hv:(∃i j n,s.AP x=.ptr i j n/\v=.ptr i j (n+off))\/(∃b r n,s.AP x=.rp b r n/\v=.rp b r (n+off))):Cg P o a w (Ch P B io w a.tmps s U fl k v s):=by
 unfold uQ at hf;split at hf
 .rename_i fs hu
  obtain⟨fl,BM,hf⟩:=A8.1 hf;split at hf
  .cases hf
  .rename_i Ww
   simp only[AB] at hf;subst hf;have V7:∃ti,P.info? fl.type=some ti/\ti.size≠0:=by
    unfold Program.cellsOf at Ww;cases hq:P.info? fl.type with
    | none=>rw[hq] at Ww;simp at Ww
    | some ti=>rw[hq] at Ww;exact⟨ti,rfl,by simpa using Ww⟩
   obtain⟨ti,CM,Yg⟩:=V7;have run:∀ad:Addr,a.eval x=.pointer (some ad)->(execOp a.eval o).run P w=.ok (.value (.pointer (some (ad.add fl.offset)))) w:=by
    intro ad hb;simp[execOp,ho,hb,Instr.fieldAt,underlying,hu,BM,Instr.sureAddr,fieldPlace,Go.sizeOf,typeInfo,CM,Yg]
   have h1:=h.AP x;rcases hv with⟨i,j,n,hx,rfl⟩|⟨b',r,n,hx,rfl⟩
   .rw[hx] at h1
    generalize hb:a.eval x=b at h1;cases h1 with
    | @ptr _ g o' c sz _ _ hU=>
     refine .value (run _ hb) (.same h ?_);rw[HK,Nat.add_assoc (o'+j*sz)];exact .ptr hU
   .rw[hx] at h1
    generalize hb:a.eval x=b at h1;cases h1 with
    | rp h2=>
     cases h2 with
     | @rp g o' _ _ _ u hg hu hr=>
      refine .value (run _ hb) (.same h ?_);rw[HK,Nat.add_assoc o'];exact .rp (.rp hg hu hr)
 .cases hf
theorem Me {t e:TypeId} (h:Qu P t=some e):P.underlying t=some (.slice e):=by
 unfold Qu at h;split at h
 .rename_i e' hu;simp only[AB] at h;subst h;exact hu
 .cases h
theorem V8 {w:World} {ok:Nat->Prop} {u:Value} {x:V} {n:Nat} (h:En w ok U u x) (hn:Wz x=some n):∃kd,u=.int kd (n:Int):=by
 unfold Wz at hn;split at hn
 .rename_i kd m
  split at hn
  .rename_i h0
   simp only[AB] at hn;cases h;exact⟨kd,by rw[<-hn,Int.toNat_of_nonneg h0]⟩
  .cases hn
 .cases hn
theorem uX (h:Rel P B io w a.tmps s U F fl) {t e:TypeId} {x ix:Operand} {n:Nat} (ho:o.op=.indexAddr t x ix) (ht:Qu P t=some e) (hn:Wz (s.AP ix)=some n)
  (hv:(∃i off len b row,s.AP x=.sl i off len/\n < len/\s.heap i=some b/\b.rows[off+n]?=some row/\row.length=Z4 P e/\v=.ptr i (off+n) 0)\/
   (∃sh rows row,(s.AP x=.tr rows\/s.AP x=.vw rows)/\rows[n]?=some row/\row.length=Z4 P e/\v=.rp sh row 0)) (hz:Z4 P e≠0):Cg P o a w (Ch P B io w a.tmps s U fl k v s):=by
 have hu:=Me ht;obtain⟨ti,CM,Ww⟩:∃ti,P.info? e=some ti/\ti.size=Z4 P e:=by
  unfold Z4 Program.cellsOf at hz ⊢;cases hq:P.info? e with
  | none=>rw[hq] at hz;simp at hz
  | some ti=>exact⟨ti,rfl,rfl⟩
 obtain⟨kd,hi⟩:=V8 (h.AP ix) hn;have run:∀(ad:Addr) (len c:Nat),a.eval x=.slice (some ad) len c->n < len->(execOp a.eval o).run P w=.ok (.value (.pointer (some (ad.add (n*Z4 P e))))) w:=by
  intro ad len c hb hl;have h1:(0:Int)<=(n:Int)/\(n:Int) < (len:Int):=⟨by omega,by omega⟩;simp[execOp,ho,hb,hi,Instr.indexAt,asIntOf,underlying,hu,Go.sizeOf,typeInfo,CM,Ww,hl]
 have h1:=h.AP x;rcases hv with⟨i,off,len,b,row,hx,hl,hb,Xg,Dj,rfl⟩|⟨sh,rows,row,hx,Xg,Dj,rfl⟩
 .rw[hx] at h1
  generalize hq:a.eval x=q at h1;cases h1 with
  | @sl _ g o' c sz _ _ hU hc=>
   have hB:=h.heap i b hb;rw[hU] at hB;have uY:sz=Z4 P e:=by
    unfold Xs at hB;split at hB
    .obtain⟨_,g',cur,e',Ci,Y3,hg,hr,hs,he,h1,_⟩:=hB
     cases Y3;rw[hr] at Xg;cases Cm:off+n with
     | zero=>
          rw[Cm] at Xg;have:Ci=row:=by simpa using Xg
          rw[this];exact Dj
     | succ m=>rw[Cm] at Xg;simp at Xg
    .rcases hB with⟨Y3,_⟩|⟨g',gZ,c',cur,Y3,hg,hH,hm,Cl,Pv,fp,CR,h1,h2⟩
     .cases Y3
     .cases Y3
      rw[<-Cl row (Eh Xg)];exact Dj
    .obtain⟨_,hB⟩:=hB
     rcases hB with⟨Y3,_⟩|⟨g',gZ,c',Ct,Y3,Cl,hr⟩
     .cases Y3
     .cases Y3
      rw[<-Cl row (Eh Xg)];exact Dj
   refine .value (run _ _ _ hq hl) (.same h ?_);rw[HK,<-uY,Nat.add_assoc,<-Nat.add_mul];exact .ptr (off:=0) hU
  | sle=>omega
 .generalize hq:a.eval x=q at h1
  have h2:Rd w (AG s U w) q (.tr rows):=by
   rcases hx with hx|hx
   .rw[hx] at h1;cases h1 with|tr h=>exact h
   .rw[hx] at h1;cases h1 with|vw h=>exact h
  cases h2 with
  | emp=>simp at Xg
  | @tr g o' m c sz _ u Tk gY DA HJ Yc Cl Cj=>
   have V9:=(CZ.1 Xg).1;have uY:sz=Z4 P e:=by rw[<-HJ row (Eh Xg)];exact Dj
   refine .value (run _ _ _ hq (by omega)) (.same h ?_);rw[HK,<-uY];refine .rp (.rp (off:=0) (u:=λj=>u (n*sz+j)) Yc (λj x hj=>?_) (λj x hj=>Cj _ x (Tj HJ Xg hj)));have:=Cl _ x (Tj HJ Xg hj);show w.cell? ⟨g,o'+n*sz+j,none⟩=_;rw[Nat.add_assoc];exact this
end
section
variable {P:Program} {B:Nat} {io:Nat->Prop} {w:World} {a:Act} {s:St} {U:AX} {F:Id->List Nat} {fl:List Nat} {k:Nat} {o:Oper} {v:V}
theorem Yuo {t:TypeId} {x:Operand} {g n:Nat} {us:List Value} {cs:List V} (ho:o.op=.load t x) (hx:a.eval x=.pointer (some ⟨g,n,none⟩)) (hl:us.length=Z4 P t) (W8:us.length=cs.length) (G5:∀x∈cs,AD x=true)
  (hc:∀j u,us[j]?=some u->w.cell? ⟨g,n+j,none⟩=some u) (he:KO P t cs=some v) (X7:∀(j:Nat) (u:Value) (x:V),us[j]?=some u->cs[j]?=some x->En w (AG s U w) U u x):
  ∃u,(execOp a.eval o).run P w=.ok (.value u) w/\En w (AG s U w) U u v:=by
 unfold KO at he;split at he
 .rename_i VA
  obtain⟨d,hu⟩:=EY.1 VA;split at he
  .rename_i Pw
   simp only[AB] at he;subst he;obtain⟨ti,CM⟩:∃ti,P.info? t=some ti:=by
    unfold Program.underlying at hu;split at hu
    .rename_i h;exact⟨_,h⟩
    .rename_i h;exact⟨_,h⟩
    .cases hu
   have Ww:ti.size=us.length:=by rw[hl];simp[Z4,Program.cellsOf,CM]
   have Xt:=run_loadCells_list (P:=P) (w:=w) ⟨g,n,none⟩ us (λj u hj=>by rw[HK];exact hc j u hj);rw[<-Ww] at Xt;refine⟨.agg us.toArray,?_,(.agg (by simpa using W8) G5 (λj u x hj hx=>X7 j u x (by simpa using hj) hx))⟩;cases d<;>simp[HH,hu] at Pw<;>simp[execOp,ho,hx,Instr.loadAt,Instr.sureAddr,loadVar,isAgg,underlying,hu,Go.sizeOf,typeInfo,CM,Xt]
  .rename_i Pw
   split at he
   .rename_i y
    simp only[AB] at he;subst he
    match us,W8 with
    | [u],_=>
     refine⟨u,?_,X7 0 u y rfl rfl⟩;have h0:=hc 0 u rfl;simp only[He] at h0;cases d<;>simp[HH,hu] at Pw<;>simp[execOp,ho,hx,Instr.loadAt,Instr.sureAddr,loadVar,isAgg,underlying,hu,load,Sem.run,h0]
   .cases he
 .cases he
theorem Yz4 (h:Rel P B io w a.tmps s U F fl) {t:TypeId} {x:Operand} (ho:o.op=.load t x)
  (hv:(∃i j n b row,s.AP x=.ptr i j n/\s.heap i=some b/\b.rows[j]?=some row/\n+Z4 P t<=row.length/\KO P t ((row.drop n).take (Z4 P t))=some v)\/
   (∃sh row n,s.AP x=.rp sh row n/\n+Z4 P t<=row.length/\KO P t ((row.drop n).take (Z4 P t))=some v)):Cg P o a w (Ch P B io w a.tmps s U fl k v s):=by
 have h1:=h.AP x;rcases hv with⟨i,j,n,b,row,hx,hb,Xg,Yo,he⟩|⟨sh,row,n,hx,Yo,he⟩
 .rw[hx] at h1
  generalize hq:a.eval x=q at h1;cases h1 with
  | @ptr _ g o' c sz _ _ hU=>
   have cell:∀(m:Nat) (y:V),row[m]?=some y->∃u,w.cell? ⟨g,o'+j*sz+m,none⟩=some u/\(b.box=true->En w (AG s U w) U u y)/\(b.box=false->Rd w (AG s U w) u y):=λm y hy=>h.cell hb hU Xg hy;have each:∀m:Nat,m < Z4 P t->∃u,w.cell? ⟨g,o'+j*sz+n+m,none⟩=some u/\∀y,row[n+m]?=some y->(b.box=true->En w (AG s U w) U u y)/\(b.box=false->Rd w (AG s U w) u y):=by
    intro m hm;have hy:row[n+m]?=some (row[n+m]'(by omega)):=CB (by omega);obtain⟨u,h2,h3⟩:=cell (n+m) _ hy;refine⟨u,by rw[Nat.add_assoc (o'+j*sz)];exact h2,λy HL=>?_⟩;rw[hy] at HL;injection HL with HL;rw[<-HL];exact h3
   let us:List Value:=List.ofFn λm:Fin (Z4 P t)=>Classical.choose (each m.1 m.2)
   have NF:∀(m:Nat) (u:Value),us[m]?=some u->w.cell? ⟨g,o'+j*sz+n+m,none⟩=some u/\∀y,row[n+m]?=some y->(b.box=true->En w (AG s U w) U u y)/\(b.box=false->Rd w (AG s U w) u y):=by
    intro m u hu;obtain⟨hm,rfl⟩:=CZ.1 hu;have DA:m < Z4 P t:=by simpa [us] using hm
    have:=Vm (each m DA);simpa [us] using this
   have Px:us.length=Z4 P t:=by simp[us]
   obtain⟨u,Xt,X7⟩:=Yuo (P:=P) (s:=s) (U:=U) (us:=us) ho hq Px (by rw[Px];simp;omega) (by
     intro x hx;cases Xl:b.box with
     | true=>exact h.Fh hb Xl Xg x (FX (FY hx))
     | false=>
      obtain⟨m,hm⟩:=HF hx;rw[Dg] at hm;split at hm
      .rw[D7] at hm
       obtain⟨u,_,h3⟩:=cell _ x hm;exact (h3.2 Xl).AD
      .cases hm) (λm u hu=>(NF m u hu).1) he (λm u y hu hy=>by
     have h3:=(NF m u hu).2;rw[Dg] at hy;split at hy
     .rw[D7] at hy
      cases Xl:b.box with
      | true=>exact (h3 y hy).1 Xl
      | false=>exact ((h3 y hy).2 Xl).en
     .cases hy)
   exact .value Xt (.same h X7)
 .rw[hx] at h1
  generalize hq:a.eval x=q at h1;cases h1 with
  | rp h2=>
   cases h2 with
   | @rp g o' _ _ _ uu hg hu hr=>
    let us:List Value:=List.ofFn λm:Fin (Z4 P t)=>uu (n+m.1)
    have NF:∀(m:Nat) (u:Value),us[m]?=some u->m < Z4 P t/\u=uu (n+m):=by
     intro m u hu;obtain⟨hm,rfl⟩:=CZ.1 hu;exact⟨by simpa [us] using hm,by simp[us]⟩
    have Px:us.length=Z4 P t:=by simp[us]
    obtain⟨u,Xt,X7⟩:=Yuo (P:=P) (s:=s) (U:=U) (us:=us) ho hq Px (by rw[Px];simp;omega) (by
      intro x hx;obtain⟨m,hm⟩:=HF hx;rw[Dg] at hm;split at hm
      .rw[D7] at hm
       exact (hr _ x hm).AD
      .cases hm) (λm u hm=>by
      obtain⟨h3,rfl⟩:=NF m u hm;have hy:row[n+m]?=some (row[n+m]'(by omega)):=CB (by omega);rw[Nat.add_assoc];exact hu _ _ hy) he (λm u y hm hy=>by
      obtain⟨h3,rfl⟩:=NF m u hm;rw[Dg,Aj h3,D7] at hy;exact (hr _ y hy).en)
    exact .value Xt (.same h X7)
theorem uZ (h:Rel P B io w a.tmps s U F fl) {x:Operand} {t:TypeId} {n:Nat} (ho:o.op=.call {callee:=.builtin .len,args:=#[x],argTypes:=#[t]}) (ht:(Qu P t).isSome=true)
  (hv:(∃i off,s.AP x=.sl i off n)\/(∃rows,(s.AP x=.tr rows\/s.AP x=.vw rows)/\n=rows.length)) (he:v=.lit (.int .i64 n)):Cg P o a w (Ch P B io w a.tmps s U fl k v s):=by
 subst he;obtain⟨e,Q0⟩:=EY.1 ht;have hu:=Me Q0;have hq:∃A c,a.eval x=.slice A n c:=by
  have h1:=h.AP x;generalize a.eval x=q at h1;rcases hv with⟨i,off,hx⟩|⟨rows,hx,rfl⟩
  .rw[hx] at h1
   cases h1 with
   | sl=>exact⟨_,_,rfl⟩
   | sle=>exact⟨_,_,rfl⟩
  .have h2:Rd w (AG s U w) q (.tr rows):=by
    rcases hx with hx|hx
    .rw[hx] at h1;cases h1 with|tr h=>exact h
    .rw[hx] at h1;cases h1 with|vw h=>exact h
   cases h2 with
   | emp=>exact⟨_,_,rfl⟩
   | tr hn=>exact⟨_,_,by rw[hn]⟩
 obtain⟨A,c,hq⟩:=hq;have hr:(execOp a.eval o).run P w=.ok (.value (.int .i64 n)) w:=by
  simp[execOp,ho,resolve,invoke,builtin,hq,Builtin.len_,underlying,hu,goInt]
 exact .value hr (.same h (.lit rfl))
theorem Yxi (h:Rel P B io w a.tmps s U F fl) {f:FuncId} {Bu:Array Operand} (ho:o.op=.makeFunc (.func f) #[] Bu) (he:v=.fn f (Bu.toList.map s.AP)):Cg P o a w (Ch P B io w a.tmps s U fl k v s):=by
 subst he;have hr:(execOp a.eval o).run P w=.ok (.value (.func (.func f) #[] (Bu.map a.eval))) w:=by
  simp[execOp,ho,Instr.makeFunc]
 refine .value hr (.same h (.fn (by simp) (λj u x hu hx=>?_)));simp only[Dt,AL,Array.getElem?_map] at hu hx;obtain⟨y,hy,rfl⟩:=hu;obtain⟨z,hz,rfl⟩:=hx;have:y=z:=by
  have h1:Bu.toList[j]?=some y:=by simpa using hy
  rw[h1] at hz;injection hz
 subst this;exact h.AP y
end
theorem Z8 {α β:Type} [DecidableEq α] (f:α->β) (a:α) (b:β):Bi f a b a=b:=by simp[Bi]
theorem X9 {α β:Type} [DecidableEq α] {f:α->β} {a x:α} {b:β} (h:x≠a):Bi f a b x=f x:=by simp[Bi,h]
section
variable {P:Program} {B:Nat} {io:Nat->Prop} {w w':World} {tmps:Array Value} {s s':St} {U U':AX} {F F':Id->List Nat} {fl fl':List Nat}
theorem Rel.steps (h:Rel P B io w tmps s U F fl) (N:Id->Prop) (CN:∀t v,tmps[t]?=some v->En w' (AG s' U' w') U' v (s'.env t)) (u0:∀t,tmps.size<=t->s'.env t=.undef) (Yk:s'.ep=s.ep) (DK:∀id b,¬N id->s'.heap id=some b->s.heap id=some b)
  (hU:∀id i,U id=some i->U' id=some i) (Fi:∀id,(U' id).isSome=true->(U id).isSome=true\/id.1=s.ep) (KV:∀id,¬N id->U' id=U id) (KW:∀id,¬N id->F' id=F id)
  (hk:Iy w w' (λg=>¬AJ s U g) (λg=>¬AJ s' U' g)) (ht:∀id b,¬N id->s'.heap id=some b->∀g∈F id,w'.heap[g]?=w.heap[g]?)
  (hA:∀k,k < B->¬io k->w'.heap[k]?=w.heap[k]?) (hn:∀id b,N id->s'.heap id=some b->Xs P w' (AG s' U' w') U' (U' id) (F' id) b) (hM:∀id b,N id->s'.heap id=some b->b.own=true->(∀g∈F' id,g < w'.heap.size)/\(Pu (U' id)->∀g,(F' id).head?=some g->io g\/B<=g))
  (I1:∀id b,N id->s'.heap id=some b->b.own=true->∀Av b',id≠Av->s'.heap Av=some b'->b'.own=true->∀g∈F' Av,g ∉ F' id) (Cu:∀id b,N id->s'.heap id=some b->b.own=true->(F' id).Nodup)
  (u1:∀g∈fl',g < w'.heap.size) (u2:∀id b,s'.heap id=some b->b.own=true->∀g∈F' id,g ∉ fl') (Py:fl'.Nodup):
  Rel P B io w' tmps s' U' F' fl' where
 env:=CN
 out:=u0
 heap:=λid b hb=>by
  by_cases e:N id
  .exact hn id b e hb
  .rw[KV id e,KW id e]
   exact (show Xs P w (λg=>(¬AJ s U g)/\g < w.heap.size) U (U id) (F id) b from h.heap id b (DK id b e hb)).C8 hk hU (ht id b e hb)
 CH:=λid b hb ho g hg=>by
  by_cases e:N id
  .exact (hM id b e hb ho).1 g hg
  .rw[KW id e] at hg
   exact Hc (h.CH id b (DK id b e hb) ho g hg) hk.size
 top:=λid b hb ho hc g hg=>by
  by_cases e:N id
  .exact (hM id b e hb ho).2 hc g hg
  .rw[KW id e] at hg
   exact h.top id b (DK id b e hb) ho (by rw[<-KV id e];exact hc) g hg
 apart:=λid Av b b' hb ho Yx BP Yg g hg Yc=>by
  by_cases e:N id
  .exact I1 id b e hb ho Av b' Yg Yx BP g Yc hg
  .by_cases e':N Av
   .exact I1 Av b' e' Yx BP id b (Ne.symm Yg) hb ho g hg Yc
   .rw[KW id e] at hg
    rw[KW Av e'] at Yc;exact h.apart id Av b b' (DK id b e hb) ho (DK Av b' e' Yx) BP Yg g hg Yc
 once:=λid b hb ho=>by
  by_cases e:N id
  .exact Cu id b e hb ho
  .rw[KW id e];exact h.once id b (DK id b e hb) ho
 C4:=λid Zt=>by
  rw[Yk];rcases Fi id Zt with h1|h1
  .exact h.C4 id h1
  .omega
 Cs:=h.Cs.step hk.size hA
 AR:=u1
 A7:=u2
 AT:=Py
theorem Rel.Mf (h:Rel P B io w tmps s U F fl) (CN:s'.env=s.env) (hU:∀id i,U id=some i->U' id=some i) (hk:Iy w w' (λg=>¬AJ s U g) (λg=>¬AJ s' U' g)):∀t v,tmps[t]?=some v->En w' (AG s' U' w') U' v (s'.env t):=λt v hv=>by
 rw[CN];exact (show En w (λg=>(¬AJ s U g)/\g < w.heap.size) U v (s.env t) from h.env t v hv).C8 hk hU
theorem Rel.step (h:Rel P B io w tmps s U F fl) (nid:Id) (CN:s'.env=s.env) (Yk:s'.ep=s.ep) (DK:∀id b,id≠nid->s'.heap id=some b->s.heap id=some b)
  (hU:∀id i,U id=some i->U' id=some i) (Fi:∀id,(U' id).isSome=true->(U id).isSome=true\/id.1=s.ep) (KV:∀id,id≠nid->U' id=U id) (KW:∀id,id≠nid->F' id=F id)
  (hk:Iy w w' (λg=>¬AJ s U g) (λg=>¬AJ s' U' g)) (ht:∀id b,id≠nid->s'.heap id=some b->∀g∈F id,w'.heap[g]?=w.heap[g]?)
  (hA:∀k,k < B->¬io k->w'.heap[k]?=w.heap[k]?) (hn:∀b,s'.heap nid=some b->Xs P w' (AG s' U' w') U' (U' nid) (F' nid) b) (hM:∀b,s'.heap nid=some b->b.own=true->(∀g∈F' nid,g < w'.heap.size)/\(Pu (U' nid)->∀g,(F' nid).head?=some g->io g\/B<=g))
  (I1:∀b,s'.heap nid=some b->b.own=true->∀id b',id≠nid->s'.heap id=some b'->b'.own=true->∀g∈F id,g ∉ F' nid) (Cu:∀b,s'.heap nid=some b->b.own=true->(F' nid).Nodup)
  (u1:∀g∈fl',g < w'.heap.size) (u2:∀id b,id≠nid->s'.heap id=some b->b.own=true->∀g∈F id,g ∉ fl') (u3:∀b,s'.heap nid=some b->b.own=true->∀g∈F' nid,g ∉ fl') (Py:fl'.Nodup):
  Rel P B io w' tmps s' U' F' fl':=
 h.steps (N:=λid=>id=nid) (h.Mf CN hU hk) (λt ht=>by rw[CN];exact h.out t ht) Yk DK hU Fi KV KW hk ht hA (λid b e hb=>by subst e;exact hn b hb) (λid b e hb ho=>by subst e;exact hM b hb ho)
  (λid b e hb ho Av b' Yg Yx BP g hg=>by subst e;rw[KW Av (Ne.symm Yg)] at hg;exact I1 b hb ho Av b' (Ne.symm Yg) Yx BP g hg) (λid b e hb ho=>by subst e;exact Cu b hb ho) u1
  (λid b hb ho g hg=>by
   by_cases e:id=nid
   .subst e;exact u3 b hb ho g hg
   .rw[KW id e] at hg;exact u2 id b e hb ho g hg) Py
theorem Iy.same (hs:∀g,AJ s' U' g->AJ s U g):Iy w w (λg=>¬AJ s U g) (λg=>¬AJ s' U' g):=
 ⟨λ_ _ _=>rfl,λg hg _ ht=>hg (hs g ht),B2 _⟩
theorem hZ {id:Id}:∀g,AJ (s.kill id) U g->AJ s U g:=by
 rintro g ⟨Av,b,o,c,sz,hb,ho,hU⟩;refine⟨Av,b,o,c,sz,?_,ho,hU⟩;simp only[St.kill,Bi] at hb;split at hb
 .cases hb
 .exact hb
theorem I2 {id Av:Id} {b:Bc} (h:(s.kill id).heap Av=some b):s.heap Av=some b:=by
 simp only[St.kill,Bi] at h;split at h
 .cases h
 .exact h
theorem Ka {id:Id}:(s.kill id).heap id=none:=by simp[St.kill,Bi]
theorem Rel.kill (h:Rel P B io w tmps s U F fl) (id:Id):Rel P B io w tmps (s.kill id) U F fl:=
 h.step (nid:=id) rfl rfl (λAv b _ hb=>I2 hb) (λ_ _ h=>h) (λ_ h=>.inl h) (λ_ _=>rfl) (λ_ _=>rfl) (.same hZ) (λ_ _ _ _ _ _=>rfl) (λ_ _ _=>rfl)
  (λb hb=>by rw[Ka] at hb;cases hb) (λb hb=>by rw[Ka] at hb;cases hb) (λb hb=>by rw[Ka] at hb;cases hb) (λb hb=>by rw[Ka] at hb;cases hb)
  h.AR (λAv b e hb ho=>h.A7 Av b (I2 hb) ho) (λb hb=>by rw[Ka] at hb;cases hb) h.AT
theorem Rel.float (h:Rel P B io w tmps s U F fl) {id:Id} {b:Bc} (hb:s.heap id=some b) (ho:b.own=true):Rel P B io w tmps (s.kill id) U F (F id++fl):=by
 refine h.step (nid:=id) rfl rfl (λAv b _ hb=>I2 hb) (λ_ _ h=>h) (λ_ h=>.inl h) (λ_ _=>rfl) (λ_ _=>rfl) (.same hZ) (λ_ _ _ _ _ _=>rfl) (λ_ _ _=>rfl)
  (λb hb=>by rw[Ka] at hb;cases hb) (λb hb=>by rw[Ka] at hb;cases hb) (λb hb=>by rw[Ka] at hb;cases hb) (λb hb=>by rw[Ka] at hb;cases hb)
  (λg hg=>?_) (λAv b' e Yx BP g hg Yc=>?_) (λb hb=>by rw[Ka] at hb;cases hb) ?_
 .rcases BU.1 hg with hg|hg
  .exact h.CH id b hb ho g hg
  .exact h.AR g hg
 .rcases BU.1 Yc with Yc|Yc
  .exact h.apart Av id b' b (I2 Yx) BP hb ho e g hg Yc
  .exact h.A7 Av b' (I2 Yx) BP g hg Yc
 .exact EE.2 ⟨h.once id b hb ho,h.AT,λa ha b' Yx e=>h.A7 id b hb ho a ha (e▸Yx)⟩
theorem Rel.G6 (h:Rel P B io w tmps s U F fl) {id:Id} {b:Bc} {i:G4} (hb:s.heap id=some b) (ho:b.own=true) (hi:U id=some i) {k:Nat} (hk:k∈F id) (Yg:∀g o c sz,i=.Bl g o c sz->k≠g):AG s U w k:=by
 refine⟨?_,h.CH id b hb ho k hk⟩;rintro⟨Av,b',o',c',Ct,Yx,BP,Di⟩;have ht:k∈F Av:=by
  have:=h.heap Av b' Yx;rw[Di] at this;exact this.top BP
 by_cases e:Av=id
 .subst e
  rw[hi] at Di;injection Di with Di;exact Yg _ _ _ _ Di rfl
 .exact h.apart Av id b' b Yx BP hb ho e k ht hk
theorem Rel.I3 (h:Rel P B io w tmps s U F fl) {k:Nat} (hk:k∈fl):AG s U w k:=by
 refine⟨?_,h.AR k hk⟩;rintro⟨Av,b',o',c',Ct,Yx,BP,Di⟩;have ht:k∈F Av:=by
  have:=h.heap Av b' Yx;rw[Di] at this;exact this.top BP
 exact h.A7 Av b' Yx BP k ht hk
end
theorem B3.drop {w:World}:∀(n:Nat) {vs:List Value} {xs:List V} {fp:List Nat},B3 w vs xs fp->∃BQ,B3 w (vs.drop n) (xs.drop n) BQ/\BQ.Sublist fp:=by
 intro n
 induction n with
 | zero=>intro vs xs fp h;exact⟨fp,h,N4 _⟩
 | succ n ih=>
  intro vs xs fp h;cases xs with
  | nil=>cases h;exact⟨[],.nil,N4 _⟩
  | cons x xs=>
   cases h with
   | @cons v _ vs _ f1 f2 h hs=>
    obtain⟨BQ,h1,h2⟩:=ih hs;exact⟨BQ,h1,h2.trans (Im _ _)⟩
theorem B3.take {w:World}:∀(n:Nat) {vs:List Value} {xs:List V} {fp:List Nat},B3 w vs xs fp->∃BQ,B3 w (vs.take n) (xs.take n) BQ/\BQ.Sublist fp:=by
 intro n
 induction n with
 | zero=>intro vs xs fp h;exact⟨[],by simp;exact .nil,List.nil_sublist _⟩
 | succ n ih=>
  intro vs xs fp h;cases xs with
  | nil=>cases h;exact⟨[],.nil,N4 _⟩
  | cons x xs=>
   cases h with
   | @cons v _ vs _ f1 f2 h hs=>
    obtain⟨BQ,h1,h2⟩:=ih hs;exact⟨f1++BQ,.cons h h1,Vo (N4 _) h2⟩
theorem HM {α:Type} {sz:Nat}:∀{rows:List (List α)},(∀r∈rows,r.length=sz)->rows.flatten.length=rows.length*sz:=by
 intro rows
 induction rows with
 | nil=>intro _;simp
 | cons r rs ih=>intro h;rw[DV,Cy,ih (λr hr=>h r (Cp _ hr)),h r BJ,AU,KL];omega
theorem u4 {α:Type} {sz:Nat}:∀{rows:List (List α)} {k:Nat} {x:α},(∀r∈rows,r.length=sz)->rows.flatten[k]?=some x->∃i j row,rows[i]?=some row/\row[j]?=some x/\k=i*sz+j:=by
 intro rows
 induction rows with
 | nil=>intro k x _ h;simp at h
 | cons r rs ih=>
  intro k x h hk;have hr:r.length=sz:=h r BJ;rw[DV] at hk;by_cases Z7:k < r.length
  .rw[EX Z7] at hk
   exact⟨0,k,r,rfl,hk,by omega⟩
  .rw[FE (by omega)] at hk
   obtain⟨i,j,row,h1,h2,h3⟩:=ih (λr hr=>h r (Cp _ hr)) hk;exact⟨i+1,j,row,by simpa using h1,h2,by rw[KL];omega⟩
theorem VB {α:Type} {sz:Nat}:∀(n:Nat) {rows:List (List α)},(∀r∈rows,r.length=sz)->rows.flatten.drop (n*sz)=(rows.drop n).flatten:=by
 intro n
 induction n with
 | zero=>intro rows _;simp
 | succ n ih=>
  intro rows h;cases rows with
  | nil=>simp
  | cons r rs=>
   have hr:r.length=sz:=h r BJ;rw[DV,uD,<-ih (λr hr=>h r (Cp _ hr)),KL,gU,<-List.drop_drop]
   congr 1
   rw[<-hr];simp
theorem u5 {α:Type} {sz:Nat}:∀(n:Nat) {rows:List (List α)},(∀r∈rows,r.length=sz)->rows.flatten.take (n*sz)=(rows.take n).flatten:=by
 intro n
 induction n with
 | zero=>intro rows _;simp
 | succ n ih=>
  intro rows h;cases rows with
  | nil=>simp
  | cons r rs=>
   have hr:r.length=sz:=h r BJ;rw[DV,List.take_succ_cons,DV,<-ih (λr hr=>h r (Cp _ hr)),KL,gU,List.take_append,hr,Vk]
   congr 1
   rw[D6 (by omega)]
def NG (P:Program) (w:World) (e:TypeId) (u:Value) (rows:List (List V)) (fp:List Nat):Prop:=
 (∃A,u=.slice A 0 0/\rows=[]/\fp=[])\/
 ∃g o c cur BQ,u=.slice (some ⟨g,o,none⟩) rows.length c/\w.heap[g]?=some (.cells cur e (0,0))/\rows.length<=c/\c<=maxLen/\(∀r∈rows,r.length=P.cellsOf e)/\o+c*P.cellsOf e=cur.size/\
  B3 w ((cur.toList.drop o).take (rows.length*P.cellsOf e)) rows.flatten BQ/\fp=g::BQ
theorem NG.ow {P:Program} {w:World} {e:TypeId} {u:Value} {rows:List (List V)} {fp:List Nat} (h:NG P w e u rows fp):Ow w u (.tr rows) fp:=by
 rcases h with⟨A,rfl,rfl,rfl⟩|⟨g,o,c,cur,BQ,rfl,hg,hl,hm,hu,hz,hO,rfl⟩
 .exact .emp
 .exact .tr hg rfl hl hm hu hz hO
section
variable {P:Program} {B:Nat} {io:Nat->Prop} {w w':World} {tmps:Array Value} {s s':St} {U U':AX} {F F':Id->List Nat} {fl fl':List Nat}
theorem Rel.less (h:Rel P B io w tmps s U F fl) {fl':List Nat} (hs:fl'.Sublist fl):Rel P B io w tmps s U F fl':=
 {h with
  AR:=λg hg=>h.AR g (hs.subset hg)
  A7:=λid b hb ho g hg Yc=>h.A7 id b hb ho g hg (hs.subset Yc)
  AT:=h.AT.sublist hs}
theorem Rel.perm (h:Rel P B io w tmps s U F fl) {fl':List Nat} (hs:fl'.Perm fl):Rel P B io w tmps s U F fl':=
 {h with
  AR:=λg hg=>h.AR g (hs.mem_iff.1 hg)
  A7:=λid b hb ho g hg Yc=>h.A7 id b hb ho g hg (hs.mem_iff.1 Yc)
  AT:=hs.nodup_iff.2 h.AT}
theorem Rel.Gc (h:Rel P B io w tmps s U F fl) {id:Id} {off len:Nat} {e:TypeId} {rows:List (List V)} {u:Value} (hu:En w (AG s U w) U u (.sl id off len)) (hw:s.whole id off len=some (e,rows)):
  ∃fp,Rel P B io w tmps (s.kill id) U F (fp++fl)/\NG P w e u rows fp/\∀g,fp.head?=some g->(F id).head?=some g/\Pu (U id):=by
 unfold St.whole at hw;obtain⟨b,hb,hw⟩:=A8.1 hw;split at hw
 .rename_i hc
  obtain⟨Xl,Yw,W8,Yo⟩:=hc;simp only[AB,A6] at hw;obtain⟨rfl,rfl⟩:=hw;have BM:=h.float hb Yw;cases hu with
  | sle hi=>exact⟨[],BM.less (Im _ _),.inl ⟨_,rfl,by simp,rfl⟩,λg hg=>by simp at hg⟩
  | @sl _ g o c sz _ _ hU hc=>
   have hB:=h.heap id b hb;rw[hU] at hB;unfold Xs at hB;rw[Xl,Yw] at hB;rcases hB with⟨Y3,_⟩|⟨g',o',c',cur,Y3,hg,hl,hm,BX,hz,fp,CR,h1,h2⟩
   .cases Y3
   .cases Y3
    obtain⟨f1,Pz,C5⟩:=(h1 W8).drop (off*P.cellsOf b.el);obtain⟨f2,HN,DX⟩:=Pz.take (len*P.cellsOf b.el);have P0:∀r∈b.rows.drop off,r.length=P.cellsOf b.el:=λr hr=>BX r (FX hr);rw[VB off BX,u5 len P0] at HN;have Fj:(((cur.toList.drop o).take (b.rows.length*P.cellsOf b.el)).drop (off*P.cellsOf b.el)).take (len*P.cellsOf b.el)=(cur.toList.drop (o+off*P.cellsOf b.el)).take (len*P.cellsOf b.el):=by
     rw[List.drop_take,List.drop_drop,List.take_take]
     congr 1
     have:(off+len)*P.cellsOf b.el<=b.rows.length*P.cellsOf b.el:=N3 _ Yo;rw[Nat.add_mul] at this;omega
    rw[Fj] at HN;have P1:((b.rows.drop off).take len).length=len:=by simp;omega
    by_cases hc0:c - off=0
    .have P2:len=0:=by omega
     subst P2;exact⟨[],BM.less (Im _ _),.inl ⟨_,by rw[hc0],by simp,rfl⟩,λg hg=>by simp at hg⟩
    refine⟨g::f2,BM.less ?_,.inr ⟨g,o+off*P.cellsOf b.el,c - off,cur,f2,by rw[P1],hg,by rw[P1];omega,by omega,λr hr=>P0 r (FY hr),?_,by rw[P1];exact HN,rfl⟩,λg' Yc=>⟨by rw[CR];exact Yc,g,o,c,_,hU,by omega⟩⟩
    .rw[CR,Io,Io]
     exact (Vo (DX.trans C5) (N4 _)).cons_cons _
    .have:off*P.cellsOf b.el+(c - off)*P.cellsOf b.el=c*P.cellsOf b.el:=by rw[<-Nat.add_mul];congr 1;omega
     omega
 .cases hw
theorem Rel.whole (h:Rel P B io w tmps s U F fl) {id:Id} {off len:Nat} {e:TypeId} {rows:List (List V)} {u:Value} (hu:En w (AG s U w) U u (.sl id off len)) (hw:s.whole id off len=some (e,rows)):
  ∃fp,Rel P B io w tmps (s.kill id) U F (fp++fl)/\NG P w e u rows fp:=by
 obtain⟨fp,h1,h2,_⟩:=h.Gc hu hw;exact⟨fp,h1,h2⟩
theorem Rel.rowsOf (h:Rel P B io w tmps s U F fl) {x:V} {u:Value} {rows:List (List V)} {ok':Nat->Prop} (hu:En w (AG s U w) U u x) (hr:s.rowsOf x=some rows) (Yf:∀g,AG s U w g->ok' g)
  (Wc:∀id off len b g o c sz,x=.sl id off len->s.heap id=some b->b.own=true->U id=some (.Bl g o c sz)->g < w.heap.size->g ∉ fl->ok' g):Rd w ok' u (.tr rows):=by
 have up:∀{v:Value} {y:V},Rd w (AG s U w) v y->Rd w ok' v y:=λhv=>hv.mono (λ_ _ _=>rfl) Yf;unfold St.rowsOf at hr;split at hr
 .rename_i id off len
  obtain⟨b,hb,hr⟩:=A8.1 hr;split at hr
  .rename_i hc
   obtain⟨Xl,Yo⟩:=hc;simp only[AB] at hr;subst hr;cases hu with
   | sle hi=>simp only[List.take_zero];exact .emp
   | @sl _ g o c sz _ _ hU hc=>
    by_cases Yg:(b.rows.drop off).take len=[]
    .have P2:len=0:=by
      have:=congrArg List.length Yg;simp at this;omega
     subst P2;rw[Yg];exact .emp
    have hB:=h.heap id b hb;rw[hU] at hB;have hcm:c<=maxLen/\(∀r∈b.rows,r.length=sz)/\ok' g:=by
     unfold Xs at hB;rw[Xl] at hB;generalize Yw:b.own=ow at hB;cases ow with
     | true=>
      rcases hB with⟨Y3,_⟩|⟨g',o',c',cur,Y3,hg,hl,hm,BX,hz,fp,CR,h1,P3⟩
      .cases Y3
      .cases Y3
       exact⟨hm,BX,Wc id off len b g o c _ rfl hb Yw hU (HE.1 hg).1 (h.A7 id b hb Yw g (by rw[CR];exact BJ))⟩
     | false=>
      obtain⟨_,hB⟩:=hB;rcases hB with⟨Y3,_⟩|⟨g',o',c',Ct,Y3,BX,hr⟩
      .cases Y3
      .cases Y3
       generalize hrw:b.rows=rws at hr BX Yg;generalize hn:rws.length=n at hr;cases hr with
       | emp=>simp at Yg
       | tr Tk gY DA HJ Yc Cl Cj=>exact⟨DA,BX,Yf g Yc⟩
    have P1:((b.rows.drop off).take len).length=len:=by simp;omega
    have P0:∀r∈(b.rows.drop off).take len,r.length=sz:=λr hr=>hcm.2.1 r (FX (FY hr));have cellAt:∀(k:Nat) (x:V),((b.rows.drop off).take len).flatten[k]?=some x->∃u,w.cell? ⟨g,o+off*sz+k,none⟩=some u/\Rd w ok' u x:=by
     intro k x hk;obtain⟨i,j,row,hi,hj,rfl⟩:=u4 P0 hk;rw[Dg] at hi;split at hi
     .rw[D7] at hi
      obtain⟨u,h1,_,h2⟩:=h.cell hb hU hi hj;refine⟨u,?_,up (h2 Xl)⟩;rw[show o+off*sz+(i*sz+j)=o+(off+i)*sz+j by rw[Nat.add_mul];omega];exact h1
     .cases hi
    have each:∀k,∃u:Value,∀x,((b.rows.drop off).take len).flatten[k]?=some x->w.cell? ⟨g,o+off*sz+k,none⟩=some u/\Rd w ok' u x:=by
     intro k;cases hk:((b.rows.drop off).take len).flatten[k]? with
     | none=>exact⟨undef,λx hx=>by cases hx⟩
     | some y=>
      obtain⟨u,h1,h2⟩:=cellAt k y hk;exact⟨u,λx hx=>by injection hx with hx;subst hx;exact⟨h1,h2⟩⟩
    obtain⟨uf,NH⟩:=tY each;exact .tr (u:=uf) P1 (by omega) (by omega) P0 hcm.2.2 (λk x hk=>(NH k x hk).1) (λk x hk=>(NH k x hk).2)
  .cases hr
 .simp only[AB] at hr;subst hr;cases hu with|tr h=>exact up h
 .simp only[AB] at hr;subst hr;cases hu with|vw h=>exact up h
 .simp only[AB] at hr;subst hr;cases hu;exact .emp
 .cases hr
theorem En.kill {id:Id} {v:Value} {x:V} (h:En w (AG s U w) U v x):En w (AG (s.kill id) U w) U v x:=
 (show En w (λg=>(¬AJ s U g)/\g < w.heap.size) U v x from h).C8 (.same hZ) (λ_ _ h=>h)
theorem VC {id:Id} {g:Nat} (h:AG s U w g):AG (s.kill id) U w g:=⟨λht=>h.1 (hZ g ht),h.2⟩
theorem Yz7:∀(xs:List V) {us:List Value} {s:St} {fl:List Nat} {ys:List V} {c:Bool} {s':St},Rel P B io w tmps s U F fl->us.length=xs.length->
  (∀(k:Nat) (u:Value) (x:V),us[k]?=some u->xs[k]?=some x->En w (AG s U w) U u x)->s.sink xs=some (ys,c,s')->
  ∃fp,Rel P B io w tmps s' U F (fp++fl)/\us.length=ys.length/\(c=true->B3 w us ys fp)/\(∀(k:Nat) (u:Value) (y:V),us[k]?=some u->ys[k]?=some y->Rd w (AG s' U w) u y)/\
   s'.env=s.env/\s'.ep=s.ep/\(∀id b,s'.heap id=some b->s.heap id=some b)/\(∀g,AG s U w g->AG s' U w g):=by
 intro xs
 induction xs with
 | nil=>
  intro us s fl ys c s' h hl X7 hs;simp only[St.sink,AB,A6] at hs;obtain⟨rfl,rfl,rfl⟩:=hs;have:us=[]:=Gz (by simpa using hl);subst this;exact⟨[],h,rfl,λ_=>.nil,λk u y hu=>by simp at hu,rfl,rfl,λ_ _ h=>h,λ_ h=>h⟩
 | cons x xs ih=>
  intro us s fl ys c s' h hl X7 hs
  match us,hl with
  | u::us,hl=>
   have hu:=X7 0 u x rfl rfl;have Mg:∀(k:Nat) (v:Value) (y:V),us[k]?=some v->xs[k]?=some y->En w (AG s U w) U v y:=λk v y hv hy=>X7 (k+1) v y (by simpa using hv) (by simpa using hy);have hH:us.length=xs.length:=by simpa using hl
   have plain:∀(y:V) (c0:Bool),(c0=true->Ow w u y [])->Rd w (AG s U w) u y->∀{r:List V×Bool×St},s.sink xs=some r->ys=y::r.1->c=(c0&&r.2.1)->s'=r.2.2->
     ∃fp,Rel P B io w tmps s' U F (fp++fl)/\(u::us).length=ys.length/\(c=true->B3 w (u::us) ys fp)/\(∀(k:Nat) (u':Value) (y:V),(u::us)[k]?=some u'->ys[k]?=some y->Rd w (AG s' U w) u' y)/\
      s'.env=s.env/\s'.ep=s.ep/\(∀id b,s'.heap id=some b->s.heap id=some b)/\(∀g,AG s U w g->AG s' U w g):=by
    rintro y c0 Tl iA ⟨r1,r2,r3⟩ hr rfl rfl rfl;obtain⟨fp,h1,h2,h3,h4,h5,h6,h7,h8⟩:=ih h hH Mg hr;refine⟨fp,h1,by simpa using h2,λhc=>?_,λk u' y' Cl HL=>?_,h5,h6,h7,h8⟩
    .rw[Bg] at hc
     have:=B3.cons (Tl hc.1) (h3 hc.2);simpa using this
    .cases k with
     | zero=>
      have e1:u=u':=by simpa using Cl
      have e2:y=y':=by simpa using HL
      subst e1;subst e2;exact iA.mono (λ_ _ _=>rfl) h8
     | succ k=>exact h4 k u' y' (by simpa using Cl) (by simpa using HL)
   unfold St.sink at hs;split at hs
   .obtain⟨r,hr,hq⟩:=AL.1 hs
    simp only[A6] at hq;obtain⟨rfl,EI⟩:=hq;cases hu;exact plain _ true (λ_=>.emp) .emp hr rfl (by rw[EI];simp) (by rw[EI])
   .rename_i Yg
    obtain⟨r,hr,hq⟩:=AL.1 hs;simp only[A6] at hq;obtain⟨rfl,EI⟩:=hq;cases hu with
    | lit Hk=>exact plain _ true (λ_=>.lit Hk) (.lit Hk) hr rfl (by rw[EI];simp) (by rw[EI])
   .obtain⟨r,hr,hq⟩:=AL.1 hs
    simp only[A6] at hq;obtain⟨rfl,hc,EI⟩:=hq;cases hu with
    | tr h2=>exact plain _ false (λhf=>by cases hf) h2 hr rfl (by rw[<-hc];simp) EI.symm
   .obtain⟨r,hr,hq⟩:=AL.1 hs
    simp only[A6] at hq;obtain⟨rfl,hc,EI⟩:=hq;cases hu with
    | vw h2=>exact plain _ false (λhf=>by cases hf) h2 hr rfl (by rw[<-hc];simp) EI.symm
   .rename_i id off len
    split at hs
    .rename_i er hw
     obtain⟨r,hr,hq⟩:=AL.1 hs;simp only[A6] at hq;obtain⟨rfl,EI⟩:=hq;obtain⟨e,rows⟩:=er;obtain⟨u6,hk,hO⟩:=h.whole hu hw;obtain⟨fp,h1,h2,h3,h4,h5,h6,h7,h8⟩:=ih hk hH (λk v y hv hy=>(Mg k v y hv hy).kill) hr;have C5:r.2.1=c:=by rw[EI]
     have DX:r.2.2=s':=by rw[EI]
     rw[C5] at h3;rw[DX] at h1 h4 h5 h6 h7 h8;have DK:(u6++fp++fl).Perm (fp++(u6++fl)):=by
      rw[<-List.append_assoc];exact Vee _ gF
     refine⟨u6++fp,h1.perm DK,by simpa using h2,λhc=>.cons hO.ow (h3 hc),λk u' y' Cl HL=>?_,h5,h6,λAv b hb=>I2 (h7 Av b hb),λg hg=>h8 g (VC hg)⟩;cases k with
     | zero=>
      have e1:u=u':=by simpa using Cl
      have e2:V.tr rows=y':=by simpa using HL
      subst e1;subst e2;exact (hO.ow.rd (λg hg=>hk.I3 (CC _ hg))).mono (λ_ _ _=>rfl) h8
     | succ k=>exact h4 k u' y' (by simpa using Cl) (by simpa using HL)
    .rename_i hw
     split at hs
     .rename_i b hb
      split at hs
      .rename_i Yw
       obtain⟨rows,Wq,hq0⟩:=A8.1 hs;obtain⟨r,hr,hq⟩:=AL.1 hq0;simp only[A6] at hq;obtain⟨rfl,hc,EI⟩:=hq;refine plain _ false (λhf=>by cases hf) (h.rowsOf hu Wq (λ_ h=>h) (λAv Fk Mh b' g o c' sz e Yx BP=>?_)) hr rfl (by rw[<-hc];simp) EI.symm;cases e;rw[hb] at Yx;injection Yx with Yx;subst Yx;rw[Yw] at BP;cases BP
      .cases hs
     .cases hs
   .cases hs
end
section
variable {P:Program} {B:Nat} {io:Nat->Prop} {w w':World} {a:Act} {tmps:Array Value} {s s':St} {U U':AX} {F F':Id->List Nat} {fl fl':List Nat} {k:Nat} {o:Oper} {v:V}
theorem Rel.I4 (h:Rel P B io w tmps s U F fl) {id:Id} {b:Bc} (hb:s.heap id=some b):∀g∈F id,g < w.heap.size:=by
 cases ho:b.own with
 | true=>exact h.CH id b hb ho
 | false=>
  have hB:=h.heap id b hb;unfold Xs at hB;rw[ho] at hB;split at hB
  .cases hB.1
  .rename_i h2;cases h2
  .intro g hg;rw[hB.1] at hg;cases hg
theorem X2 {id Av:Id} {b:Bc} (h:Av≠id):(s.A5 id b).heap Av=s.heap Av:=by simp[St.A5,Bi,h]
theorem KX {id:Id} {b:Bc}:(s.A5 id b).heap id=some b:=by simp[St.A5,Bi]
theorem Tm (w:World) (o:Obj):(w.alloc o).heap.size=w.heap.size+1:=by
 show (w.heap.push o).size=_;simp
theorem iB (w:World) (o:Obj):(w.alloc o).heap[w.heap.size]?=some o:=by
 show (w.heap.push o)[w.heap.size]?=_;simp
theorem iC {id:Id} {b:Bc} {i:G4} (Zt:U id=none) {g:Nat} (h:AJ (s.A5 id b) (Bi U id (some i)) g):AJ s U g\/∃o c sz,i=.Bl g o c sz:=by
 obtain⟨Av,b',o,c,sz,hb,ho,hU⟩:=h;by_cases e:Av=id
 .subst e
  rw[Z8] at hU;injection hU with hU;exact .inr ⟨o,c,sz,hU⟩
 .rw[X2 e] at hb
  rw[X9 e] at hU;exact .inl ⟨Av,b',o,c,sz,hb,ho,hU⟩
theorem J5.alloc {w0:World} (h:J5 B io w0 w) (hB:B<=w.heap.size) (ob:Obj):J5 B io w0 (w.alloc ob):=
 ⟨h.os,h.tape,h.output,by have:=h.size;have:=Tm w ob;omega,λg hg hn=>by rw[Below.heap_alloc w ob g (by omega)];exact h.block g hg hn⟩
theorem Rel.P4 (h:Rel P B io w tmps s U F fl) {id:Id} (Zt:U id=none) (Yk:id.1=s.ep) {ob:Obj} {b:Bc} {o c sz:Nat}
  (hn:Xs P (w.alloc ob) (AG (s.A5 id b) (Bi U id (some (.Bl w.heap.size o c sz))) (w.alloc ob)) (Bi U id (some (.Bl w.heap.size o c sz))) (some (.Bl w.heap.size o c sz)) [w.heap.size] b):
  Rel P B io (w.alloc ob) tmps (s.A5 id b) (Bi U id (some (.Bl w.heap.size o c sz))) (Bi F id [w.heap.size]) fl:=by
 have hs:=Tm w ob;refine h.step (nid:=id) rfl rfl (λAv b' e hb=>by rw[X2 e] at hb;exact hb) (λAv i hi=>?_) (λAv hi=>?_) (λAv e=>X9 e) (λAv e=>X9 e) ⟨λg _ hg=>Below.heap_alloc w ob g hg,λg hg Z7 ht=>?_,by omega⟩
  (λAv b' e hb g hg=>Below.heap_alloc w ob g (h.I4 (by rw[X2 e] at hb;exact hb) g hg)) (λk hk _=>Below.heap_alloc w ob k (Hc hk h.base)) (λb' hb=>?_) (λb' hb ho=>?_) (λb' hb ho Av BI e P5 Mi g hg Yc=>?_) (λb' hb ho=>?_) (λg hg=>by have:=h.AR g hg;omega)
  (λAv b' e hb ho g hg=>h.A7 Av b' (by rw[X2 e] at hb;exact hb) ho g hg) (λb' hb ho g hg Yc=>?_) h.AT
 .have:Av≠id:=by rintro rfl;rw[Zt] at hi;cases hi
  rw[X9 this];exact hi
 .by_cases e:Av=id
  .subst e;exact .inr Yk
  .rw[X9 e] at hi;exact .inl hi
 .rcases iC Zt ht with h1|⟨o',c',Ct,h1⟩
  .exact hg h1
  .injection h1 with h1;omega
 .rw[KX] at hb
  injection hb with hb;subst hb;rw[Z8,Z8];exact hn
 .rw[Z8]
  exact⟨λg hg=>by rw[List.mem_singleton.1 hg];omega,λ_ g hg=>by
   have:w.heap.size=g:=by simpa using hg
   have:=h.base;omega⟩
 .rw[Z8] at Yc
  rw[X2 e] at P5;have:=h.I4 P5 g hg;rw[List.mem_singleton.1 Yc] at this;omega
 .rw[Z8];simp
 .rw[Z8] at hg
  have:=h.AR g Yc;rw[List.mem_singleton.1 hg] at this;omega
theorem Ez {id:Id} {i:G4} (Zt:U id=none):∀Av j,U Av=some j->Bi U id (some i) Av=some j:=λAv j hj=>by
 rw[X9 (by rintro rfl;rw[Zt] at hj;cases hj)];exact hj
theorem Rel.P6 (h:Rel P B io w tmps s U F fl) {id:Id} (Zt:U id=none) (Yk:id.1=s.ep) {us:Array Value} {row:List V} {t e:TypeId} (hl:us.size=row.length) (G5:∀x∈row,AD x=true)
  (X7:∀(j:Nat) (u:Value) (x:V),us[j]?=some u->row[j]?=some x->En w (AG s U w) U u x):
  Rel P B io (w.alloc (.cells us t)) tmps (s.A5 id ⟨true,true,true,e,[row]⟩) (Bi U id (some (.Bl w.heap.size 0 1 row.length))) (Bi F id [w.heap.size]) fl:=by
 refine h.P4 Zt Yk ⟨rfl,w.heap.size,us,t,row,rfl,iB w _,rfl,hl,λj u x hu hx=>?_,G5,rfl⟩;refine (show En w (λg=>(¬AJ s U g)/\g < w.heap.size) U u x from X7 j u x hu hx).C8 ⟨λg _ hg=>Below.heap_alloc w _ g hg,λg hg Z7 ht=>?_,by rw[Tm];omega⟩ (Ez Zt);rcases iC Zt ht with h1|⟨o',c',Ct,h1⟩
 .exact hg h1
 .injection h1 with h1;omega
theorem Yme (h:Rel P B io w a.tmps s U F fl) {id:Id} (Zt:U id=none) (Yk:id.1=s.ep) (hk:id.2 / 1024=k) {us:Array Value} {row:List V} {t e:TypeId} (hl:us.size=row.length) (G5:∀x∈row,AD x=true)
  (X7:∀(j:Nat) (u:Value) (x:V),us[j]?=some u->row[j]?=some x->En w (AG s U w) U u x):
  Ch P B io w a.tmps s U fl k (.ptr id 0 0) (s.A5 id ⟨true,true,true,e,[row]⟩) (.pointer (some ⟨w.heap.size,0,none⟩)) (w.alloc (.cells us t)):=by
 refine⟨rfl,rfl,(J5.refl B io w).alloc h.base _,_,_,h.P6 Zt Yk (t:=t) (e:=e) hl G5 X7,?_,Ez Zt,λAv hi=>?_⟩
 .have:=En.ptr (w:=w.alloc (.cells us t)) (ok:=AG (s.A5 id ⟨true,true,true,e,[row]⟩) (Bi U id (some (.Bl w.heap.size 0 1 row.length))) (w.alloc (.cells us t))) (i:=0) (off:=0) (Z8 U id (some (.Bl w.heap.size 0 1 row.length)))
  simpa using this
 .by_cases e:Av=id
  .subst e;exact .inr ⟨Yk,hk⟩
  .rw[X9 e] at hi;exact .inl hi
theorem Y8f (h:Rel P B io w a.tmps s U F fl) {t:TypeId} {z:List V} (ho:o.op=.alloc t) (hz:Fc P t=some z) {id:Id} (Zt:U id=none) (Yk:id.1=s.ep) (hk:id.2 / 1024=k):
  Cg P o a w (Ch P B io w a.tmps s U fl k (.ptr id 0 0) (s.A5 id ⟨true,true,true,t,[z]⟩)):=by
 unfold Fc at hz;obtain⟨zv,Fl,hz⟩:=A8.1 hz;obtain⟨ti,CM,Xr⟩:=A8.1 Fl;split at hz
 .rename_i K3
  simp only[AB] at hz;subst hz;have hr:(execOp a.eval o).run P w=.ok (.value (.pointer (some ⟨w.heap.size,0,none⟩))) (w.alloc (.cells zv.cells t)):=by
   simp[execOp,ho,Instr.alloc,zeroValue,typeInfo,CM,Xr,newVar,newRow]
  refine .value hr (Yme h Zt Yk hk (by simp) (λx hx=>by obtain⟨u,_,rfl⟩:=Dx.1 hx;rfl) (λj u x hu hx=>?_));simp only[Dt,AL] at hx;obtain⟨y,hy,rfl⟩:=hx;have:u=y:=by
   have h1:zv.cells.toList[j]?=some u:=by simpa using hu
   rw[h1] at hy;injection hy
  subst this;exact .lit (Cd.1 K3 _ (Eh hy))
 .cases hz
theorem iD {w:World} {ok:Nat->Prop} {u:Value} {x:V} {cs:List V} (h:En w ok U u x) (hc:LZ x=some cs):u.cells.size=cs.length/\(∀y∈cs,AD y=true)/\∀(j:Nat) (v:Value) (y:V),u.cells[j]?=some v->cs[j]?=some y->En w ok U v y:=by
 have one:(∀vs,u≠.agg vs)->AD x=true->cs=[x]->u.cells.size=cs.length/\(∀y∈cs,AD y=true)/\∀(j:Nat) (v:Value) (y:V),u.cells[j]?=some v->cs[j]?=some y->En w ok U v y:=by
  rintro hu hx rfl;have huc:u.cells=#[u]:=by
   cases u<;>first|rfl|exact absurd rfl (hu _)
  rw[huc];refine⟨rfl,λy hy=>by rw[List.mem_singleton.1 hy];exact hx,λj v y hv hy=>?_⟩;cases j with
  | zero=>
   have h1:u=v:=by simpa using hv
   have h2:x=y:=by simpa using hy
   subst h1;subst h2;exact h
  | succ j=>simp at hy
 cases x<;>simp only[LZ,AB] at hc<;>try cases hc
 case agg=>cases h with|agg hl G5 hr=>exact⟨hl,G5,hr⟩
 case lit v=>cases h with|lit hs=>exact one (by rintro vs rfl;simp[D9] at hs) rfl rfl
 case ptr=>cases h;exact one (by rintro vs e;cases e) rfl rfl
 case rp=>cases h with|rp h2=>cases h2;exact one (by rintro vs e;cases e) rfl rfl
 case sl=>cases h<;>exact one (by rintro vs e;cases e) rfl rfl
 case tr=>cases h with|tr h2=>cases h2<;>exact one (by rintro vs e;cases e) rfl rfl
 case vw=>cases h with|vw h2=>cases h2<;>exact one (by rintro vs e;cases e) rfl rfl
 case fn=>cases h;exact one (by rintro vs e;cases e) rfl rfl
theorem P7 (h:Rel P B io w a.tmps s U F fl) {t:TypeId} {x:Operand} {cs:List V} (ho:o.op=.box t x) (hc:LZ (s.AP x)=some cs) {id:Id} (Zt:U id=none) (Yk:id.1=s.ep) (hk:id.2 / 1024=k):
  Cg P o a w (Ch P B io w a.tmps s U fl k (.ptr id 0 0) (s.A5 id ⟨true,true,true,t,[cs]⟩)):=by
 obtain⟨h1,h2,h3⟩:=iD (h.AP x) hc;have hr:(execOp a.eval o).run P w=.ok (.value (.pointer (some ⟨w.heap.size,0,none⟩))) (w.alloc (.cells (a.eval x).cells t)):=by
  simp[execOp,ho,Instr.box,newVar,newRow]
 exact .value hr (Yme h Zt Yk hk h1 h2 h3)
end
theorem En.one {w:World} {ok:Nat->Prop} {U:AX} {u:Value} {x:V} (h:En w ok U u x) (hx:AD x=true):u.oneCell'=true:=by
 cases h with
 | undef=>simp[AD] at hx
 | lit h=>cases u<;>simp_all [D9,Value.oneCell']
 | tr h=>exact h.one
 | vw h=>exact h.one
 | rp h=>exact h.one
 | ptr=>rfl
 | sl=>rfl
 | sle=>rfl
 | fn=>rfl
 | agg=>simp[AD] at hx
 | AZ=>simp[AD] at hx
theorem iE {row:List V} {n:Nat} {cs:List V} (hn:n+cs.length<=row.length) {j:Nat} {x:V} (h:(Dh row n cs)[j]?=some x):(n<=j/\j < n+cs.length/\cs[j - n]?=some x)\/((j < n\/n+cs.length<=j)/\row[j]?=some x):=by
 unfold Dh at h;by_cases h1:j < n
 .rw[List.append_assoc,EX (by simp;omega),Dg,Aj h1] at h
  exact .inr ⟨.inl h1,h⟩
 .rw[List.append_assoc,FE (by simp;omega)] at h
  have e:(row.take n).length=n:=by simp;omega
  rw[e] at h;by_cases h2:j - n < cs.length
  .rw[EX h2] at h
   exact .inl ⟨by omega,by omega,h⟩
  .rw[FE (by omega),D7] at h
   refine .inr ⟨.inr (by omega),?_⟩;rw[<-h];congr 1;omega
theorem VD {row:List V} {n:Nat} {cs:List V} (hn:n+cs.length<=row.length):(Dh row n cs).length=row.length:=by
 unfold Dh;simp;omega
theorem NI {α:Type} {cur:List α} {n:Nat} {vs:List α} (hn:n+vs.length<=cur.length) {j:Nat}:(cur.take n++vs++cur.drop (n+vs.length))[j]?=if n<=j/\j < n+vs.length then vs[j - n]? else cur[j]?:=by
 by_cases h1:j < n
 .rw[Ak (by omega),List.append_assoc,EX (by simp;omega),Dg,Aj h1]
 .rw[List.append_assoc,FE (by simp;omega)]
  have e:(cur.take n).length=n:=by simp;omega
  rw[e];by_cases h2:j - n < vs.length
  .rw[Aj (by omega),EX h2]
  .rw[Ak (by omega),FE (by omega),D7]
   congr 1;omega
section
variable {P:Program} {B:Nat} {io:Nat->Prop} {w w':World} {a:Act} {tmps:Array Value} {s s':St} {U U':AX} {F F':Id->List Nat} {fl fl':List Nat} {k:Nat} {o:Oper} {v:V}
theorem iF {id:Id} {b b':Bc} (hb:s.heap id=some b) (ho:b'.own=b.own):∀g,AJ (s.A5 id b') U g↔AJ s U g:=by
 intro g;constructor
 .rintro⟨Av,BI,o,c,sz,Yx,BP,hU⟩
  by_cases e:Av=id
  .subst e
   rw[KX] at Yx;injection Yx with Yx;subst Yx;exact⟨Av,b,o,c,sz,hb,by rw[<-ho];exact BP,hU⟩
  .rw[X2 e] at Yx
   exact⟨Av,BI,o,c,sz,Yx,BP,hU⟩
 .rintro⟨Av,BI,o,c,sz,Yx,BP,hU⟩
  by_cases e:Av=id
  .subst e
   rw[hb] at Yx;injection Yx with Yx;subst Yx;exact⟨Av,b',o,c,sz,KX,by rw[ho];exact BP,hU⟩
  .exact⟨Av,BI,o,c,sz,by rw[X2 e];exact Yx,BP,hU⟩
theorem Rel.write (h:Rel P B io w tmps s U F fl) {id:Id} {b b':Bc} {g o c sz:Nat} {new:Array Value} {cur:Array Value} {e:TypeId} {Fs:List Nat} (hb:s.heap id=some b) (ho:b.own=true) (BP:b'.own=true) (hU:U id=some (.Bl g o c sz)) (hg:w.heap[g]?=some (.cells cur e (0,0)))
  (hF:∃r,F id=g::r) (P8:∃r,Fs=g::r) (Hl:∀k∈Fs,k∈F id\/k∈fl) (Cu:Fs.Nodup) {fl':List Nat} (BM:∀k∈fl',k∈fl) (Py:fl'.Nodup) (VE:∀k∈Fs,k ∉ fl') (Fm:0 < c)
  (hn:Xs P (w.setRow g new) (AG (s.A5 id b') U (w.setRow g new)) U (some (.Bl g o c sz)) Fs b'):
  Rel P B io (w.setRow g new) tmps (s.A5 id b') U (Bi F id Fs) fl'/\J5 B io w (w.setRow g new)/\Iy w (w.setRow g new) (λg=>¬AJ s U g) (λg=>¬AJ (s.A5 id b') U g):=by
 obtain⟨r,I5⟩:=hF;have NJ:g∈F id:=by rw[I5];exact BJ
 have Wc:AJ s U g:=⟨id,b,o,c,sz,hb,ho,hU⟩;have Mj:(w.setRow g new).heap.size=w.heap.size:=by simp[World.setRow]
 have hk:Iy w (w.setRow g new) (λg=>¬AJ s U g) (λg=>¬AJ (s.A5 id b') U g):=
  ⟨λg' Yc _=>setRow_other w g g' _ (λe=>Yc (e▸Wc)),λg' Yc _ ht=>Yc ((iF hb (by rw[ho,BP])  g').1 ht),by rw[Mj];exact B2 _⟩
 refine⟨?_,⟨rfl,rfl,rfl,by rw[Mj];exact B2 _,λg' Yc Hi=>setRow_other w g g' _ (λe=>?_)⟩,hk⟩
 .refine h.step (nid:=id) rfl rfl (λAv BI e Yx=>by rw[X2 e] at Yx;exact Yx) (λ_ _ h=>h) (λ_ h=>.inl h) (λ_ _=>rfl) (λAv e=>X9 e) hk (λAv BI e Yx g' Yc=>setRow_other w g g' _ (λe'=>?_)) (λk hk Hi=>setRow_other w g k _ (λe=>by
    subst e;rcases h.top id b hb ho ⟨k,o,c,sz,hU,Fm⟩ k (by rw[I5];rfl) with h1|h1
    .exact Hi h1
    .omega)) (λBI Yx=>?_) (λBI Yx Mi=>?_) (λBI Yx Mi Av b3 e NK P9 g' Yc Ei=>?_) (λBI Yx Mi=>by rw[Z8];exact Cu)
   (λg' Yc=>by rw[Mj];exact h.AR g' (BM g' Yc)) (λAv BI e Yx Mi g' Yc Ei=>?_) (λBI Yx Mi g' Yc Ei=>by rw[Z8] at Yc;exact VE g' Yc Ei) Py
  .subst e'
   rw[X2 e] at Yx;cases Yw:BI.own with
   | true=>exact h.apart Av id BI b Yx Yw hb ho e g' Yc NJ
   | false=>
    have hB:=h.heap Av BI Yx;unfold Xs at hB;rw[Yw] at hB;split at hB
    .cases hB.1
    .rename_i h2;cases h2
    .rw[hB.1] at Yc;cases Yc
  .rw[KX] at Yx
   injection Yx with Yx;subst Yx;rw[Z8,hU];exact hn
  .rw[Z8]
   refine⟨λg' Yc=>?_,λ_ g' Yc=>?_⟩
   .rw[Mj]
    rcases Hl g' Yc with h1|h1
    .exact h.CH id b hb ho g' h1
    .exact h.AR g' h1
   .obtain⟨r',rfl⟩:=P8
    have e1:g=g':=by simpa using Yc
    subst e1;exact h.top id b hb ho ⟨g,o,c,sz,hU,Fm⟩ g (by rw[I5];rfl)
  .rw[Z8] at Ei
   rw[X2 e] at NK;rcases Hl g' Ei with h1|h1
   .exact h.apart Av id b3 b NK P9 hb ho e g' Yc h1
   .exact h.A7 Av b3 NK P9 g' Yc h1
  .rw[X2 e] at Yx
   exact h.A7 Av BI Yx Mi g' Yc (BM g' Ei)
 .subst e
  rcases h.top id b hb ho ⟨g',o,c,sz,hU,Fm⟩ g' (by rw[I5];rfl) with h1|h1
  .exact Hi h1
  .omega
end
section
variable {P:Program} {B:Nat} {io:Nat->Prop} {w w':World} {a:Act} {tmps:Array Value} {s s':St} {U U':AX} {F F':Id->List Nat} {fl fl':List Nat} {k:Nat} {o:Oper} {v:V}
theorem Ypn {t:TypeId} {x y:Operand} {g n:Nat} {cur:Array Value} {e:TypeId} (ho:o.op=.store t x y) (hx:a.eval x=.pointer (some ⟨g,n,none⟩)) (hl:(a.eval y).cells.size=Z4 P t) (hz:Z4 P t≠0) (hg:w.heap[g]?=some (.cells cur e (0,0)))
  (NL:n+Z4 P t<=cur.size) (h1:∀u∈(a.eval y).cells.toList,u.oneCell'=true):
  (execOp a.eval o).run P w=.ok .skip (w.setRow g (cur.toList.take n++(a.eval y).cells.toList++cur.toList.drop (n+(a.eval y).cells.toList.length)).toArray):=by
 obtain⟨ti,CM,Ww⟩:∃ti,P.info? t=some ti/\ti.size=Z4 P t:=by
  unfold Z4 Program.cellsOf at hz ⊢;cases hq:P.info? t with
  | none=>rw[hq] at hz;simp at hz
  | some ti=>exact⟨ti,rfl,rfl⟩
 have hs:=run_storeCells_at P g n e (a.eval y).cells.toList 0 cur w hg (by simpa [hl] using NL) h1;simp only[He] at hs;simp[execOp,ho,hx,Instr.storeAt,Instr.sureAddr,storeVar,Go.sizeOf,typeInfo,CM,Ww,hl,hs]
theorem Yza (h:Rel P B io w a.tmps s U F fl) {t:TypeId} {x y:Operand} {id:Id} {j n:Nat} {b:Bc} {row cs:List V} (ho:o.op=.store t x y) (hx:s.AP x=.ptr id j n) (hb:s.heap id=some b) (Xg:b.rows[j]?=some row) (hc:LZ (s.AP y)=some cs)
  (Yw:b.own=true) (Xl:b.box=true) (W8:cs.length=Z4 P t) (NL:n+Z4 P t<=row.length) (hz:Z4 P t≠0):
  Cg P o a w (Ch P B io w a.tmps s U fl k .undef (s.A5 id {b with rows:=b.rows.set j (Dh row n cs)})):=by
 have E0:=h.AP x;rw[hx] at E0;obtain⟨Cz,DL,G7⟩:=iD (h.AP y) hc;generalize hq:a.eval x=q at E0;cases E0 with
 | @ptr _ g o' c sz _ _ hU=>
  have hB:=h.heap id b hb;rw[hU] at hB;have hB':=hB;unfold Xs at hB;rw[Xl] at hB;obtain⟨_,g',cur,e,Ci,hi,hg,hr,hs,he,G5,hF⟩:=hB;cases hi;rw[hr] at Xg;have hj:j=0/\Ci=row:=by
   cases j with
   | zero=>exact⟨rfl,by simpa using Xg⟩
   | succ j=>simp at Xg
  obtain⟨rfl,rfl⟩:=hj;simp only[gV,Pq] at hq;have Yo:(a.eval y).cells.size=Z4 P t:=by rw[Cz,W8]
  have Xt:=Ypn (P:=P) ho hq Yo hz hg (by omega) (λu hu=>by
   obtain⟨m,hm⟩:=HF hu;have DA:(a.eval y).cells[m]?=some u:=by simpa using hm
   have Z7:m < cs.length:=by have:=(HE.1 DA).1;omega
   exact (G7 m u _ DA (CB Z7)).one (DL _ (B5 Z7)))
  generalize Y4:(cur.toList.take n++(a.eval y).cells.toList++cur.toList.drop (n+(a.eval y).cells.toList.length)).toArray=new at Xt;have I6:(a.eval y).cells.toList.length=cs.length:=by simpa using Cz
  have Hm:n+cs.length<=Ci.length:=by omega
  have Wq:b.rows.set 0 (Dh Ci n cs)=[Dh Ci n cs]:=by rw[hr];rfl
  have V9:new.size=Ci.length:=by rw[<-Y4];simp only[List.size_toArray,Cy,FZ,gN,Array.length_toList,I6];simp at I6;omega
  have VF:∀g',AJ (s.A5 id {b with rows:=b.rows.set 0 (Dh Ci n cs)}) U g'↔AJ s U g':=iF hb rfl;have hwk:Iy w (w.setRow g new) (λg=>¬AJ s U g) (λg=>¬AJ (s.A5 id {b with rows:=b.rows.set 0 (Dh Ci n cs)}) U g):=
   ⟨λg' Yc _=>setRow_other w g g' _ (λe=>Yc (e▸⟨id,b,_,_,_,hb,Yw,hU⟩)),λg' Yc _ ht=>Yc ((VF g').1 ht),by simp⟩
  obtain⟨h1,h2,h3⟩:=h.write (b':={b with rows:=b.rows.set 0 (Dh Ci n cs)}) (Fs:=F id) (fl':=fl) (new:=new) hb Yw Yw hU hg ⟨[],hF⟩ ⟨[],hF⟩ (λk hk=>.inl hk) (h.once id b hb Yw) (λ_ h=>h) h.AT (h.A7 id b hb Yw) (by omega) (by
   refine .Iz (row:=Dh Ci n cs) Xl Yw (by rw[VD Hm]) (setRow_heap w g cur new e (0,0) hg) Wq (by rw[VD Hm];exact V9) (λm u z hu hz=>?_) (λz hz=>?_) hF
   .have Cl:(cur.toList.take n++(a.eval y).cells.toList++cur.toList.drop (n+(a.eval y).cells.toList.length))[m]?=some u:=by rw[<-Y4] at hu;simpa using hu
    rw[NI (by simp only[Array.length_toList,I6];omega),I6] at Cl;rcases iE Hm hz with⟨h4,h5,h6⟩|⟨h4,h6⟩
    .rw[Aj ⟨h4,h5⟩] at Cl
     exact (show En w (λg=>(¬AJ s U g)/\g < w.heap.size) U u z from G7 _ u z (by simpa using Cl) h6).C8 hwk (λ_ _ h=>h)
    .rw[Ak (by omega)] at Cl
     exact (show En w (λg=>(¬AJ s U g)/\g < w.heap.size) U u z from he m u z (by simpa using Cl) h6).C8 hwk (λ_ _ h=>h)
   .obtain⟨m,hm⟩:=HF hz
    rcases iE Hm hm with⟨_,_,h6⟩|⟨_,h6⟩
    .exact DL z (Eh h6)
    .exact G5 z (Eh h6))
  refine .skip Xt ⟨rfl,rfl,h2,U,Bi F id (F id),h1,.undef,λ_ _ h=>h,λ_ h=>.inl h⟩
end
theorem B3.split {w:World}:∀(n:Nat) {vs:List Value} {xs:List V} {fp:List Nat},B3 w vs xs fp->∃f1 f2,fp=f1++f2/\B3 w (vs.take n) (xs.take n) f1/\B3 w (vs.drop n) (xs.drop n) f2:=by
 intro n
 induction n with
 | zero=>intro vs xs fp h;exact⟨[],fp,rfl,by simp;exact .nil,h⟩
 | succ n ih=>
  intro vs xs fp h;cases xs with
  | nil=>cases h;exact⟨[],[],rfl,.nil,.nil⟩
  | cons x xs=>
   cases h with
   | @cons v _ vs _ f1 f2 h hs=>
    obtain⟨g1,g2,e,h1,h2⟩:=ih hs;exact⟨f1++g1,g2,by rw[e,List.append_assoc],.cons h h1,h2⟩
theorem B3.put {w:World} {vs us:List Value} {xs ys:List V} {f f2:List Nat} (h:B3 w vs xs f) (h2:B3 w us ys f2) (m:Nat):∃f',B3 w (vs.take m++us++vs.drop (m+us.length)) (xs.take m++ys++xs.drop (m+us.length)) f'/\(∀k∈f',k∈f\/k∈f2)/\((f++f2).Nodup->f'.Nodup):=by
 obtain⟨f1,fr,rfl,ha,hb⟩:=h.split m;obtain⟨fm,fd,rfl,hc,hd⟩:=hb.split us.length;rw[List.drop_drop,List.drop_drop] at hd;have e:(f1++f2++fd).Perm (f1++fd++f2):=by
  rw[List.append_assoc,List.append_assoc];exact List.Perm.append_left _ gF
 have DK:(f1++fd++f2).Sublist (f1++(fm++fd)++f2):=Vo (Vo (N4 _) (Im _ _)) (N4 _);refine⟨f1++f2++fd,(ha.append h2).append hd,λk hk=>?_,λhn=>e.nodup_iff.2 (hn.sublist DK)⟩;have:=DK.subset (e.mem_iff.1 hk);exact BU.1 this
theorem Yyp {α:Type} {sz:Nat}:∀{rows:List (List α)} {j:Nat} {row:List α} {n:Nat} {ys:List α},(∀r∈rows,r.length=sz)->rows[j]?=some row->n+ys.length<=sz->
  (rows.set j (row.take n++ys++row.drop (n+ys.length))).flatten=rows.flatten.take (j*sz+n)++ys++rows.flatten.drop (j*sz+n+ys.length):=by
 intro rows
 induction rows with
 | nil=>intro j row n ys _ h;simp at h
 | cons r rs ih=>
  intro j row n ys hs hj hn;have hr:r.length=sz:=hs r BJ;cases j with
  | zero=>
   have:r=row:=by simpa using hj
   subst this;simp only[List.set_cons_zero,DV,gV,Pq];rw[Vdv (by omega),List.drop_append_of_le_length (by omega)];simp only[List.append_assoc]
  | succ j=>
   have h1:=ih (λr h=>hs r (Cp _ h)) (show rs[j]?=some row by simpa using hj) hn;simp only[List.set_cons_succ,DV,h1];rw[show (j+1)*sz+n=r.length+(j*sz+n) by rw[KL,hr];omega,List.take_length_add_append,show r.length+(j*sz+n)+ys.length=r.length+(j*sz+n+ys.length) by omega,List.drop_length_add_append];simp only[List.append_assoc]
section
variable {P:Program} {B:Nat} {io:Nat->Prop} {w w':World} {a:Act} {tmps:Array Value} {s s':St} {U U':AX} {F F':Id->List Nat} {fl fl':List Nat} {k:Nat} {o:Oper} {v:V}
theorem Yyf (h:Rel P B io w a.tmps s U F fl) {t:TypeId} {x y:Operand} {id:Id} {j n:Nat} {b b1:Bc} {row cs ys:List V} {c:Bool} {s1:St} (ho:o.op=.store t x y) (hx:s.AP x=.ptr id j n) (hb:s.heap id=some b) (Xg:b.rows[j]?=some row) (hc:LZ (s.AP y)=some cs)
  (Yw:b.own=true) (Xl:b.box=false) (W8:cs.length=Z4 P t) (NL:n+Z4 P t<=row.length) (hz:Z4 P t≠0) (VG:s.sink cs=some (ys,c,s1)) (CA:s1.heap id=some b1):
  Cg P o a w (Ch P B io w a.tmps s U fl k .undef (s1.A5 id {b1 with cl:=b1.cl&&c,rows:=b1.rows.set j (Dh row n ys)})):=by
 have E0:=h.AP x;rw[hx] at E0;obtain⟨Cz,DL,G7⟩:=iD (h.AP y) hc;generalize hq:a.eval x=q at E0;cases E0 with
 | @ptr _ g o' c' sz _ _ hU=>
  obtain⟨fp,hR,Tn,Tl,iA,CN,Yk,DK,VH⟩:=Yz7 cs (us:=(a.eval y).cells.toList) h (by simpa using Cz) (λm u z hu hz=>G7 m u z (by simpa using hu) hz) VG;have u7:b1=b:=by
   have:=DK id b1 CA;rw[hb] at this;injection this with this;exact this.symm
  subst u7;have hB:=hR.heap id b1 CA;rw[hU] at hB;unfold Xs at hB;rw[Xl,Yw] at hB;rcases hB with⟨Y3,_⟩|⟨g',gZ,c'',cur,Y3,hg,hl,hm,BX,Pv,r,hF,h1,h2⟩
  .cases Y3
  .cases Y3
   have Dj:row.length=P.cellsOf b1.el:=BX row (Eh Xg);have KU:=(CZ.1 Xg).1;have Yo:(a.eval y).cells.size=Z4 P t:=by rw[Cz,W8]
   have I6:(a.eval y).cells.toList.length=cs.length:=by simpa using Cz
   have hyc:ys.length=cs.length:=by rw[<-Tn,I6]
   have hfitc:o'+j*P.cellsOf b1.el+n+cs.length<=cur.size:=by
    have:(j+1)*P.cellsOf b1.el<=c'*P.cellsOf b1.el:=N3 _ (by omega);rw[KL] at this;omega
   have Xt:=Ypn (P:=P) ho hq Yo hz hg (by omega) (λu hu=>by
    obtain⟨m,DA⟩:=HF hu;have DA:(a.eval y).cells[m]?=some u:=by simpa using DA
    have Z7:m < cs.length:=by have:=(HE.1 DA).1;omega
    exact (G7 m u _ DA (CB Z7)).one (DL _ (B5 Z7)))
   have hsy:Dh row n ys=row.take n++ys++row.drop (n+ys.length):=rfl;have To:=Yyp (ys:=ys) BX Xg (show n+ys.length<=P.cellsOf b1.el by omega);rw[<-hsy] at To;have NM:=HM BX;generalize NF:(a.eval y).cells.toList=us at Xt Tl iA Tn I6;have Mk:j*P.cellsOf b1.el+n+us.length<=b1.rows.length*P.cellsOf b1.el:=by
    have:(j+1)*P.cellsOf b1.el<=b1.rows.length*P.cellsOf b1.el:=N3 _ (by omega);rw[KL] at this;omega
   have hbc:b1.rows.length*P.cellsOf b1.el<=c'*P.cellsOf b1.el:=N3 _ hl;have NJ:g∈F id:=by rw[hF];exact BJ
   have I7:g ∉ r:=by
    have:=hR.once id b1 CA Yw;rw[hF] at this;exact (EF.1 this).1
   have Tp:g ∉ fp++fl:=hR.A7 id b1 CA Yw g NJ;generalize Y4:(cur.toList.take (o'+j*P.cellsOf b1.el+n)++us++cur.toList.drop (o'+j*P.cellsOf b1.el+n+us.length)).toArray=new at Xt;have KY:new.size=cur.size:=by rw[<-Y4];simp;omega
   have NN:∀m,new[o'+m]?=if j*P.cellsOf b1.el+n<=m/\m < j*P.cellsOf b1.el+n+us.length then us[m - (j*P.cellsOf b1.el+n)]? else cur[o'+m]?:=by
    intro m;rw[<-Y4];have:=NI (cur:=cur.toList) (n:=o'+j*P.cellsOf b1.el+n) (vs:=us) (by simp;omega) (j:=o'+m);rw[gE,this];by_cases hc:j*P.cellsOf b1.el+n<=m/\m < j*P.cellsOf b1.el+n+us.length
    .rw[Aj (by omega),Aj hc];congr 1;omega
    .rw[Ak (by omega),Ak hc];simp
   have Ml:∀k',k'≠g->(w.setRow g new).heap[k']?=w.heap[k']?:=λk' W9=>setRow_other w g k' _ W9;have PA:∀r'∈b1.rows.set j (Dh row n ys),r'.length=P.cellsOf b1.el:=λr' Cj=>by
    rcases Vj Cj with h4|h4
    .exact BX r' h4
    .rw[h4,VD (by omega)];exact Dj
   have PB:(b1.rows.set j (Dh row n ys)).length=b1.rows.length:=KI;have Fj:(new.toList.drop o').take (b1.rows.length*P.cellsOf b1.el)=((cur.toList.drop o').take (b1.rows.length*P.cellsOf b1.el)).take (j*P.cellsOf b1.el+n)++us++((cur.toList.drop o').take (b1.rows.length*P.cellsOf b1.el)).drop (j*P.cellsOf b1.el+n+us.length):=by
    apply Vp;intro m;rw[NI (by simp;omega),Dg,Dg,D7,D7];have hm:=NN m;simp only[gG];rw[hm];by_cases hc:j*P.cellsOf b1.el+n<=m/\m < j*P.cellsOf b1.el+n+us.length
    .rw[Aj hc,Aj hc,Aj (by omega)]
    .rw[Ak hc,Ak hc]
   have htb:∀b':Bc,b'.own=true->∀g',AJ (s1.A5 id b') U g'->AJ s1 U g':=λb' Yx g'=>(iF CA (by rw[Yx,Yw]) g').1;have VI:∀b':Bc,b'.own=true->∀g',AG s1 U w g'->AG (s1.A5 id b') U (w.setRow g new) g':=λb' Yx g' Yc=>⟨λht=>Yc.1 (htb b' Yx g' ht),by simpa using Yc.2⟩;have Wc:AJ s1 U g:=⟨id,b1,_,_,_,CA,Yw,hU⟩;have Ej:∀b':Bc,b'.own=true->∀{u:Value} {z:V},Rd w (AG s1 U w) u z->Rd (w.setRow g new) (AG (s1.A5 id b') U (w.setRow g new)) u z:=λb' Yx u z hu=>
    hu.mono (λg' Yc _=>Ml g' (λe=>Yc.1 (e▸Wc))) (VI b' Yx)
   have fin:∀(Fs:List Nat),(∃r',Fs=g::r')->(∀k'∈Fs,k'∈F id\/k'∈fp++fl)->Fs.Nodup->(∀k'∈Fs,k' ∉ fl)->
     Xs P (w.setRow g new) (AG (s1.A5 id {b1 with cl:=b1.cl&&c,rows:=b1.rows.set j (Dh row n ys)}) U (w.setRow g new)) U (some (.Bl g o' c' (P.cellsOf b1.el))) Fs {b1 with cl:=b1.cl&&c,rows:=b1.rows.set j (Dh row n ys)}->
     Cg P o a w (Ch P B io w a.tmps s U fl k .undef (s1.A5 id {b1 with cl:=b1.cl&&c,rows:=b1.rows.set j (Dh row n ys)})):=by
    intro Fs P8 Hl Cu VE u9;obtain⟨w1,w2,w3⟩:=hR.write (b':={b1 with cl:=b1.cl&&c,rows:=b1.rows.set j (Dh row n ys)}) (Fs:=Fs) (fl':=fl) (new:=new) CA Yw Yw hU hg ⟨r,hF⟩ P8 Hl Cu (λk' W9=>Ds _ W9) h.AT VE (by omega) u9;exact .skip Xt ⟨CN,Yk,w2,U,Bi F id Fs,w1,.undef,λ_ _ h=>h,λ_ h=>.inl h⟩
   by_cases Cm:(b1.cl&&c)=true
   .rw[Bg] at Cm
    have vA:=(h1 Cm.1).frame (w':=w.setRow g new) (λk' W9=>Ml k' (λe=>I7 (e▸W9)));have PC:=(Tl Cm.2).frame (w':=w.setRow g new) (λk' W9=>Ml k' (λe=>Tp (e▸CC _ W9)));obtain⟨f',hO,NO,vB⟩:=vA.put PC (j*P.cellsOf b1.el+n);rw[<-Fj,show us.length=ys.length by omega,<-To] at hO;have vC:(r++fp).Nodup:=by
     have n1:=hR.once id b1 CA Yw;rw[hF] at n1;refine EE.2 ⟨(EF.1 n1).2,(EE.1 hR.AT).1,λp hp q hq e=>?_⟩;subst e;exact hR.A7 id b1 CA Yw p (by rw[hF];exact Cp _ hp) (CC _ hq)
    have VJ:g ∉ f':=λhf=>by
     rcases NO g hf with h4|h4
     .exact I7 h4
     .exact Tp (CC _ h4)
    refine fin (g::f') ⟨f',rfl⟩ (λk' W9=>?_) (EF.2 ⟨VJ,vB vC⟩) (λk' W9 VK=>?_) (.Cr (fp:=f') Xl Yw rfl (setRow_heap w g cur new _ _ hg) (by rw[PB];exact hl) hm PA (by rw[KY];exact Pv) rfl (λ_=>by rw[PB];exact hO) (λhf=>by simp[Cm.1,Cm.2] at hf))
    .rcases Ce.1 W9 with rfl|W9
     .exact .inl NJ
     .rcases NO k' W9 with h4|h4
      .exact .inl (by rw[hF];exact Cp _ h4)
      .exact .inr (CC _ h4)
    .rcases Ce.1 W9 with rfl|W9
     .exact Tp (Ds _ VK)
     .rcases NO k' W9 with h4|h4
      .exact hR.A7 id b1 CA Yw k' (by rw[hF];exact Cp _ h4) (Ds _ VK)
      .exact (EE.1 hR.AT).2.2 k' h4 k' VK rfl
   .have NP:∀(m:Nat) (z:V),b1.rows.flatten[m]?=some z->∃u,cur[o'+m]?=some u/\Rd w (AG s1 U w) u z:=by
     intro m z Hn;cases VL:b1.cl with
     | true=>
      obtain⟨u,hu,hr⟩:=(h1 VL).rd (ok:=AG s1 U w) (λk' W9=>hR.G6 CA Yw hU (by rw[hF];exact Cp _ W9) (λg' _ _ _ e=>by cases e;rintro rfl;exact I7 W9)) Hn;rw[Dg] at hu;split at hu
      .exact⟨u,by simpa using hu,hr⟩
      .cases hu
     | false=>exact (h2 VL).2 m z Hn
    refine fin [g] ⟨[],rfl⟩ (λk' W9=>.inl (by rw[List.mem_singleton.1 W9];exact NJ)) (by simp) (λk' W9 VK=>Tp (Ds _ (by rw[<-List.mem_singleton.1 W9];exact VK))) (.Cr (fp:=[]) Xl Yw rfl (setRow_heap w g cur new _ _ hg) (by rw[PB];exact hl) hm PA (by rw[KY];exact Pv) rfl (λhf=>absurd hf Cm) (λ_=>⟨rfl,λm z Hn=>?_⟩));rw[To,NI (by rw[NM];omega)] at Hn;rw[NN m,show us.length=ys.length by omega];split at Hn
    .rename_i hc
     rw[Aj hc];have Z7:m - (j*P.cellsOf b1.el+n) < us.length:=by omega
     refine⟨us[m - (j*P.cellsOf b1.el+n)],CB Z7,Ej {b1 with cl:=b1.cl&&c,rows:=b1.rows.set j (Dh row n ys)} Yw (iA _ _ z (CB Z7) Hn)⟩
    .rename_i hc
     rw[Ak hc];obtain⟨u,hu,hr⟩:=NP m z Hn;exact⟨u,hu,Ej {b1 with cl:=b1.cl&&c,rows:=b1.rows.set j (Dh row n ys)} Yw hr⟩
end
section
variable {P:Program} {B:Nat} {io:Nat->Prop} {w w':World} {tmps:Array Value} {s s':St} {U U':AX} {F F':Id->List Nat} {fl fl':List Nat}
theorem iG {i id:Id} {b b':Bc} {g o c sz o' c' Ct:Nat} (Zt:U id=none) (hb:s.heap i=some b) (ho:b.own=true) (hU:U i=some (.Bl g o c sz)):
  ∀g',AJ ((s.kill i).A5 id b') (Bi U id (some (.Bl g o' c' Ct))) g'->AJ s U g':=by
 rintro g' ⟨Av,BI,o2,c2,uV,Yx,BP,Di⟩;by_cases e:Av=id
 .subst e
  rw[Z8] at Di;injection Di with Di;injection Di with hg;subst hg;exact⟨i,b,o,c,sz,hb,ho,hU⟩
 .rw[X2 e] at Yx
  rw[X9 e] at Di;exact⟨Av,BI,o2,c2,uV,I2 Yx,BP,Di⟩
theorem Rel.move (h:Rel P B io w tmps s U F fl) {i id:Id} {b b':Bc} {g o c sz o' c' Ct:Nat} {Fs:List Nat} (Zt:U id=none) (Yk:id.1=s.ep) (hb:s.heap i=some b) (ho:b.own=true) (hU:U i=some (.Bl g o c sz))
  (hF:∃r,F i=g::r) (P8:∃r,Fs=g::r) (Hl:∀k∈Fs,k∈F i) (Cu:Fs.Nodup) (Fm:0 < c'->0 < c)
  (hn:Xs P w (AG ((s.kill i).A5 id b') (Bi U id (some (.Bl g o' c' Ct))) w) (Bi U id (some (.Bl g o' c' Ct))) (some (.Bl g o' c' Ct)) Fs b'):
  Rel P B io w tmps ((s.kill i).A5 id b') (Bi U id (some (.Bl g o' c' Ct))) (Bi F id Fs) fl:=by
 have Yg:i≠id:=by rintro rfl;rw[Zt] at hU;cases hU
 have old:∀{Av:Id} {BI:Bc},Av≠id->((s.kill i).A5 id b').heap Av=some BI->s.heap Av=some BI/\Av≠i:=λ{Av BI} e Yx=>by
  rw[X2 e] at Yx;refine⟨I2 Yx,?_⟩;rintro rfl;rw[Ka] at Yx;cases Yx
 obtain⟨r,I5⟩:=hF;refine h.step (nid:=id) rfl rfl (λAv BI e Yx=>(old e Yx).1) (Ez Zt) (λAv hi=>?_) (λAv e=>X9 e) (λAv e=>X9 e) (.same (iG Zt hb ho hU)) (λ_ _ _ _ _ _=>rfl) (λ_ _ _=>rfl)
  (λBI Yx=>?_) (λBI Yx BP=>?_) (λBI Yx BP Av b3 e NK P9 g' Yc Ei=>?_) (λBI Yx BP=>by rw[Z8];exact Cu) h.AR
  (λAv BI e Yx BP=>h.A7 Av BI (old e Yx).1 BP) (λBI Yx BP g' Yc=>?_) h.AT
 .by_cases e:Av=id
  .subst e;exact .inr Yk
  .rw[X9 e] at hi;exact .inl hi
 .rw[KX] at Yx
  injection Yx with Yx;subst Yx;rw[Z8,Z8];exact hn
 .rw[Z8]
  refine⟨λg' Yc=>h.CH i b hb ho g' (Hl g' Yc),λCm g' Yc=>?_⟩;obtain⟨r',rfl⟩:=P8;have e1:g=g':=by simpa using Yc
  subst e1;exact h.top i b hb ho (by
   rw[Z8] at Cm;obtain⟨_,_,_,_,e2,h2⟩:=Cm;injection e2 with e2;injection e2 with _ _ e3 _;exact⟨g,o,c,sz,hU,Fm (by rw[e3];exact h2)⟩) g (by rw[I5];rfl)
 .rw[Z8] at Ei
  obtain⟨h3,h4⟩:=old e NK;exact h.apart Av i b3 b h3 P9 hb ho h4 g' Yc (Hl g' Ei)
 .rw[Z8] at Yc
  exact h.A7 i b hb ho g' (Hl g' Yc)
theorem Rel.fresh (h:Rel P B io w tmps s U F fl) {id:Id} (Zt:U id=none) (Yk:id.1=s.ep) (Ww:w'.heap.size=w.heap.size+1) (KZ:∀g,g < w.heap.size->w'.heap[g]?=w.heap[g]?) {b:Bc} {o c sz:Nat} {r:List Nat}
  (hr:∀k∈r,k∈fl) (Cu:r.Nodup) (BM:∀k∈fl',k∈fl) (Py:fl'.Nodup) (VE:∀k∈r,k ∉ fl')
  (hn:Xs P w' (AG (s.A5 id b) (Bi U id (some (.Bl w.heap.size o c sz))) w') (Bi U id (some (.Bl w.heap.size o c sz))) (some (.Bl w.heap.size o c sz)) (w.heap.size::r) b):
  Rel P B io w' tmps (s.A5 id b) (Bi U id (some (.Bl w.heap.size o c sz))) (Bi F id (w.heap.size::r)) fl':=by
 refine h.step (nid:=id) rfl rfl (λAv b' e hb=>by rw[X2 e] at hb;exact hb) (Ez Zt) (λAv hi=>?_) (λAv e=>X9 e) (λAv e=>X9 e) ⟨λg _ hg=>KZ g hg,λg hg Z7 ht=>?_,by omega⟩
  (λAv b' e hb g hg=>KZ g (h.I4 (by rw[X2 e] at hb;exact hb) g hg)) (λk hk _=>KZ k (Hc hk h.base)) (λb' hb=>?_) (λb' hb ho=>?_) (λb' hb ho Av BI e P5 Mi g hg Yc=>?_) (λb' hb ho=>?_) (λg hg=>by have:=h.AR g (BM g hg);omega)
  (λAv b' e hb ho g hg Yc=>h.A7 Av b' (by rw[X2 e] at hb;exact hb) ho g hg (BM g Yc)) (λb' hb ho g hg Yc=>?_) Py
 .by_cases e:Av=id
  .subst e;exact .inr Yk
  .rw[X9 e] at hi;exact .inl hi
 .rcases iC Zt ht with h1|⟨o',c',Ct,h1⟩
  .exact hg h1
  .injection h1 with h1;omega
 .rw[KX] at hb
  injection hb with hb;subst hb;rw[Z8,Z8];exact hn
 .rw[Z8]
  refine⟨λg hg=>?_,λ_ g hg=>?_⟩
  .rcases Ce.1 hg with rfl|hg
   .omega
   .have:=h.AR g (hr g hg);omega
  .have:w.heap.size=g:=by simpa using hg
   have:=h.base;omega
 .rw[Z8] at Yc
  rw[X2 e] at P5;have:=h.I4 P5 g hg;rcases Ce.1 Yc with rfl|Yc
  .omega
  .exact h.A7 Av BI P5 Mi g hg (hr g Yc)
 .rw[Z8]
  refine EF.2 ⟨λhm=>?_,Cu⟩;have:=h.AR _ (hr _ hm);omega
 .rw[Z8] at hg
  rcases Ce.1 hg with rfl|hg
  .have:=h.AR _ (BM _ Yc);omega
  .exact VE g hg Yc
end
section
variable {P:Program} {B:Nat} {io:Nat->Prop} {w w':World} {tmps:Array Value} {s s':St} {U U':AX} {F F':Id->List Nat} {fl fl':List Nat}
theorem Rel.grown {r:List Nat} (h:Rel P B io w tmps s U F (r++fl)) {id:Id} (Zt:U id=none) (Yk:id.1=s.ep) (Ww:w'.heap.size=w.heap.size+1) (KZ:∀g,g < w.heap.size->w'.heap[g]?=w.heap[g]?)
  {us zs:List Value} {rows:List (List V)} {e:TypeId} {cl:Bool} {c:Nat} (CO:w'.heap[w.heap.size]?=some (.cells (us++zs).toArray e (0,0))) (hl:rows.length<=c) (hm:c<=maxLen) (hu:∀q∈rows,q.length=P.cellsOf e)
  (Yo:us.length=rows.length*P.cellsOf e) (hz:us.length+zs.length=c*P.cellsOf e) (h1:cl=true->B3 w us rows.flatten r)
  (h2:cl=false->r=[]/\∀(k:Nat) (x:V),rows.flatten[k]?=some x->∃v,us[k]?=some v/\Rd w (AG s U w) v x):
  Rel P B io w' tmps (s.A5 id ⟨false,true,cl,e,rows⟩) (Bi U id (some (.Bl w.heap.size 0 c (P.cellsOf e)))) (Bi F id (w.heap.size::r)) fl:=by
 have Cu:=EE.1 h.AT;refine h.fresh Zt Yk Ww KZ (λk hk=>CC _ hk) Cu.1 (λk hk=>Ds _ hk) Cu.2.1 (λk hk W9=>Cu.2.2 k hk k W9 rfl) ?_;refine Xs.Cr rfl rfl rfl CO hl hm hu (by simpa using hz.symm) rfl (λW8=>?_) (λW8=>?_)
 .have:((us++zs).toArray.toList.drop 0).take (rows.length*P.cellsOf e)=us:=by simp[<-Yo]
  show B3 w' (((us++zs).toArray.toList.drop 0).take (rows.length*P.cellsOf e)) rows.flatten r;rw[this];exact (h1 W8).frame λg hg=>KZ g ((h1 W8).lt g hg)
 .obtain⟨hr,hc⟩:=h2 W8
  refine⟨hr,λk x hk=>?_⟩;obtain⟨v,hv,Ej⟩:=hc k x hk;refine⟨v,?_,(show Rd w (λg=>(¬AJ s U g)/\g < w.heap.size) v x from Ej).C8 (ok':=λg=>¬AJ (s.A5 id ⟨false,true,cl,e,rows⟩) (Bi U id (some (.Bl w.heap.size 0 c (P.cellsOf e)))) g) ⟨λg _ hg=>KZ g hg,λg hg Z7 ht=>?_,by omega⟩⟩
  .have Z7:=(CZ.1 hv).1
   simp[EX Z7,hv]
  .rcases iC Zt ht with h3|⟨o',c',Ct,h3⟩
   .exact hg h3
   .injection h3 with h3;omega
end
theorem B3.lits {w:World} {ok:Nat->Prop}:∀{xs:List V} {us:List Value},us.length=xs.length->(∀(k:Nat) (x:V),xs[k]?=some x->∃v,us[k]?=some v/\Rd w ok v x)->xs.all Ma=true->B3 w us xs []:=by
 intro xs
 induction xs with
 | nil=>intro us hl _ _;rw[Gz hl];exact .nil
 | cons x xs ih=>
  intro us hl h ha;cases us with
  | nil=>simp at hl
  | cons u us=>
   simp only[DW,Bg] at ha;obtain⟨v,hv,hr⟩:=h 0 x rfl;have e:u=v:=by simpa using hv
   subst e;have hO:Ow w u x []:=by
    cases x<;>simp[Ma] at ha;cases hr with|lit hs=>exact .lit hs
   have:=B3.cons hO (ih (us:=us) (by simpa using hl) (λk y hk=>h (k+1) y (by simpa using hk)) ha.2);simpa using this
theorem Xb0 {w:World} {ok:Nat->Prop} {a:Addr} {xs:List V} (h:∀(k:Nat) (x:V),xs[k]?=some x->∃v,w.cell? (a.add k)=some v/\Rd w ok v x):
  ∃us:List Value,us.length=xs.length/\(∀(j:Nat) (v:Value),us[j]?=some v->w.cell? (a.add j)=some v)/\∀(k:Nat) (x:V),xs[k]?=some x->∃v,us[k]?=some v/\Rd w ok v x:=by
 refine⟨(List.range xs.length).map λk=>(w.cell? (a.add k)).getD undef,by simp,λj v hj=>?_,λk x hk=>?_⟩
 .simp only[Dt,AL] at hj
  obtain⟨j',I8,rfl⟩:=hj;obtain⟨Z7,rfl⟩:=CZ.1 I8;simp only[uG,uJ] at Z7 ⊢;obtain⟨v,hv,_⟩:=h j xs[j] (CB Z7);rw[hv];rfl
 .obtain⟨v,hv,hr⟩:=h k x hk
  have Z7:=(CZ.1 hk).1;exact⟨v,by simp[uE Z7,hv],hr⟩
section
variable {P:Program} {B:Nat} {io:Nat->Prop} {w w':World} {tmps:Array Value} {s s':St} {U U':AX} {F F':Id->List Nat} {fl fl':List Nat}
structure Cells (w:World) (ok:Nat->Prop) (sz:Nat) (u:Value) (rows:List (List V)) (cl:Bool) (r:List Nat) (us:List Value):Prop where
 val:∃a c,u=.slice (some a) rows.length c/\∀(j:Nat) (v:Value),us[j]?=some v->w.cell? (a.add j)=some v
 len:us.length=rows.length*sz
 own:cl=true->B3 w us rows.flatten r
 see:cl=false->r=[]/\∀(k:Nat) (x:V),rows.flatten[k]?=some x->∃v,us[k]?=some v/\Rd w ok v x
theorem Cells.VM {ok:Nat->Prop} {sz g o c:Nat} {rows:List (List V)} (hs:∀q∈rows,q.length=sz) (h:∀(k:Nat) (x:V),rows.flatten[k]?=some x->∃v,w.cell? ⟨g,o+k,none⟩=some v/\Rd w ok v x):
  ∃us,Cells w ok sz (.slice (some ⟨g,o,none⟩) rows.length c) rows (Fe rows) [] us:=by
 obtain⟨us,h1,h2,h3⟩:=Xb0 (w:=w) (ok:=ok) (a:=⟨g,o,none⟩) (xs:=rows.flatten) (λk x hk=>by simpa [HK] using h k x hk);refine⟨us,⟨⟨g,o,none⟩,c,rfl,h2⟩,by rw[h1,HM hs],λhl=>B3.lits h1 h3 ?_,λ_=>⟨rfl,h3⟩⟩;simp only[Fe,Cd] at hl ⊢;intro x hx;obtain⟨q,hq,hx⟩:=gO.1 hx;exact hl q hq x hx
end
section
variable {P:Program} {B:Nat} {io:Nat->Prop} {w w':World} {tmps:Array Value} {s s':St} {U U':AX} {F F':Id->List Nat} {fl fl':List Nat}
theorem Yxt (h:Rel P B io w tmps s U F fl) {id:Id} {off len:Nat} {e:TypeId} {rows:List (List V)} {u:Value} {sz:Nat} (hu:En w (AG s U w) U u (.sl id off len)) (hw:s.whole id off len=some (e,rows)) (K3:∀q∈rows,q.length=sz):
  ∃r,Rel P B io w tmps (s.kill id) U F (r++fl)/\((rows=[]/\r=[]/\∃A c,u=.slice A 0 c)\/∃us,Cells w (AG (s.kill id) U w) sz u rows true r us):=by
 obtain⟨fp,hR,hO⟩:=h.whole hu hw;rcases hO with⟨A,rfl,rfl,rfl⟩|⟨g,o,c,cur,BQ,rfl,hg,hl,hm,BX,hz,hO,rfl⟩
 .exact⟨[],hR,.inl ⟨rfl,rfl,A,0,rfl⟩⟩
 .refine⟨BQ,hR.less (by rw[Io];exact Vef _ _),.inr ⟨_,⟨⟨g,o,none⟩,c,rfl,λj v hj=>?_⟩,by rw[hO.length,HM K3],λ_=>hO,λhc=>by cases hc⟩⟩
  rw[Dg] at hj;split at hj
  .rw[D7] at hj
   simp only[HK,World.cell?,hg];simpa using hj
  .cases hj
theorem vD (h:Rel P B io w tmps s U F fl) {x:V} {rows:List (List V)} {u:Value} {sz:Nat} (hu:En w (AG s U w) U u x) (hr:s.rowsOf x=some rows) (K3:∀q∈rows,q.length=sz):
  (rows=[]/\∃A c,u=.slice A 0 c)\/∃us,Cells w (AG s U w) sz u rows (Fe rows) [] us:=by
 have tree:∀{rows:List (List V)} {u:Value},(∀q∈rows,q.length=sz)->Rd w (AG s U w) u (.tr rows)->(rows=[]/\∃A c,u=.slice A 0 c)\/∃us,Cells w (AG s U w) sz u rows (Fe rows) [] us:=by
  intro rows u K3 hR;cases hR with
  | emp=>exact .inl ⟨rfl,_,_,rfl⟩
  | @tr g o n c Ct _ uf hn hc hm hs hg Cl Cj=>
   subst hn;exact .inr (Cells.VM K3 λk x hk=>⟨uf k,Cl k x hk,Cj k x hk⟩)
 unfold St.rowsOf at hr;split at hr
 .rename_i id off len
  obtain⟨b,hb,hr⟩:=A8.1 hr;split at hr
  .rename_i hc
   obtain⟨Xl,Yo⟩:=hc;simp only[AB] at hr;subst hr;cases hu with
   | sle hi=>exact .inl ⟨by simp,_,_,rfl⟩
   | @sl _ g o c Ct _ _ hU hc=>
    by_cases Yg:(b.rows.drop off).take len=[]
    .have P2:len=0:=by
      have:=congrArg List.length Yg;simp at this;omega
     subst P2;exact .inl ⟨Yg,_,_,rfl⟩
    .have P1:((b.rows.drop off).take len).length=len:=by simp;omega
     have hB:=h.heap id b hb;rw[hU] at hB;have BX:∀r∈b.rows,r.length=Ct:=by
      unfold Xs at hB;rw[Xl] at hB;generalize Yw:b.own=ow at hB;cases ow with
      | true=>
       rcases hB with⟨Y3,_⟩|⟨g',o',c',cur,Y3,hg,hl,hm,BX,_⟩
       .cases Y3
       .cases Y3;exact BX
      | false=>
       obtain⟨_,hB⟩:=hB;rcases hB with⟨Y3,_⟩|⟨g',o',c',uV,Y3,BX,_⟩
       .cases Y3
       .cases Y3;exact BX
     have P0:∀r∈(b.rows.drop off).take len,r.length=Ct:=λr hr=>BX r (FX (FY hr));have:=Cells.VM (w:=w) (ok:=AG s U w) (g:=g) (o:=o+off*Ct) (c:=c - off) K3 λk x hk=>by
      obtain⟨i,j,row,hi,hj,rfl⟩:=u4 P0 hk;rw[Dg] at hi;split at hi
      .rw[D7] at hi
       obtain⟨u,h1,_,h2⟩:=h.cell hb hU hi hj;refine⟨u,?_,h2 Xl⟩;rw[show o+off*Ct+(i*Ct+j)=o+(off+i)*Ct+j by rw[Nat.add_mul];omega];exact h1
      .cases hi
     rw[P1] at this;exact .inr this
  .cases hr
 .simp only[AB] at hr;subst hr;cases hu with|tr h=>exact tree K3 h
 .simp only[AB] at hr;subst hr;cases hu with|vw h=>exact tree K3 h
 .simp only[AB] at hr;subst hr;cases hu;exact .inl ⟨rfl,_,_,rfl⟩
 .cases hr
theorem Y8d {all:Bool} (h:Rel P B io w tmps s U F fl) {x:V} {rows:List (List V)} {cl:Bool} {s1:St} {u:Value} {sz:Nat} (hu:En w (AG s U w) U u x) (hm:s.Cq all x=some (rows,cl,s1)) (K3:∀q∈rows,q.length=sz):
  ∃r,Rel P B io w tmps s1 U F (r++fl)/\((rows=[]/\r=[]/\∃A c,u=.slice A 0 c)\/∃us,Cells w (AG s1 U w) sz u rows cl r us)/\(s1=s\/∃id,s1=s.kill id):=by
 have seen:∀{Bt:List (List V)},s.rowsOf x=some Bt->(Bt,Fe Bt,s)=(rows,cl,s1)->∃r,Rel P B io w tmps s1 U F (r++fl)/\((rows=[]/\r=[]/\∃A c,u=.slice A 0 c)\/∃us,Cells w (AG s1 U w) sz u rows cl r us)/\(s1=s\/∃id,s1=s.kill id):=by
  intro Bt hr he;simp only[A6] at he;obtain⟨rfl,rfl,rfl⟩:=he;refine⟨[],h,?_,.inl rfl⟩;rcases vD h hu hr K3 with⟨h1,h2⟩|h1
  .exact .inl ⟨h1,rfl,h2⟩
  .exact .inr h1
 unfold St.Cq at hm;split at hm
 .rename_i id off len
  split at hm
  .rename_i er hw
   split at hw
   .simp only[AB,A6] at hm
    obtain⟨rfl,rfl,rfl⟩:=hm;obtain⟨r,h1,h2⟩:=Yxt h hu (e:=er.1) (rows:=er.2) hw K3;exact⟨r,h1,h2,.inr ⟨id,rfl⟩⟩
   .cases hw
  .obtain⟨Bt,hr,he⟩:=AL.1 hm
   exact seen hr he
 .obtain⟨Bt,hr,he⟩:=AL.1 hm
  exact seen hr he
end
section
variable {P:Program} {w:World}
theorem vE (t ty e:TypeId) (i:TypeInfo) (ht:P.underlying t=some (.slice e)) (hi:P.info? e=some i) (base A:Option Addr) (n c c2:Nat) (hn:n<=c):
  (Builtin.append_ #[t,t] ty #[.slice base n c,.slice A 0 c2]).run P w=.ok (.slice base n c) w:=by
 have hf:(Builtin.firstCells i.size 0 (.slice A 0 c2)).run P w=.ok #[] w:=by
  cases A<;>simp[Builtin.firstCells,loadCells,loadCellsFrom]
 cases base<;>simp[Builtin.append_,run_underlying ht,Go.sizeOf,typeInfo,hi,Builtin.lenOf,hn,hf,storeCells]
theorem Yyo (t ty e:TypeId) (i:TypeInfo) (ht:P.underlying t=some (.slice e)) (hi:P.info? e=some i)
  (g o Gd PD:Nat) (cur:Array Value) (hg:w.heap[g]?=some (.cells cur e (0,0)))
  (a:Addr) (m c:Nat) (news:List Value) (hl:news.length=m*i.size) (KY:∀j u,news[j]?=some u->w.cell? (a.add j)=some u) (h1:∀u∈news,u.oneCell'=true)
  (vF:Gd+m<=PD) (NL:o+Gd*i.size+news.length<=cur.size):
  (Builtin.append_ #[t,t] ty #[.slice (some ⟨g,o,none⟩) Gd PD,.slice (some a) m c]).run P w=
   .ok (.slice (some ⟨g,o,none⟩) (Gd+m) PD) (w.setRow g (cur.toList.take (o+Gd*i.size)++news++cur.toList.drop (o+Gd*i.size+news.length)).toArray):=by
 have hf:=run_firstCells_some (P:=P) w i.size m a m c news hl KY;have Fo:=run_storeCells_at P g (o+Gd*i.size) e news 0 cur w hg (by simpa using NL) h1;simp only[He] at Fo;simp[Builtin.append_,run_underlying ht,Go.sizeOf,typeInfo,hi,Builtin.lenOf,vF,hf,HK,Fo]
end
section
variable {P:Program} {B:Nat} {io:Nat->Prop} {w w':World} {tmps:Array Value} {s s':St} {U U':AX} {F F':Id->List Nat} {fl fl':List Nat}
theorem Rel.Mm {r:List Nat} (h:Rel P B io w tmps s U F (r++fl)) {id:Id} (Zt:U id=none) (Yk:id.1=s.ep) {us:List Value} {rows:List (List V)} {e:TypeId} {cl:Bool} {c:Nat} {z:Value} (hz:z.cells.size=P.cellsOf e) (hl:rows.length<=c) (hm:c<=maxLen) (hu:∀q∈rows,q.length=P.cellsOf e)
  (Yo:us.length=rows.length*P.cellsOf e) (h1:cl=true->B3 w us rows.flatten r) (h2:cl=false->r=[]/\∀(k:Nat) (x:V),rows.flatten[k]?=some x->∃v,us[k]?=some v/\Rd w (AG s U w) v x):
  Rel P B io (w.drew.alloc (.cells (us.toArray++Builtin.zeroCells z.cells (c - rows.length)) e)) tmps (s.A5 id ⟨false,true,cl,e,rows⟩) (Bi U id (some (.Bl w.heap.size 0 c (P.cellsOf e)))) (Bi F id (w.heap.size::r)) fl:=by
 refine h.grown Zt Yk (us:=us) (zs:=(Builtin.zeroCells z.cells (c - rows.length)).toList) (Tm w.drew _) (λg hg=>Below.heap_alloc w.drew _ g hg) ?_ hl hm hu Yo ?_ h1 h2
 .have:=iB w.drew (.cells (us.toArray++Builtin.zeroCells z.cells (c - rows.length)) e)
  rw[show (us++(Builtin.zeroCells z.cells (c - rows.length)).toList).toArray=us.toArray++Builtin.zeroCells z.cells (c - rows.length) by apply Vz;simp];exact this
 .show us.length+(Builtin.zeroCells z.cells (c - rows.length)).toList.length=_
  rw[Array.length_toList (xs:=Builtin.zeroCells z.cells (c - rows.length)),size_zeroCells,hz,Yo,<-Nat.add_mul]
  congr 1
  omega
end
section
variable {P:Program} {B:Nat} {io:Nat->Prop} {w w':World} {a:Act} {tmps:Array Value} {s s' s1:St} {U U':AX} {F F':Id->List Nat} {fl fl':List Nat} {k:Nat} {o:Oper} {v:V}
theorem Y7r {id:Id} {b:Bc} (Zt:U id=none) {g:Nat} (h:AJ (s.A5 id b) (Bi U id (some .emp)) g):AJ s U g:=by
 obtain⟨Av,b',o,c,sz,hb,ho,hU⟩:=h;by_cases e:Av=id
 .subst e;rw[Z8] at hU;cases hU
 .rw[X2 e] at hb;rw[X9 e] at hU;exact⟨Av,b',o,c,sz,hb,ho,hU⟩
theorem Rel.I9 (h:Rel P B io w tmps s U F fl) {id:Id} (Zt:U id=none) (Yk:id.1=s.ep) {b:Bc} (Xl:b.box=false) (Yw:b.own=true) (hr:b.rows=[]):
  Rel P B io w tmps (s.A5 id b) (Bi U id (some .emp)) (Bi F id []) fl:=by
 refine h.step (nid:=id) rfl rfl (λAv b' e hb=>by rw[X2 e] at hb;exact hb) (Ez Zt) (λAv hi=>?_) (λAv e=>X9 e) (λAv e=>X9 e) (.same λg=>Y7r Zt)
  (λ_ _ _ _ _ _=>rfl) (λ_ _ _=>rfl) (λb' hb=>?_) (λb' hb ho=>?_) (λb' hb ho Av BI e P5 Mi g hg Yc=>?_) (λb' hb ho=>?_) h.AR
  (λAv b' e hb ho g hg=>h.A7 Av b' (by rw[X2 e] at hb;exact hb) ho g hg) (λb' hb ho g hg Yc=>?_) h.AT
 .by_cases e:Av=id
  .subst e;exact .inr Yk
  .rw[X9 e] at hi;exact .inl hi
 .rw[KX] at hb
  injection hb with hb;subst hb;rw[Z8,Z8];exact .I0 Xl Yw rfl hr rfl
 .rw[Z8];exact⟨λg hg=>by simp at hg,λ_ g hg=>by simp at hg⟩
 .rw[Z8] at Yc;simp at Yc
 .rw[Z8];simp
 .rw[Z8] at hg;simp at hg
theorem Tq {id:Id} {i:G4} {e k:Nat} (Yk:id.1=e) (hk:id.2 / 1024=k):∀Av,(Bi U id (some i) Av).isSome=true->(U Av).isSome=true\/(Av.1=e/\Av.2 / 1024=k):=λAv hi=>by
 by_cases h:Av=id
 .subst h;exact .inr ⟨Yk,hk⟩
 .rw[X9 h] at hi;exact .inl hi
theorem Mn {t:TypeId} {bo xo:Operand} {u:Value} (ho:o.op=.call {callee:=.builtin .append,args:=#[bo,xo],argTypes:=#[t,t]})
  (hr:(Builtin.append_ #[t,t] o.type #[a.eval bo,a.eval xo]).run P w=.ok u w'):(execOp a.eval o).run P w=.ok (.value u) w':=by
 simp[execOp,ho,resolve,invoke,builtin,hr]
theorem J5.drew {w0:World} (h:J5 B io w0 w):J5 B io w0 w.drew:=⟨h.os,h.tape,h.output,h.size,h.block⟩
theorem VN {r:List Nat} (h:Rel P B io w a.tmps s1 U F (r++fl)) (CN:s1.env=s.env) (DY:s1.ep=s.ep) {id:Id} (Zt:U id=none) (Yk:id.1=s.ep) (hk:id.2 / 1024=k) {us:List Value} {rows:List (List V)} {e:TypeId} {cl:Bool} {Ge old:Nat} {z:Value}
  (hz:z.cells.size=P.cellsOf e) (hn:rows.length=Ge) (hm:Ge<=maxLen) (hu:∀q∈rows,q.length=P.cellsOf e)
  (Yo:us.length=rows.length*P.cellsOf e) (h1:cl=true->B3 w us rows.flatten r) (h2:cl=false->r=[]/\∀(k:Nat) (x:V),rows.flatten[k]?=some x->∃v,us[k]?=some v/\Rd w (AG s1 U w) v x):
  Ch P B io w a.tmps s U fl k (.sl id 0 Ge) (s1.A5 id ⟨false,true,cl,e,rows⟩) (.slice (some ⟨w.heap.size,0,none⟩) Ge (grownCap w Ge old e)) (w.drew.alloc (.cells (us.toArray++Builtin.zeroCells z.cells (grownCap w Ge old e - Ge)) e)):=by
 subst hn;have NQ:=grownCap_ge w rows.length old e;have hR:=h.Mm (fl:=fl) Zt (by rw[DY];exact Yk) (z:=z) (cl:=cl) hz NQ (grownCap_le_maxLen w _ old e hm) hu Yo h1 h2;refine⟨CN,DY,((J5.refl B io w).drew).alloc h.base _,_,_,hR,?_,Ez Zt,Tq Yk hk⟩;have:=En.sl (w:=w.drew.alloc (.cells (us.toArray++Builtin.zeroCells z.cells (grownCap w rows.length old e - rows.length)) e)) (ok:=AG (s1.A5 id ⟨false,true,cl,e,rows⟩) (Bi U id (some (.Bl w.heap.size 0 (grownCap w rows.length old e) (P.cellsOf e)))) (w.drew.alloc (.cells (us.toArray++Builtin.zeroCells z.cells (grownCap w rows.length old e - rows.length)) e)))
  (off:=0) (len:=rows.length) (Z8 U id (some (.Bl w.heap.size 0 (grownCap w rows.length old e) (P.cellsOf e)))) (by omega)
 simpa using this
end
section
variable {P:Program} {B:Nat} {io:Nat->Prop} {w w':World} {a:Act} {tmps:Array Value} {s s' s1:St} {U U':AX} {F F':Id->List Nat} {fl fl':List Nat} {k:Nat} {o:Oper} {v:V}
theorem Yyj {n:Nat} {rows:List (List V)} (h:Hh n rows=true):∀q∈rows,q.length=n:=λq hq=>by
 have:=Cd.1 h q hq;simpa using this
theorem Rel.over {r:List Nat} (h:Rel P B io w tmps s U F (r++fl)) {i id:Id} {b b':Bc} {g o c sz o' c' Ct:Nat} {f':List Nat} {new:Array Value} (Zt:U id=none) (Yk:id.1=s.ep) (hb:s.heap i=some b) (ho:b.own=true) (hU:U i=some (.Bl g o c sz))
  (hF:∃q,F i=g::q) (Hl:∀k∈f',k∈F i\/k∈r) (Cu:(g::f').Nodup) (Fm:0 < c)
  (hn:Xs P (w.setRow g new) (AG ((s.kill i).A5 id b') (Bi U id (some (.Bl g o' c' Ct))) (w.setRow g new)) (Bi U id (some (.Bl g o' c' Ct))) (some (.Bl g o' c' Ct)) (g::f') b'):
  Rel P B io (w.setRow g new) tmps ((s.kill i).A5 id b') (Bi U id (some (.Bl g o' c' Ct))) (Bi F id (g::f')) fl/\J5 B io w (w.setRow g new):=by
 have Yg:i≠id:=by rintro rfl;rw[Zt] at hU;cases hU
 have old:∀{Av:Id} {BI:Bc},Av≠id->((s.kill i).A5 id b').heap Av=some BI->s.heap Av=some BI/\Av≠i:=λ{Av BI} e Yx=>by
  rw[X2 e] at Yx;refine⟨I2 Yx,?_⟩;rintro rfl;rw[Ka] at Yx;cases Yx
 obtain⟨q,I5⟩:=hF;have NJ:g∈F i:=by rw[I5];exact BJ
 have Wc:AJ s U g:=⟨i,b,o,c,sz,hb,ho,hU⟩;have Mj:(w.setRow g new).heap.size=w.heap.size:=by simp[World.setRow]
 have Mp:∀k∈g::f',k∈F i\/k∈r:=λk hk=>by
  rcases Ce.1 hk with rfl|hk
  .exact .inl NJ
  .exact Hl k hk
 have VO:=EE.1 h.AT;refine⟨h.step (nid:=id) rfl rfl (λAv BI e Yx=>(old e Yx).1) (Ez Zt) (λAv hi=>?_) (λAv e=>X9 e) (λAv e=>X9 e)
  ⟨λg' Yc _=>setRow_other w g g' _ (λe=>Yc (e▸Wc)),λg' Yc _ ht=>Yc (iG Zt hb ho hU g' ht),by rw[Mj];exact B2 _⟩ (λAv BI e Yx g' Yc=>setRow_other w g g' _ (λe'=>?_))
  (λk hk Hi=>setRow_other w g k _ (λe=>by
   subst e;rcases h.top i b hb ho ⟨k,o,c,sz,hU,Fm⟩ k (by rw[I5];rfl) with h1|h1
   .exact Hi h1
   .omega))
  (λBI Yx=>?_) (λBI Yx BP=>?_) (λBI Yx BP Av b3 e NK P9 g' Yc Ei=>?_) (λBI Yx BP=>by rw[Z8];exact Cu) (λg' Yc=>by rw[Mj];exact h.AR g' (Ds _ Yc))
  (λAv BI e Yx BP g' Yc Ei=>h.A7 Av BI (old e Yx).1 BP g' Yc (Ds _ Ei)) (λBI Yx BP g' Yc Ei=>?_) VO.2.1,⟨rfl,rfl,rfl,by rw[Mj];exact B2 _,λg' Yc Hi=>setRow_other w g g' _ (λe=>?_)⟩⟩
 .by_cases e:Av=id
  .subst e;exact .inr Yk
  .rw[X9 e] at hi;exact .inl hi
 .subst e'
  obtain⟨h1,h2⟩:=old e Yx;cases Yw:BI.own with
  | true=>exact h.apart Av i BI b h1 Yw hb ho h2 g' Yc NJ
  | false=>
   have hB:=h.heap Av BI h1;unfold Xs at hB;rw[Yw] at hB;split at hB
   .cases hB.1
   .rename_i h2;cases h2
   .rw[hB.1] at Yc;cases Yc
 .rw[KX] at Yx
  injection Yx with Yx;subst Yx;rw[Z8,Z8];exact hn
 .rw[Z8]
  refine⟨λg' Yc=>?_,λ_ g' Yc=>?_⟩
  .rw[Mj]
   rcases Mp g' Yc with h1|h1
   .exact h.CH i b hb ho g' h1
   .exact h.AR g' (CC _ h1)
  .have e1:g=g':=by simpa using Yc
   subst e1;exact h.top i b hb ho ⟨g,o,c,sz,hU,Fm⟩ g (by rw[I5];rfl)
 .rw[Z8] at Ei
  obtain⟨h3,h4⟩:=old e NK;rcases Mp g' Ei with h1|h1
  .exact h.apart Av i b3 b h3 P9 hb ho h4 g' Yc h1
  .exact h.A7 Av b3 h3 P9 g' Yc (CC _ h1)
 .rw[Z8] at Yc
  rcases Mp g' Yc with h1|h1
  .exact h.A7 i b hb ho g' h1 (Ds _ Ei)
  .exact VO.2.2 g' h1 g' Ei rfl
 .subst e
  rcases h.top i b hb ho ⟨g',o,c,sz,hU,Fm⟩ g' (by rw[I5];rfl) with h1|h1
  .exact Hi h1
  .omega
theorem Y5r {all:Bool} (h:Rel P B io w a.tmps s U F fl) {t:TypeId} {bo xo:Operand} (ho:o.op=.call {callee:=.builtin .append,args:=#[bo,xo],argTypes:=#[t,t]}) {id:Id}
  (he:NA P all s id t (s.AP bo) (s.AP xo)=some (v,s')) (Zt:U id=none) (Yk:id.1=s.ep) (hk:id.2 / 1024=k):
  Cg P o a w (Ch P B io w a.tmps s U fl k v s'):=by
 unfold NA at he;obtain⟨e,Q0,he⟩:=A8.1 he;obtain⟨⟨rows,cl,s1⟩,hm,he⟩:=A8.1 he;have ht:=Me Q0;split at he
 case isFalse=>cases he
 rename_i hc;obtain⟨K3,Ww,Mq⟩:=hc;simp only[Z4] at K3 Ww;have BX:=Yyj K3;simp only at BX he;obtain⟨i,hi,z,hz,Dy⟩:∃i,P.info? e=some i/\∃z,i.zero=some z/\z.cells.size=P.cellsOf e:=by
  unfold Mb at Mq;split at Mq
  .rename_i z hz
   obtain⟨i,hi,hz⟩:=A8.1 hz;exact⟨i,hi,z,hz,by simpa using Mq⟩
  .cases Mq
 have NR:i.size=P.cellsOf e:=by simp[Program.cellsOf,hi]
 have iH:i.bytes=P.bytesOf e:=by simp[Program.bytesOf,hi]
 have Tr:0 < P.cellsOf e:=uH Ww;obtain⟨r,hR,VP,C5⟩:=Y8d h (h.AP xo) hm BX;have CN:s1.env=s.env:=by rcases C5 with rfl|⟨_,rfl⟩<;>rfl
 have DY:s1.ep=s.ep:=by rcases C5 with rfl|⟨_,rfl⟩<;>rfl
 have hsubh:∀id b,s1.heap id=some b->s.heap id=some b:=by rcases C5 with rfl|⟨_,rfl⟩;exactλ_ _ h=>h;exactλ_ _ h=>I2 h
 have one:∀{us:List Value},Cells w (AG s1 U w) (P.cellsOf e) (a.eval xo) rows cl r us->∀u∈us,u.oneCell'=true:=by
  intro us hC u hu;cases W8:cl with
  | true=>exact (hC.own W8).one u hu
  | false=>
   obtain⟨j,hj⟩:=HF hu;have Z7:j < rows.flatten.length:=by have:=hC.len;rw[HM BX,<-hC.len];exact (CZ.1 hj).1
   obtain⟨v',iI,Cj⟩:=(hC.see W8).2 j _ (CB Z7);rw[hj] at iI;injection iI with iI;subst iI;exact Cj.one
 have vG:(rows=[]/\∃A c,a.eval xo=.slice A 0 c)\/(rows≠[]/\∃us,Cells w (AG s1 U w) (P.cellsOf e) (a.eval xo) rows cl r us):=by
  rcases VP with⟨h1,_,h2⟩|⟨us,hC⟩
  .exact .inl ⟨h1,h2⟩
  .by_cases hn:rows=[]
   .obtain⟨ad,c,hv,_⟩:=hC.val
    exact .inl ⟨hn,some ad,c,by rw[hv,hn];rfl⟩
   .exact .inr ⟨hn,us,hC⟩
 have PE:=h.AP bo;split at he
 .rename_i vH
  split at he
  case isFalse=>cases he
  rename_i G8;simp only[AB,A6] at he;obtain⟨rfl,rfl⟩:=he;rw[vH] at PE;generalize hq:a.eval bo=q at PE;cases PE;rcases vG with⟨rfl,A,c,hx⟩|⟨Yg,us,hC⟩
  .have Xt:=vE (P:=P) (w:=w) t o.type e i ht hi none A 0 0 c (B2 _)
   rw[<-hq,<-hx] at Xt;refine .value (Mn ho Xt) ⟨CN,DY,J5.refl _ _ _,_,_,(hR.less (Im _ _)).I9 Zt (Yk.trans DY.symm) rfl rfl rfl,?_,Ez Zt,Tq Yk hk⟩;rw[hq];exact .sle (by rw[Z8];rfl)
  .obtain⟨ad,c,hv,Fj⟩:=hC.val
   have iJ:0 < rows.length:=Cw.2 Yg;have Xt:=run_append_nil (P:=P) (w:=w) t o.type e i z ht hi hz ad rows.length c us (by rw[hC.len,NR]) Fj iJ (by omega) (by rw[iH];omega);rw[<-hq,<-hv] at Xt;exact .value (Mn ho Xt) (VN hR CN DY Zt Yk hk Dy rfl (by unfold maxLen;omega) BX hC.len hC.own hC.see)
 .rename_i ib off len vH
  obtain⟨kb,G9,he⟩:=A8.1 he;split at he
  case isFalse=>cases he
  rename_i G8;obtain⟨Xl,Yw,hol,PF,PG,h63⟩:=G8;simp only[AB,A6] at he;obtain⟨rfl,rfl⟩:=he;have hB:=hR.heap ib kb G9;rw[vH] at PE;generalize hq:a.eval bo=q at PE;have hidb:ib≠id:=by
   rintro rfl;cases PE with
   | sl hU=>rw[Zt] at hU;cases hU
   | sle hU=>rw[Zt] at hU;cases hU
  cases PE with
  | @sle _ A _ hU=>
   have hd:kb.rows.drop off=[]:=by apply EZ;omega
   rcases vG with⟨rfl,A',c,hx⟩|⟨Yg,us,hC⟩
   .have Xt:=vE (P:=P) (w:=w) t o.type e i ht hi A A' 0 0 c (B2 _)
    rw[<-hq,<-hx] at Xt;refine .value (Mn ho Xt) ⟨CN,DY,J5.refl _ _ _,_,_,((hR.less (Im _ _)).kill ib).I9 (b:=⟨false,true,kb.cl&&cl,e,kb.rows.drop off++[]⟩) Zt (Yk.trans DY.symm) rfl rfl (by rw[hd];rfl),?_,Ez Zt,Tq Yk hk⟩;rw[hq];exact .sle (by rw[Z8];rfl)
   .obtain⟨ad,c,hv,Fj⟩:=hC.val
    have iJ:0 < rows.length:=Cw.2 Yg;have vI:rows.length*P.bytesOf e<=140737488355328:=by simpa using PG
    have Xt:(Builtin.append_ #[t,t] o.type #[a.eval bo,a.eval xo]).run P w=.ok (.slice (some ⟨w.heap.size,0,none⟩) rows.length (grownCap w rows.length 0 e)) (w.drew.alloc (.cells (us.toArray++Builtin.zeroCells z.cells (grownCap w rows.length 0 e - rows.length)) e)):=by
     rw[hq,hv];cases A with
     | none=>exact run_append_nil (P:=P) (w:=w) t o.type e i z ht hi hz ad rows.length c us (by rw[hC.len,NR]) Fj iJ (by omega) (by rw[iH];omega)
     | some b=>
      have:=run_append_grow (P:=P) (w:=w) t o.type e i z ht hi hz b 0 0 [] (by simp) (by simp) ad rows.length c us (by rw[hC.len,NR]) Fj (by omega) (by omega) (growslice_fits (by omega) (by rw[iH,Pq];exact vI));simpa using this
    have hcl':(kb.cl&&cl)=true->B3 w us rows.flatten r:=λhc=>hC.own (by simp at hc;exact hc.2);rw[hd,KJ];have hkr:kb.rows.length=off:=by omega
    cases Cm:(kb.cl&&cl) with
    | true=>
     refine .value (Mn ho Xt) ?_;have:=VN (s:=s) (k:=k) (s1:=s1.kill ib) (old:=0) (hR.kill ib) CN DY Zt Yk hk Dy rfl (by unfold maxLen;omega) BX hC.len (cl:=true) (λ_=>hC.own (by simp at Cm;exact Cm.2)) (λh=>by cases h);simpa using this
    | false=>
     refine .value (Mn ho Xt) ?_;have see:∀(k:Nat) (x:V),rows.flatten[k]?=some x->∃v,us[k]?=some v/\Rd w (AG (s1.kill ib) U w) v x:=by
      intro j x hx;cases W8:cl with
      | true=>
       obtain⟨v,hv,hr⟩:=(hC.own W8).rd (ok:=AG s1 U w) (λg hg=>hR.I3 (CC _ hg)) hx;exact⟨v,hv,hr.mono (λ_ _ _=>rfl) (λg hg=>VC hg)⟩
      | false=>
       obtain⟨v,hv,hr⟩:=(hC.see W8).2 j x hx;exact⟨v,hv,hr.mono (λ_ _ _=>rfl) (λg hg=>VC hg)⟩
     have:=VN (s:=s) (k:=k) (s1:=s1.kill ib) (old:=0) (r:=[]) (fl:=fl) ((hR.less (Im _ _)).kill ib) CN DY Zt Yk hk Dy rfl (by unfold maxLen;omega) BX hC.len (cl:=false) (λh=>by cases h) (λ_=>⟨rfl,see⟩);simpa using this
  | @sl _ g o0 c0 sz _ _ hU hoc=>
   rw[hU] at hB;have hB':=hB;unfold Xs at hB;rw[Xl,Yw] at hB;rcases hB with⟨Y3,_⟩|⟨g',o',c',cur,Y3,hg,hl,VQ,iK,VS,fp,CR,h1,h2⟩
   .cases Y3
   .cases Y3
    subst PF;have Tp:g ∉ r++fl:=hR.A7 ib kb G9 Yw g (by rw[CR];exact BJ);have Ts:∀q∈kb.rows.drop off,q.length=P.cellsOf kb.el:=λq hq=>iK q (FX hq);have IA:(kb.rows.drop off).length=len:=by simp;omega
    have hoc':off*P.cellsOf kb.el+(c0 - off)*P.cellsOf kb.el=c0*P.cellsOf kb.el:=by rw[<-Nat.add_mul];congr 1;omega
    have hlc:kb.rows.length*P.cellsOf kb.el<=c0*P.cellsOf kb.el:=N3 _ hl;have hll:off*P.cellsOf kb.el+len*P.cellsOf kb.el=kb.rows.length*P.cellsOf kb.el:=by rw[<-Nat.add_mul,hol]
    let Cv:=(cur.toList.drop (o0+off*P.cellsOf kb.el)).take (len*P.cellsOf kb.el)
    have Xcq:Cv=(cur.toList.drop (o0+off*P.cellsOf kb.el)).take (len*P.cellsOf kb.el):=rfl;have iL:Cv.length=len*P.cellsOf kb.el:=by simp[Cv];omega
    have VT:((cur.toList.drop o0).take (kb.rows.length*P.cellsOf kb.el)).drop (off*P.cellsOf kb.el)=Cv:=by
     rw[List.drop_take,List.drop_drop];simp only[Cv];congr 1;omega
    have vJ:∀(j:Nat) (v:Value),Cv[j]?=some v->cur[o0+off*P.cellsOf kb.el+j]?=some v:=by
     intro j v hj;simp only[Cv] at hj;rw[Dg] at hj;split at hj
     .simpa using hj
     .cases hj
    have Xce:∀(j:Nat) (v:Value),Cv[j]?=some v->w.cell? ((⟨g,o0+off*P.cellsOf kb.el,none⟩:Addr).add j)=some v:=by
     intro j v hj;rw[HK,cell_of_row w g _ cur kb.el (0,0) hg];exact vJ j v hj
    have iM:kb.cl=true->∃f1,B3 w Cv (kb.rows.drop off).flatten f1/\f1.Sublist fp:=λhc=>by
     obtain⟨f1,hO,hs⟩:=(h1 hc).drop (off*P.cellsOf kb.el);rw[VT,VB off iK] at hO;exact⟨f1,hO,hs⟩
    have vK:∀(j:Nat) (x:V),(kb.rows.drop off).flatten[j]?=some x->∃v,Cv[j]?=some v/\Rd w (AG s1 U w) v x:=by
     intro j x hj;cases vL:kb.cl with
     | true=>
      obtain⟨f1,hO,hs⟩:=iM vL;refine hO.rd (λg'' Ei=>hR.G6 G9 Yw hU (by rw[CR];exact Cp _ (hs.subset Ei)) (λg3 _ _ _ e=>by
       cases e;rintro rfl;have:=hR.once ib kb G9 Yw;rw[CR] at this;exact (EF.1 this).1 (hs.subset Ei))) hj
     | false=>
      rw[<-VB off iK,D7] at hj;obtain⟨v,hv,hr⟩:=(h2 vL).2 _ x hj;refine⟨v,?_,hr⟩;have Z7:=(CZ.1 hj).1;rw[HM iK] at Z7;simp only[Cv];rw[Dg,Aj (by omega),D7];simpa [Nat.add_assoc] using hv
    have VU:∀{us:List Value},Cells w (AG s1 U w) (P.cellsOf kb.el) (a.eval xo) rows cl r us->∀(j:Nat) (x:V),rows.flatten[j]?=some x->∃v,us[j]?=some v/\Rd w (AG s1 U w) v x:=by
     intro us hC j x hx;cases W8:cl with
     | true=>exact (hC.own W8).rd (λg hg=>hR.I3 (CC _ hg)) hx
     | false=>exact (hC.see W8).2 j x hx
    have VV:=hR.once ib kb G9 Yw;rw[CR] at VV;rcases vG with⟨rfl,A',c,hx⟩|⟨Yg,us,hC⟩
    .have Xt:=vE (P:=P) (w:=w) t o.type kb.el i ht hi (some ⟨g,o0+off*P.cellsOf kb.el,none⟩) A' len (c0 - off) c (by omega)
     rw[<-hq,<-hx] at Xt;have hR':=hR.less (Im r fl);have hc00:(([]:List (List V))).length=0:=rfl;have PH:∃VW,Rel P B io w a.tmps ((s1.kill ib).A5 id ⟨false,true,kb.cl&&cl,kb.el,kb.rows.drop off++[]⟩) (Bi U id (some (.Bl g (o0+off*P.cellsOf kb.el) (c0 - off) (P.cellsOf kb.el)))) VW fl:=by
      have VH:∀g',AG s1 U w g'->AG ((s1.kill ib).A5 id ⟨false,true,kb.cl&&cl,kb.el,kb.rows.drop off++[]⟩) (Bi U id (some (.Bl g (o0+off*P.cellsOf kb.el) (c0 - off) (P.cellsOf kb.el)))) w g':=λg' Yc=>⟨λht=>Yc.1 (iG Zt G9 Yw hU g' ht),Yc.2⟩;cases Cm:(kb.cl&&cl) with
      | true=>
       obtain⟨f1,hO,hs⟩:=iM (by simp at Cm;exact Cm.1);refine⟨_,hR'.move (b':=⟨false,true,true,kb.el,kb.rows.drop off++[]⟩) (Fs:=g::f1) Zt (by rw[DY];exact Yk) G9 Yw hU ⟨fp,CR⟩ ⟨f1,rfl⟩ (λk' W9=>?_) (EF.2 ⟨λhm=>(EF.1 VV).1 (hs.subset hm),(EF.1 VV).2.sublist hs⟩) (λ_=>by omega) (.Cr rfl rfl rfl hg (by simp;omega) (by omega) (by rw[Gb];exact Ts) (by show o0+off*P.cellsOf kb.el+(c0 - off)*P.cellsOf kb.el=cur.size;omega) rfl (λ_=>?_) (λhf=>by cases hf))⟩
       .rw[CR]
        rcases Ce.1 W9 with rfl|W9
        .exact BJ
        .exact Cp _ (hs.subset W9)
       .simp only[Gb,IA];exact hO
      | false=>
       refine⟨_,hR'.move (b':=⟨false,true,false,kb.el,kb.rows.drop off++[]⟩) (Fs:=[g]) Zt (by rw[DY];exact Yk) G9 Yw hU ⟨fp,CR⟩ ⟨[],rfl⟩ (λk' W9=>by rw[CR,List.mem_singleton.1 W9];exact BJ) (by simp) (λ_=>by omega) (.Cr rfl rfl rfl hg (by simp;omega) (by omega) (by rw[Gb];exact Ts) (by show o0+off*P.cellsOf kb.el+(c0 - off)*P.cellsOf kb.el=cur.size;omega) rfl (λhf=>by cases hf) (λ_=>⟨rfl,λj x hj=>?_⟩))⟩;simp only[Gb] at hj;obtain⟨v,hv,hr⟩:=vK j x hj;rw[Cm] at VH;exact⟨v,vJ j v hv,hr.mono (λ_ _ _=>rfl) VH⟩
     obtain⟨VW,PH⟩:=PH;refine .value (Mn ho Xt) ⟨CN,DY,J5.refl _ _ _,_,_,PH,?_,Ez Zt,Tq Yk hk⟩;have:=En.sl (w:=w) (ok:=AG ((s1.kill ib).A5 id ⟨false,true,kb.cl&&cl,kb.el,kb.rows.drop off++[]⟩) (Bi U id (some (.Bl g (o0+off*P.cellsOf kb.el) (c0 - off) (P.cellsOf kb.el)))) w) (off:=0) (len:=len) (Z8 U id (some (.Bl g (o0+off*P.cellsOf kb.el) (c0 - off) (P.cellsOf kb.el)))) (by omega);rw[hq];simpa using this
    .obtain⟨ad,c,hv,Fj⟩:=hC.val
     have iJ:0 < rows.length:=Cw.2 Yg;by_cases vF:len+rows.length<=c0 - off
     ·
      have NL:o0+off*P.cellsOf kb.el+len*i.size+us.length<=cur.size:=by
       rw[NR,hC.len];have:(off+len+rows.length)*P.cellsOf kb.el<=c0*P.cellsOf kb.el:=N3 _ (by omega);rw[Nat.add_mul,Nat.add_mul] at this;omega
      have Xt:=Yyo (P:=P) (w:=w) t o.type kb.el i ht hi g (o0+off*P.cellsOf kb.el) len (c0 - off) cur hg ad rows.length c us (by rw[hC.len,NR]) Fj (one hC) vF NL;rw[<-hq,<-hv] at Xt;rw[NR] at Xt NL;generalize Y4:(cur.toList.take (o0+off*P.cellsOf kb.el+len*P.cellsOf kb.el)++us++cur.toList.drop (o0+off*P.cellsOf kb.el+len*P.cellsOf kb.el+us.length)).toArray=new at Xt;have KY:new.size=cur.size:=by rw[<-Y4];simp;omega
      have vM:∀m,new[m]?=if o0+off*P.cellsOf kb.el+len*P.cellsOf kb.el<=m/\m < o0+off*P.cellsOf kb.el+len*P.cellsOf kb.el+us.length then us[m - (o0+off*P.cellsOf kb.el+len*P.cellsOf kb.el)]? else cur[m]?:=by
       intro m;rw[<-Y4,gE,NI (by simp;omega)];simp
      have Ml:∀k',k'≠g->(w.setRow g new).heap[k']?=w.heap[k']?:=λk' W9=>setRow_other w g k' _ W9;have Wc:AJ s1 U g:=⟨ib,kb,_,_,_,G9,Yw,hU⟩;have Xcc:(new.toList.drop (o0+off*P.cellsOf kb.el)).take ((kb.rows.drop off++rows).length*P.cellsOf kb.el)=Cv++us:=by
       apply Vp;intro m;rw[Dg,D7,gG,vM];have PI:(kb.rows.drop off++rows).length*P.cellsOf kb.el=len*P.cellsOf kb.el+us.length:=by rw[Cy,IA,Nat.add_mul,hC.len]
       rw[PI];by_cases hm:m < len*P.cellsOf kb.el
       .rw[Aj (by omega),Ak (by omega),EX (by omega)]
        simp only[Cv];rw[Dg,Aj hm,D7,gG]
       .rw[FE (by omega),iL]
        by_cases La:m < len*P.cellsOf kb.el+us.length
        .rw[Aj La,Aj (by omega)]
         congr 1;omega
        .rw[Ak La,SZ (by omega)]
      have Dj:∀q∈kb.rows.drop off++rows,q.length=P.cellsOf kb.el:=λq hq=>by
       rcases BU.1 hq with hq|hq
       .exact Ts q hq
       .exact BX q hq
      let b2:Bc:=⟨false,true,kb.cl&&cl,kb.el,kb.rows.drop off++rows⟩
      have VH:∀g',AG s1 U w g'->AG ((s1.kill ib).A5 id b2) (Bi U id (some (.Bl g (o0+off*P.cellsOf kb.el) (c0 - off) (P.cellsOf kb.el)))) (w.setRow g new) g':=λg' Yc=>⟨λht=>Yc.1 (iG Zt G9 Yw hU g' ht),by simpa using Yc.2⟩;have VX:∀{u:Value} {x:V},Rd w (AG s1 U w) u x->Rd (w.setRow g new) (AG ((s1.kill ib).A5 id b2) (Bi U id (some (.Bl g (o0+off*P.cellsOf kb.el) (c0 - off) (P.cellsOf kb.el)))) (w.setRow g new)) u x:=λhu=>
       hu.mono (λg' Yc _=>Ml g' (λe=>Yc.1 (e▸Wc))) VH
      have I7:g ∉ r:=λhm=>Tp (CC _ hm);have PH:∃VW,Rel P B io (w.setRow g new) a.tmps ((s1.kill ib).A5 id b2) (Bi U id (some (.Bl g (o0+off*P.cellsOf kb.el) (c0 - off) (P.cellsOf kb.el)))) VW fl/\J5 B io w (w.setRow g new):=by
       cases Cm:(kb.cl&&cl) with
       | true=>
        have PJ:=Cm;simp only[Bg] at PJ;obtain⟨f1,hO,hs⟩:=iM PJ.1;have PC:=hC.own PJ.2;have NO:∀k'∈f1,k'∈fp:=λk' W9=>hs.subset W9;have VY:g ∉ f1:=λhm=>(EF.1 VV).1 (hs.subset hm);have hOO:=(hO.append PC).frame (w':=w.setRow g new) (λk' W9=>Ml k' (by
         rintro rfl;rcases BU.1 W9 with h1|h1
         .exact VY h1
         .exact I7 h1))
        refine⟨_,hR.over (b':=b2) (f':=f1++r) (new:=new) Zt (by rw[DY];exact Yk) G9 Yw hU ⟨fp,CR⟩ (λk' W9=>?_) (EF.2 ⟨λhm=>?_,EE.2 ⟨(EF.1 VV).2.sublist hs,(EE.1 hR.AT).1,λx hx y hy e=>?_⟩⟩) (by omega)
         (.Cr rfl rfl rfl (setRow_heap w g cur new _ _ hg) (by simp[b2];omega) (by omega) Dj (by rw[KY];show o0+off*P.cellsOf kb.el+(c0 - off)*P.cellsOf kb.el=cur.size;omega) rfl (λ_=>?_) (λhf=>by simp[b2,Cm] at hf))⟩
        .rcases BU.1 W9 with h1|h1
         .exact .inl (by rw[CR];exact Cp _ (NO k' h1))
         .exact .inr h1
        .rcases BU.1 hm with h1|h1
         .exact VY h1
         .exact I7 h1
        .subst e
         exact hR.A7 ib kb G9 Yw x (by rw[CR];exact Cp _ (NO x hx)) (CC _ hy)
        .show B3 (w.setRow g new) ((new.toList.drop (o0+off*P.cellsOf kb.el)).take ((kb.rows.drop off++rows).length*P.cellsOf kb.el)) (kb.rows.drop off++rows).flatten (f1++r)
         rw[Xcc,List.flatten_append];exact hOO
       | false=>
        refine⟨_,hR.over (b':=b2) (f':=[]) (new:=new) Zt (by rw[DY];exact Yk) G9 Yw hU ⟨fp,CR⟩ (λk' W9=>by simp at W9) (by simp) (by omega)
         (.Cr rfl rfl rfl (setRow_heap w g cur new _ _ hg) (by simp[b2];omega) (by omega) Dj (by rw[KY];show o0+off*P.cellsOf kb.el+(c0 - off)*P.cellsOf kb.el=cur.size;omega) rfl (λhf=>by simp[b2,Cm] at hf) (λ_=>⟨rfl,λj x hj=>?_⟩))⟩
        have I8:((kb.rows.drop off).flatten++rows.flatten)[j]?=some x:=by rw[<-List.flatten_append];exact hj
        have DZ:(kb.rows.drop off).flatten.length=len*P.cellsOf kb.el:=by rw[HM Ts,IA]
        by_cases KU:j < len*P.cellsOf kb.el
        .rw[EX (by omega)] at I8
         obtain⟨v,hv,hr⟩:=vK j x I8;exact⟨v,by rw[vM,Ak (by omega)];exact vJ j v hv,VX hr⟩
        .rw[FE (by omega),DZ] at I8
         obtain⟨v,hv,hr⟩:=VU hC _ x I8;have Z7:=(CZ.1 hv).1;refine⟨v,?_,VX hr⟩;rw[vM,Aj (by omega),<-hv]
         congr 1;omega
      obtain⟨VW,PH,FH⟩:=PH;refine .value (Mn ho Xt) ⟨CN,DY,FH,_,_,PH,?_,Ez Zt,Tq Yk hk⟩;have:=En.sl (w:=w.setRow g new) (ok:=AG ((s1.kill ib).A5 id b2) (Bi U id (some (.Bl g (o0+off*P.cellsOf kb.el) (c0 - off) (P.cellsOf kb.el)))) (w.setRow g new)) (off:=0) (len:=len+rows.length) (Z8 U id (some (.Bl g (o0+off*P.cellsOf kb.el) (c0 - off) (P.cellsOf kb.el)))) (by omega);simpa using this
     ·
      have Lb:=hR.float G9 Yw;have hsup:len+rows.length<=9223372036854775807:=by omega
      have Xt:=run_append_grow (P:=P) (w:=w) t o.type kb.el i z ht hi hz ⟨g,o0+off*P.cellsOf kb.el,none⟩ len (c0 - off) Cv (by rw[iL,NR]) Xce ad rows.length c us (by rw[hC.len,NR]) Fj (by omega) (by omega) (growslice_fits (by omega) (by rw[iH];exact PG));rw[<-hq,<-hv] at Xt;have Dj:∀q∈kb.rows.drop off++rows,q.length=P.cellsOf kb.el:=λq hq=>by
       rcases BU.1 hq with hq|hq
       .exact Ts q hq
       .exact BX q hq
      have Y93:(Cv++us).length=(kb.rows.drop off++rows).length*P.cellsOf kb.el:=by rw[Cy,Cy,IA,Nat.add_mul,hC.len,iL]
      have Z0a:Cv.toArray++us.toArray=(Cv++us).toArray:=by simp
      rw[Z0a] at Xt;cases Cm:(kb.cl&&cl) with
      | true=>
       have PJ:=Cm;simp only[Bg] at PJ;obtain⟨f1,hO,hs⟩:=iM PJ.1;have Hm:((f1++r)++fl).Sublist (F ib++(r++fl)):=by
        rw[CR,List.append_assoc];exact Vo (hs.trans (Vef _ _)) (N4 _)
       have hO3:B3 w (Cv++us) (kb.rows.drop off++rows).flatten (f1++r):=by rw[List.flatten_append];exact hO.append (hC.own PJ.2)
       refine .value (Mn ho Xt) ?_;exact VN (s:=s) (k:=k) (s1:=s1.kill ib) (r:=f1++r) (Lb.less Hm) CN DY Zt Yk hk Dy (by rw[Cy,IA]) (by unfold maxLen;omega) Dj Y93 (λ_=>hO3) (λh=>by cases h)
      | false=>
       refine .value (Mn ho Xt) ?_;refine VN (s:=s) (k:=k) (s1:=s1.kill ib) (r:=[]) (fl:=fl) ((hR.less (Im _ _)).kill ib) CN DY Zt Yk hk Dy (by rw[Cy,IA]) (by unfold maxLen;omega) Dj Y93 (λh=>by cases h) (λ_=>⟨rfl,λj x hj=>?_⟩);have I8:((kb.rows.drop off).flatten++rows.flatten)[j]?=some x:=by rw[<-List.flatten_append];exact hj
       have DZ:(kb.rows.drop off).flatten.length=len*P.cellsOf kb.el:=by rw[HM Ts,IA]
       by_cases KU:j < len*P.cellsOf kb.el
       .rw[EX (by omega)] at I8
        obtain⟨v,hv,hr⟩:=vK j x I8;exact⟨v,by rw[EX (by omega)];exact hv,hr.mono (λ_ _ _=>rfl) (λg hg=>VC hg)⟩
       .rw[FE (by omega),DZ] at I8
        obtain⟨v,hv,hr⟩:=VU hC _ x I8;exact⟨v,by rw[FE (by omega),iL];exact hv,hr.mono (λ_ _ _=>rfl) (λg hg=>VC hg)⟩
 .cases he
end
section
variable {P:Program} {B:Nat} {io:Nat->Prop} {w:World} {a:Act} {s:St} {U:AX} {F:Id->List Nat} {fl:List Nat} {k:Nat} {o:Oper} {v:V}
theorem Xcb {t e:TypeId} (h:P.underlying t=some (.slice e)):P.elem t=e:=by simp[Program.elem,h]
theorem Y7a {t e:TypeId} (ht:P.underlying t=some (.slice e)) (hz:Z4 P e≠0) (A:Option Addr) (len cap:Nat) (lo hi:Option Value) (l h:Nat)
  (hl:(lo=none/\l=0)\/∃kd,lo=some (.int kd l)) (hh:(hi=none/\h=len)\/∃kd,hi=some (.int kd h)) (h1:l<=h) (h2:h<=len) (h3:len<=cap):
  (Instr.sliceAt t (.slice A len cap) lo hi none).run P w=.ok (sliced A l h cap (P.cellsOf e)) w:=by
 have he:=Xcb ht;have PK:P.underlying t=some (.slice (P.elem t)):=by rw[he];exact ht
 rw[run_sliceAt_slice w t _ _ _ _ PK];obtain⟨ti,CM,Ww⟩:∃ti,P.info? e=some ti/\ti.size=P.cellsOf e:=by
  unfold Z4 Program.cellsOf at hz;unfold Program.cellsOf;cases hq:P.info? e with
  | none=>rw[hq] at hz;simp at hz
  | some ti=>exact⟨ti,rfl,rfl⟩
 have hs:((sizeOf (P.elem t)).run P w)=.ok (P.cellsOf e) w:=by rw[he];simp[sizeOf,typeInfo,CM,Ww]
 rcases hl with⟨rfl,rfl⟩|⟨kl,rfl⟩<;>rcases hh with⟨rfl,rfl⟩|⟨kh,rfl⟩
 .rw[run_slice_all w t A _ cap PK,hs];rfl
 .rw[run_slice_h w t A len cap PK kh h (by omega) (by omega),hs];rfl
 .rw[run_slice_l w t A _ cap PK kl l (by omega) (by omega),hs];rfl
 .rw[run_slice_lh w t A len cap PK kl kh l h (by omega) (by omega) (by omega),hs];rfl
theorem Rd.slice {ok:Nat->Prop} {u:Value} {rows:List (List V)} {l h sz:Nat} (hr:Rd w ok u (.tr rows)) (hh:h<=rows.length) (hl:l<=h) (hs:∀r∈rows,r.length=sz):
  ∃A len cap,u=.slice A len cap/\len=rows.length/\len<=cap/\Rd w ok (sliced A l h cap sz) (.tr ((rows.drop l).take (h - l))):=by
 cases hr with
 | @emp A c=>
  have h0:h=0:=by simpa using hh
  have l0:l=0:=by omega
  subst h0;subst l0;exact⟨A,0,c,rfl,rfl,Cf _,by simp only[sliced];exact .emp⟩
 | @tr g o n c Ct _ uf hn hc hm HJ hg hu Cj=>
  refine⟨_,n,c,rfl,hn.symm,hc,?_⟩;by_cases he:(rows.drop l).take (h - l)=[]
  .have:h - l=0:=by
    have:=congrArg List.length he;simp at this;omega
   rw[he];simp only[sliced,this];exact .emp
  .have Z7:l < h:=by
    rcases KN l h with h'|h'
    .exact h'
    .exact absurd (by rw[show h - l=0 by omega];rfl) he
   have Ww:Ct=sz:=by
    have hx:rows[l]?=some (rows[l]'(by omega)):=CB (by omega);rw[<-HJ _ (Eh hx),hs _ (Eh hx)]
   subst Ww;have W8:c≠l:=by omega
   simp only[sliced,Ak W8,D8];have HO:(⟨g,o,none⟩:Addr).add (l*Ct)=⟨g,o+l*Ct,none⟩:=by unfold Addr.add;split<;>simp_all
   rw[HO];have cell:∀(k:Nat) (x:V),((rows.drop l).take (h - l)).flatten[k]?=some x->rows.flatten[l*Ct+k]?=some x:=by
    intro k x hk;have hd:∀r∈rows.drop l,r.length=Ct:=λr hr=>HJ r (FX hr);rw[<-u5 (h - l) hd,<-VB l HJ,Dg] at hk;split at hk
    .rwa [D7] at hk
    .cases hk
   refine .tr (u:=λk=>uf (l*Ct+k)) (by simp;omega) (by omega) (by omega) (λr hr=>HJ r (FX (FY hr))) hg (λk x hk=>?_) (λk x hk=>Cj _ x (cell k x hk));rw[Nat.add_assoc];exact hu _ x (cell k x hk)
theorem vN (h:Rel P B io w a.tmps s U F fl) {t:TypeId} {x:Operand} {lo hi:Option Operand} (ho:o.op=.slice t x lo hi none)
  (he:NB P s t (s.AP x) (lo.map s.AP) (hi.map s.AP)=some v):Cg P o a w (Ch P B io w a.tmps s U fl k v s):=by
 unfold NB at he;obtain⟨e,Q0,he⟩:=A8.1 he;obtain⟨rows,Wq,he⟩:=A8.1 he;obtain⟨l,hl,he⟩:=A8.1 he;obtain⟨hh,hhi,he⟩:=A8.1 he;have ht:=Me Q0;split at he
 case isFalse=>cases he
 rename_i hc;obtain⟨h1,h2,K3,hz⟩:=hc;have Pv:P.cellsOf e≠0:=hz;have BX:∀r∈rows,r.length=P.cellsOf e:=λr hr=>by
  have:=Cd.1 K3 r hr;simpa [Z4] using this
 have hlo:(lo.map a.eval=none/\l=0)\/∃kd,lo.map a.eval=some (.int kd l):=by
  cases lo with
  | none=>simp at hl;exact .inl ⟨rfl,hl.symm⟩
  | some lo=>
   obtain⟨kd,hk⟩:=V8 (h.AP lo) hl;exact .inr ⟨kd,by simp[hk]⟩
 have vO:∀len,len=rows.length->(hi.map a.eval=none/\hh=len)\/∃kd,hi.map a.eval=some (.int kd hh):=by
  intro len Yo;cases hi with
  | none=>simp at hhi;exact .inl ⟨rfl,by omega⟩
  | some hi=>
   obtain⟨kd,hk⟩:=V8 (h.AP hi) hhi;exact .inr ⟨kd,by simp[hk]⟩
 have fin:∀(A:Option Addr) (len cap:Nat),a.eval x=.slice A len cap->len=rows.length->len<=cap->En w (AG s U w) U (sliced A l hh cap (P.cellsOf e)) v->Cg P o a w (Ch P B io w a.tmps s U fl k v s):=by
  intro A len cap hq Yo Fm hv;have Xt:=Y7a (w:=w) ht hz A len cap _ _ l hh hlo (vO len Yo) h1 (by omega) Fm;refine .value (v:=sliced A l hh cap (P.cellsOf e)) ?_ (.same h hv);rw[<-hq] at Xt;simp[execOp,ho,Xt]
 have hx:=h.AP x;have tree:∀{u:Value},a.eval x=u->Rd w (AG s U w) u (.tr rows)->(Rd w (AG s U w) (sliced (match u with|.slice A _ _=>A|_=>none) l hh (match u with|.slice _ _ c=>c|_=>0) (P.cellsOf e)) (.tr ((rows.drop l).take (hh - l)))->En w (AG s U w) U (sliced (match u with|.slice A _ _=>A|_=>none) l hh (match u with|.slice _ _ c=>c|_=>0) (P.cellsOf e)) v)->
   Cg P o a w (Ch P B io w a.tmps s U fl k v s):=by
  intro u hu hr X7;obtain⟨A,len,cap,rfl,Yo,Fm,C6⟩:=hr.slice h2 h1 BX;exact fin A len cap hu Yo Fm (X7 C6)
 generalize hq:a.eval x=q at hx;split at he
 .rename_i id off len VZ
  simp only[AB] at he;subst he;rw[VZ] at hx Wq;have Yo:rows.length=len:=by
   simp only[St.rowsOf] at Wq;obtain⟨b,hb,Wq⟩:=A8.1 Wq;split at Wq
   .rename_i hc
    simp only[AB] at Wq;rw[<-Wq];simp;omega
   .cases Wq
  cases hx with
  | @sle _ A _ hU=>
   have e0:hh=0:=by omega
   have e1:l=0:=by omega
   subst e0;subst e1;refine fin A 0 0 hq Yo.symm (B2 _) ?_;simp only[sliced,if_true,Nat.sub_zero];exact .sle hU
  | @sl _ g o0 c sz _ _ hU hoc=>
   refine fin _ len (c - off) hq Yo.symm (by omega) ?_;by_cases W8:c - off=l
   .have:hh - l=0:=by omega
    simp only[sliced,Aj W8,this,W8,Nat.sub_self];exact .sle (by rw[hU];rfl)
   .by_cases IB:rows=[]
    .subst IB
     have e0:hh=0:=by simpa using h2
     have e1:l=0:=by omega
     subst e0;subst e1;simp only[sliced,Ak W8,D8,gV,Nat.sub_zero,HK,He];exact .sl hU (by omega)
    .have Ww:sz=P.cellsOf e:=by
      simp only[St.rowsOf] at Wq;obtain⟨b,hb,Wq⟩:=A8.1 Wq;split at Wq
      .rename_i hc
       simp only[AB] at Wq;have hB:=h.heap id b hb;rw[hU] at hB;have Lc:∀r∈b.rows,r.length=sz:=by
        unfold Xs at hB;rw[hc.1] at hB;generalize b.own=ow at hB;cases ow with
        | true=>
         rcases hB with⟨Y3,_⟩|⟨g',gZ,c',cur,Y3,hg,hH,hm,Cl,Pv,fp,CR,h1,h2⟩
         .cases Y3
         .cases Y3;exact Cl
        | false=>
         obtain⟨_,hB⟩:=hB;rcases hB with⟨Y3,_⟩|⟨g',gZ,c',Ct,Y3,Cl,hr⟩
         .cases Y3
         .cases Y3;exact Cl
       obtain⟨r0,NS⟩:=List.exists_mem_of_ne_nil rows IB;have Tt:r0∈b.rows:=by rw[<-Wq] at NS;exact FX (FY NS)
       rw[<-Lc r0 Tt,BX r0 NS]
      .cases Wq
     subst Ww;simp only[sliced,Ak W8,D8,HK];have:=En.sl (w:=w) (ok:=AG s U w) (off:=off+l) (len:=hh - l) hU (by omega);rw[Nat.add_mul,<-Nat.add_assoc] at this;rw[show c - off - l=c - (off+l) by omega];exact this
 .rename_i Bt VZ
  simp only[AB] at he;subst he;rw[VZ] at hx Wq;simp only[St.rowsOf,AB] at Wq;subst Wq;cases hx with|tr hr=>exact tree hq hr (λh=>.tr h)
 .rename_i Bt VZ
  simp only[AB] at he;subst he;rw[VZ] at hx Wq;simp only[St.rowsOf,AB] at Wq;subst Wq;cases hx with|vw hr=>exact tree hq hr (λh=>.vw h)
 .cases he
end
theorem Ytm {off:Nat}:∀(l:List Value) (k:Nat) (cs:Array Value),off+k+l.length<=cs.size->
  ((l.zipIdx k).foldl (λcs (p:Value×Nat)=>cs.setIfInBounds (off+p.2) p.1) cs).size=cs.size/\
  ∀j,((l.zipIdx k).foldl (λcs (p:Value×Nat)=>cs.setIfInBounds (off+p.2) p.1) cs)[j]?=if off+k<=j/\j < off+k+l.length then l[j - (off+k)]? else cs[j]?:=by
 intro l
 induction l with
 | nil=>intro k cs _;refine⟨rfl,λj=>?_⟩;rw[Ak (λhc=>by have:=hc.2;simp only[Bo] at this;omega)];rfl
 | cons v l ih=>
  intro k cs h;simp only[AU] at h;obtain⟨h1,h2⟩:=ih (k+1) (cs.setIfInBounds (off+k) v) (by simp;omega);refine⟨by simpa using h1,λj=>?_⟩;have:=h2 j;simp only[List.zipIdx_cons,HG];rw[this];by_cases hj:j=off+k
  .subst hj
   rw[Ak (by omega),Aj (by simp),gC,Aj rfl,Aj (by omega)];simp
  .by_cases hc:off+(k+1)<=j/\j < off+(k+1)+l.length
   .rw[Aj hc,Aj (by simp;omega)]
    obtain⟨m,hm⟩:∃m,j - (off+k)=m+1:=⟨j - (off+k) - 1,by omega⟩;rw[hm,Vec]
    congr 1;omega
   .rw[Ak hc,Ak (by simp;omega),gC,Ak (by omega)]
theorem Y77 {off:Nat} (vs cs:Array Value) (h:off+vs.size<=cs.size):
  (vs.zipIdx.foldl (λcs (c,j)=>cs.setIfInBounds (off+j) c) cs).size=cs.size/\
  ∀j,(vs.zipIdx.foldl (λcs (c,j)=>cs.setIfInBounds (off+j) c) cs)[j]?=if off<=j/\j < off+vs.size then vs[j - off]? else cs[j]?:=by
 have h0:=Ytm (off:=off) vs.toList 0 cs (by simpa using h);have e:vs.zipIdx.foldl (λcs (c,j)=>cs.setIfInBounds (off+j) c) cs=(vs.toList.zipIdx 0).foldl (λcs (p:Value×Nat)=>cs.setIfInBounds (off+p.2) p.1) cs:=by
  rw[<-Array.foldl_toList];simp
 rw[e];refine⟨h0.1,λj=>?_⟩;rw[h0.2 j];simp
section
variable {P:Program} {w:World} {ok:Nat->Prop} {U:AX}
theorem Y0e (place:Nat->Option (Nat×Nat)):∀(ps:List (Nat×Value×V)) (C:Array Value) (X X':List V),C.size=X.length->
  (∀(j:Nat) (u:Value) (x:V),C[j]?=some u->X[j]?=some x->En w ok U u x)->(∀x∈X,AD x=true)->(∀p∈ps,En w ok U p.2.1 p.2.2)->
  Ir P place X (ps.map λp=>(p.1,p.2.2))=some X'->
  ∃C',Instr.fill place C (ps.map λp=>(p.1,p.2.1))=some C'/\C'.size=X'.length/\X'.length=X.length/\(∀(j:Nat) (u:Value) (x:V),C'[j]?=some u->X'[j]?=some x->En w ok U u x)/\∀x∈X',AD x=true:=by
 intro ps
 induction ps with
 | nil=>
  intro C X X' hs hR hc _ hf;simp only[Hf,Ir,AB] at hf;subst hf;exact⟨C,rfl,hs,rfl,hR,hc⟩
 | cons p ps ih=>
  intro C X X' hs hR hc hp hf;obtain⟨i,u,x⟩:=p;simp only[C7,Ir] at hf;obtain⟨⟨off,sz⟩,NT,hf⟩:=A8.1 hf;obtain⟨cs,BO,hf⟩:=A8.1 hf;split at hf
  case isFalse=>cases hf
  rename_i WA;obtain⟨iN,IC⟩:=WA;have iN:cs.length=sz:=iN;have IC:off+sz<=X.length:=IC;simp only at hf;obtain⟨h1,h2,h3⟩:=iD (show En w ok U u x from hp (i,u,x) BJ) BO;have hpf:=Y77 (off:=off) u.cells C (by omega);obtain⟨C',WB,r1,r2,r3,r4⟩:=ih (u.cells.zipIdx.foldl (λcs (c,j)=>cs.setIfInBounds (off+j) c) C) (Dh X off cs) X' (by rw[hpf.1,VD (by omega),hs]) (λj v y hv hy=>by
   rw[hpf.2 j] at hv;rcases iE (by omega) hy with⟨g1,g2,g3⟩|⟨g1,g2⟩
   .rw[Aj (by omega)] at hv
    exact h3 _ v y hv g3
   .rw[Ak (by omega)] at hv
    exact hR j v y hv g2) (λy hy=>by
   obtain⟨m,hm⟩:=HF hy;rcases iE (by omega) hm with⟨_,_,g3⟩|⟨_,g2⟩
   .exact h2 y (Eh g3)
   .exact hc y (Eh g2)) (λq hq=>hp q (Cp _ hq)) hf
  refine⟨C',?_,r1,by rw[r2,VD (by omega)],r3,r4⟩;simp only[C7,Instr.fill,NT];rw[Ak]
  .exact WB
  .simp only[N7,Bj,ne_eq]
   omega
end
section
variable {P:Program} {B:Nat} {io:Nat->Prop} {w:World} {a:Act} {s:St} {U:AX} {F:Id->List Nat} {fl:List Nat} {k:Nat} {o:Oper} {v:V}
theorem iO {t:TypeId} {z:List V} (h:Fc P t=some z):∃ti zv,P.info? t=some ti/\ti.zero=some zv/\z=zv.cells.toList.map .lit/\∀u∈zv.cells.toList,D9 u=true:=by
 unfold Fc at h;obtain⟨zv,Fl,hz⟩:=A8.1 h;obtain⟨ti,CM,Xr⟩:=A8.1 Fl;split at hz
 .rename_i K3
  simp only[AB] at hz;exact⟨ti,zv,CM,Xr,hz.symm,λu hu=>Cd.1 K3 u hu⟩
 .cases hz
theorem Y0c {ok:Nat->Prop} {C:Array Value} (hs:∀u∈C.toList,D9 u=true):∀(j:Nat) (u:Value) (x:V),C[j]?=some u->(C.toList.map V.lit)[j]?=some x->En w ok U u x:=by
 intro j u x hu hx;simp only[Dt,AL] at hx;obtain⟨y,hy,rfl⟩:=hx;have:u=y:=by
  have h1:C.toList[j]?=some u:=by simpa using hu
  rw[h1] at hy;injection hy
 subst this;exact .lit (hs u (Eh hy))
theorem Yxb:∀(fs:List Field),fs.all (λf=>(P.info? f.type).isSome)=true->fs.mapM (λf=>(P.info? f.type).map λi=>(f.offset,i.size))=some (fs.map λf=>(f.offset,P.cellsOf f.type)):=by
 intro fs
 induction fs with
 | nil=>intro _;rfl
 | cons f fs ih=>
  intro h;simp only[DW,Bg] at h;obtain⟨i,hi⟩:=EY.1 h.1;simp[List.mapM_cons,hi,ih h.2,Program.cellsOf]
theorem Y9b (h:Rel P B io w a.tmps s U F fl) {t:TypeId} {parts:Array (Nat×Operand)} {fs:Array Field} {z cs:List V} (ho:o.op=.build t parts) (hz:Fc P t=some z) (hu:P.underlying t=some (.struct fs))
  (K3:fs.toList.all (λf=>(P.info? f.type).isSome)=true)
  (hf:Ir P (λi=>(fs[i]?).map λf=>(f.offset,P.cellsOf f.type)) z (parts.toList.map λp=>(p.1,s.AP p.2))=some cs):Cg P o a w (Ch P B io w a.tmps s U fl k (.agg cs) s):=by
 obtain⟨ti,zv,CM,Fl,rfl,Hk⟩:=iO hz;obtain⟨C',WB,r1,r2,r3,r4⟩:=Y0e (P:=P) (w:=w) (ok:=AG s U w) (U:=U) (λi=>(fs[i]?).map λf=>(f.offset,P.cellsOf f.type)) (parts.toList.map λp=>(p.1,a.eval p.2,s.AP p.2)) zv.cells (zv.cells.toList.map .lit) cs (by simp)
  (Y0c Hk) (λx hx=>by obtain⟨u,_,rfl⟩:=Dx.1 hx;rfl) (λp hp=>by obtain⟨q,_,rfl⟩:=Dx.1 hp;exact h.AP q.2) (by simpa [Po] using hf)
 have hb:P.built t (parts.map λ(i,x)=>(i,a.eval x)).toList=some C':=by
  unfold Program.built;simp only[CM,hu,Fl,Yxb fs.toList K3];rw[<-WB]
  congr 1
  .funext i;simp
  .simp[Po]
 refine .value (v:=.agg C') ?_ (.same h (.agg r1 r4 r3));have:=run_build (P:=P) w t _ C' hb;simp[execOp,ho,this]
end
theorem Y1k {sz:Nat}:∀(n:Nat) (l:List V),l.length=n*sz->(Is sz n l).flatten=l/\(∀r∈Is sz n l,r.length=sz)/\(Is sz n l).length=n:=by
 intro n
 induction n with
 | zero=>
      intro l h;have:l=[]:=Gz (by omega);subst this;exact⟨rfl,by simp[Is],rfl⟩
 | succ n ih=>
  intro l h;rw[KL] at h;obtain⟨h1,h2,h3⟩:=ih (l.drop sz) (by simp;omega);refine⟨by simp[Is,h1],λr hr=>?_,by simp[Is,h3]⟩;simp only[Is,Ce] at hr;rcases hr with rfl|hr
  .simp;omega
  .exact h2 r hr
theorem vP {α:Type} {l:List α} {n k:Nat} (hk:k < n*l.length):(List.replicate n l).flatten[k]?=l[k % l.length]?:=by
 have hl:0 < l.length:=by
  rcases uI l.length with h|h
  .rw[h] at hk;simp at hk
  .exact h
 have hi:k / l.length < n:=(Nat.div_lt_iff_lt_mul hl).2 hk;have hm:=Nat.mod_lt k hl;have h1:l[k % l.length]?=some (l[k % l.length]'hm):=CB hm;have:=Tj (sz:=l.length) (rows:=List.replicate n l) (i:=k / l.length) (j:=k % l.length) (λr hr=>by rw[(LU.1 hr).2]) (by rw[Ved,Aj hi]) h1;rw[Nat.mul_comm,Nat.div_add_mod] at this;rw[this,h1]
theorem vQ (z:Array Value) (n:Nat):(madeCells z (n*z.size)).toList=(List.replicate n z.toList).flatten:=by
 apply Vp;intro k;by_cases hk:k < n*z.size
 .rw[vP (by simpa using hk)]
  have hz:0 < z.size:=by
   rcases uI z.size with h|h
   .rw[h] at hk;simp at hk
   .exact h
  have hm:=Nat.mod_lt k hz;simp[madeCells,hk,hm]
 .have h1:(List.replicate n z.toList).flatten.length=n*z.size:=by
   rw[HM (sz:=z.size) (λr hr=>by rw[(LU.1 hr).2];simp)];simp
  rw[SZ (by simp[madeCells];omega),SZ (by rw[h1];omega)]
theorem B3.WC {w:World}:∀(l:List Value),(∀u∈l,D9 u=true)->B3 w l ((l.map V.lit).map EH) []:=by
 intro l
 induction l with
 | nil=>intro _;exact .nil
 | cons u l ih=>
  intro h;have h1:Ow w u (EH (.lit u)) []:=by
   unfold EH;split
   .rename_i he;injection he with he;subst he;exact .emp
   .exact .lit (h u BJ)
  have:=B3.cons h1 (ih λu hu=>h u (Cp _ hu));simpa using this
theorem B3.Fp {w:World} {l:List Value} (h:∀u∈l,D9 u=true) (n:Nat):B3 w (List.replicate n l).flatten (List.replicate n ((l.map V.lit).map EH)).flatten []:=by
 induction n with
 | zero=>exact .nil
 | succ n ih=>
  have:=(B3.WC (w:=w) l h).append ih;simpa [List.replicate_succ] using this
section
variable {P:Program} {B:Nat} {io:Nat->Prop} {w w':World} {a:Act} {tmps:Array Value} {s s':St} {U U':AX} {F F':Id->List Nat} {fl fl':List Nat} {k:Nat} {o:Oper} {v:V}
theorem Yyr:∀(rows:List (List V)) {us:List Value} {s:St} {fl:List Nat} {Bt:List (List V)} {c:Bool} {s':St},Rel P B io w tmps s U F fl->us.length=rows.flatten.length->
  (∀(k:Nat) (u:Value) (x:V),us[k]?=some u->rows.flatten[k]?=some x->En w (AG s U w) U u x)->s.Bp rows=some (Bt,c,s')->
  ∃fp,Rel P B io w tmps s' U F (fp++fl)/\Bt.length=rows.length/\(∀sz,(∀r∈rows,r.length=sz)->∀r∈Bt,r.length=sz)/\us.length=Bt.flatten.length/\(c=true->B3 w us Bt.flatten fp)/\
   (∀(k:Nat) (u:Value) (y:V),us[k]?=some u->Bt.flatten[k]?=some y->Rd w (AG s' U w) u y)/\
   s'.env=s.env/\s'.ep=s.ep/\(∀id b,s'.heap id=some b->s.heap id=some b)/\(∀g,AG s U w g->AG s' U w g):=by
 intro rows
 induction rows with
 | nil=>
  intro us s fl Bt c s' h hl X7 hs;simp only[St.Bp,AB,A6] at hs;obtain⟨rfl,rfl,rfl⟩:=hs;have:us=[]:=Gz (by simpa using hl);subst this;exact⟨[],h,rfl,λ_ _ r hr=>by simp at hr,rfl,λ_=>.nil,λk u y hu=>by simp at hu,rfl,rfl,λ_ _ h=>h,λ_ h=>h⟩
 | cons row rows ih=>
  intro us s fl Bt c s' h hl X7 hs;simp only[St.Bp] at hs;obtain⟨⟨ys,c1,s1⟩,C5,hs⟩:=A8.1 hs;obtain⟨⟨zs,c2,s2⟩,DX,hs⟩:=AL.1 hs;simp only[A6] at hs;obtain⟨rfl,rfl,rfl⟩:=hs;simp only at DX;simp only[DV,Cy] at hl;have PI:(us.take row.length).length=row.length:=by simp;omega
  have CI:(us.drop row.length).length=rows.flatten.length:=by rw[gN];omega
  have NF:us.take row.length++us.drop row.length=us:=gH _ _;obtain⟨f1,g1,g2,g3,g4,g5,g6,g7,g8⟩:=Yz7 row h PI (λj u x hu hx=>X7 j u x (by
    rw[Dg] at hu;split at hu
    .exact hu
    .cases hu) (by
    rw[DV,EX (CZ.1 hx).1];exact hx)) C5
  obtain⟨f2,k1,k2,k3,k4,k5,k6,k7,k8,k9,vR⟩:=ih g1 CI (λj u x hu hx=>by
    rw[D7] at hu;have:=X7 (row.length+j) u x hu (by rw[DV,FE (by omega)];simpa using hx);exact (show En w (λg=>(¬AJ s U g)/\g < w.heap.size) U u x from this).C8 (.same (λg ht=>by
     obtain⟨Av,b,o,c,sz,hb,ho,hU⟩:=ht;exact⟨Av,b,o,c,sz,g7 Av b hb,ho,hU⟩)) (λ_ _ h=>h)) DX
  refine⟨f1++f2,k1.perm ?_,by simp[k2],λsz Ww r hr=>?_,by rw[DV,Cy,<-g2,<-k4,PI,CI];exact hl,λhc=>?_,λj u y hu hy=>?_,k7.trans g5,k8.trans g6,λid b hb=>g7 id b (k9 id b hb),λg hg=>vR g (g8 g hg)⟩
  .rw[List.append_assoc]
   exact (Ph _ _ _)
  .rcases Ce.1 hr with rfl|hr
   .rw[<-g2,PI];exact Ww row BJ
   .exact k3 sz (λr hr=>Ww r (Cp _ hr)) r hr
  .rw[Bg] at hc
   have:=(g3 hc.1).append (k5 hc.2);rw[NF] at this;exact this
  .rw[DV] at hy
   by_cases hj:j < ys.length
   .rw[EX hj] at hy
    have:=g4 j u y (by rw[Dg,Aj (by omega)];exact hu) hy;exact this.mono (λ_ _ _=>rfl) vR
   .rw[FE (by omega)] at hy
    exact k6 (j - ys.length) u y (by rw[D7,show row.length+(j - ys.length)=j by omega];exact hu) hy
theorem vS {r:List Nat} {s1:St} (h:Rel P B io w a.tmps s1 U F (r++fl)) (CN:s1.env=s.env) (DY:s1.ep=s.ep) {id:Id} (Zt:U id=none) (Yk:id.1=s.ep) (hk:id.2 / 1024=k) {C:Array Value} {rows:List (List V)} {e:TypeId} {cl:Bool} {n:Nat}
  (hn:rows.length=n) (hm:n<=maxLen) (hu:∀q∈rows,q.length=P.cellsOf e)
  (Yo:C.size=rows.length*P.cellsOf e) (h1:cl=true->B3 w C.toList rows.flatten r) (h2:cl=false->r=[]/\∀(k:Nat) (x:V),rows.flatten[k]?=some x->∃v,C.toList[k]?=some v/\Rd w (AG s1 U w) v x):
  Ch P B io w a.tmps s U fl k (.sl id 0 n) (s1.A5 id ⟨false,true,cl,e,rows⟩) (.slice (some ⟨w.heap.size,0,none⟩) n n) (w.alloc (.cells C e)):=by
 subst hn;have hR:=h.grown (w':=w.alloc (.cells C e)) (c:=rows.length) (us:=C.toList) (zs:=[]) (e:=e) (cl:=cl) Zt (by rw[DY];exact Yk) (Tm w _) (λg hg=>Below.heap_alloc w _ g hg) (by
  have:=iB w (.cells C e);simpa using this) (B2 _) hm hu (by simpa using Yo) (by simpa using Yo) h1 h2
 refine⟨CN,DY,(J5.refl B io w).alloc h.base _,_,_,hR,?_,Ez Zt,Tq Yk hk⟩;have:=En.sl (w:=w.alloc (.cells C e)) (ok:=AG (s1.A5 id ⟨false,true,cl,e,rows⟩) (Bi U id (some (.Bl w.heap.size 0 rows.length (P.cellsOf e)))) (w.alloc (.cells C e)))
  (off:=0) (len:=rows.length) (Z8 U id (some (.Bl w.heap.size 0 rows.length (P.cellsOf e)))) (by omega)
 simpa using this
theorem Yrk (h:Rel P B io w a.tmps s U F fl) {t e:TypeId} {n:Nat} {parts:Array (Nat×Operand)} {z cs:List V} {rows:List (List V)} {c:Bool} {s1:St} (ho:o.op=.buildSlice t n parts) (Q0:Qu P t=some e) (hz:(if n*Z4 P e=0 then some [] else Fc P e)=some z)
  (Ww:Z4 P e≠0) (hle:n*Z4 P e<=1048576) (Mq:Mb P e=true) (hf:Ir P (λi=>some (i*Z4 P e,Z4 P e)) (List.replicate n z).flatten (parts.toList.map λp=>(p.1,s.AP p.2))=some cs)
  (hs:s.Bp (Is (Z4 P e) n cs)=some (rows,c,s1)) {id:Id} (Zt:U id=none) (Yk:id.1=s.ep) (hk:id.2 / 1024=k):
  Cg P o a w (Ch P B io w a.tmps s U fl k (.sl id 0 n) (s1.A5 id ⟨false,true,c,e,rows⟩)):=by
 have ht:=Me Q0;have VS:n≠0->Fc P e=some z:=λhn=>by
  split at hz
  .rename_i h0;exact absurd h0 (Nat.mul_ne_zero hn Ww)
  .exact hz
 simp only[Z4] at Ww hle hf hs;have key:∃C',(Instr.buildSlice t n (parts.map λ(i,x)=>(i,a.eval x))).run P w=.ok (.slice (some ⟨w.heap.size,0,none⟩) n n) (w.alloc (.cells C' e))/\C'.size=cs.length/\cs.length=n*P.cellsOf e/\
   (∀(j:Nat) (u:Value) (x:V),C'[j]?=some u->cs[j]?=some x->En w (AG s U w) U u x):=by
  obtain⟨ti,CM,PL⟩:∃ti,P.info? e=some ti/\ti.size=P.cellsOf e:=by
   unfold Program.cellsOf at Ww ⊢;cases hq:P.info? e with
   | none=>rw[hq] at Ww;simp at Ww
   | some ti=>exact⟨ti,rfl,rfl⟩
  by_cases hn:n=0
  .subst hn
   have hpe:(List.replicate 0 z).flatten=[]:=rfl;rw[hpe] at hf;have IB:parts.toList=[]/\cs=[]:=by
    cases hp:parts.toList with
    | nil=>rw[hp] at hf;simp[Ir] at hf;exact⟨rfl,hf⟩
    | cons p ps=>
     rw[hp] at hf;simp only[C7,Ir,Ag] at hf;obtain⟨GA,_,hf⟩:=A8.1 hf;split at hf
     .rename_i hc;simp only[Bo] at hc;omega
     .cases hf
   obtain⟨hp,rfl⟩:=IB;refine⟨#[],?_,rfl,by simp,λj u x hu=>by simp at hu⟩;have hpa:parts=#[]:=by apply Vz;simpa using hp
   subst hpa;simp[Instr.buildSlice,run_underlying ht,sizeOf,typeInfo,CM,PL,Instr.fill,newRow,Array.range_zero']
  .have hnz:n*P.cellsOf e≠0:=Nat.mul_ne_zero hn Ww
   obtain⟨ti',zv,iP,Fl,rfl,Hk⟩:=iO (VS hn);rw[CM] at iP;injection iP with iP;subst iP;have Dy:zv.cells.size=P.cellsOf e:=by
    unfold Mb at Mq;rw[CM] at Mq;simp only[Ag,Fl] at Mq;simpa using Mq
   have vT:(List.replicate n (zv.cells.toList.map V.lit)).flatten.length=n*P.cellsOf e:=by
    rw[HM (sz:=P.cellsOf e) (λr hr=>by rw[(LU.1 hr).2];simp[Dy])];simp
   obtain⟨C',WB,r1,r2,r3,r4⟩:=Y0e (P:=P) (w:=w) (ok:=AG s U w) (U:=U) (λi=>some (i*P.cellsOf e,P.cellsOf e)) (parts.toList.map λp=>(p.1,a.eval p.2,s.AP p.2)) (madeCells zv.cells (n*zv.cells.size)) _ cs (by rw[size_madeCells,vT,Dy])
    (λj u x hu hx=>by
     have Z7:=(CZ.1 hx).1;rw[vT] at Z7;have Cl:(madeCells zv.cells (n*zv.cells.size)).toList[j]?=some u:=by simpa using hu
     rw[vQ,vP (by simpa [Dy] using Z7)] at Cl;rw[vP (by simpa [Dy] using Z7)] at hx;simp only[KH] at hx;have:=Y0c (w:=w) (ok:=AG s U w) (U:=U) Hk (j % zv.cells.toList.length) u x (by simpa using Cl) hx;exact this) (λx hx=>by
     obtain⟨r,hr,hx⟩:=gO.1 hx;rw[(LU.1 hr).2] at hx;obtain⟨u,_,rfl⟩:=Dx.1 hx;rfl) (λp hp=>by obtain⟨q,_,rfl⟩:=Dx.1 hp;exact h.AP q.2) (by simpa [Po] using hf)
   refine⟨C',?_,r1,by rw[r2,vT],r3⟩;refine run_buildSlice w t e n _ C' ti zv ht CM Fl (by rw[PL];omega) (by rw[PL];exact hnz) ?_;rw[<-WB,PL,<-Dy]
   congr 1
   simp[Po]
 obtain⟨C',Xt,vU,W8,X7⟩:=key;obtain⟨c1,c2,c3⟩:=Y1k n cs W8;obtain⟨fp,k1,k2,k3,k4,k5,k6,k7,k8,k9,vR⟩:=Yyr (us:=C'.toList) _ h (by rw[c1];simpa using vU) (λj u x hu hx=>X7 j u x (by simpa using hu) (by rw[c1] at hx;exact hx)) hs;have Dj:rows.length=n:=by rw[k2,c3]
 refine .value (v:=.slice (some ⟨w.heap.size,0,none⟩) n n) (w':=w.alloc (.cells C' e)) (by simp[execOp,ho,Xt]) ?_;have VQ:n<=maxLen:=by
  have:n<=n*P.cellsOf e:=Nat.le_mul_of_pos_right _ (uH Ww);unfold maxLen;omega
 cases c with
 | true=>exact vS k1 k7 k8 Zt Yk hk Dj VQ (k3 _ c2) (by rw[Dj,vU,W8]) (λ_=>k5 rfl) (λhf=>by cases hf)
 | false=>
  refine vS (r:=[]) (k1.less (Im _ _)) k7 k8 Zt Yk hk Dj VQ (k3 _ c2) (by rw[Dj,vU,W8]) (λhf=>by cases hf) (λ_=>⟨rfl,λj x hx=>?_⟩);have Z7:=(CZ.1 hx).1;have hu:C'.toList[j]?=some (C'.toList[j]'(by omega)):=CB (by omega);exact⟨_,hu,k6 j _ x hu hx⟩
theorem Yvw (h:Rel P B io w a.tmps s U F fl) {t e:TypeId} {l c:Operand} {n:Nat} {z:List V} (ho:o.op=.makeSlice t l c) (Q0:Qu P t=some e) (hz:Fc P e=some z) (hl:Wz (s.AP l)=some n) (hc:Wz (s.AP c)=some n)
  (PG:n*P.bytesOf e<=70368744177664) (h63:n<=9223372036854775807) (ID:z.length=Z4 P e) (Ww:Z4 P e≠0) {id:Id} (Zt:U id=none) (Yk:id.1=s.ep) (hk:id.2 / 1024=k):
  Cg P o a w (Ch P B io w a.tmps s U fl k (.sl id 0 n) (s.A5 id ⟨false,true,true,e,List.replicate n (z.map EH)⟩)):=by
 have ht:=Me Q0;obtain⟨ti,zv,CM,Fl,rfl,Hk⟩:=iO hz;simp only[Z4] at ID Ww;have Dy:zv.cells.size=P.cellsOf e:=by simpa using ID
 have PL:ti.size=P.cellsOf e:=by simp[Program.cellsOf,CM]
 have hbi:ti.bytes=P.bytesOf e:=by simp[Program.bytesOf,CM]
 obtain⟨kl,hl⟩:=V8 (h.AP l) hl;obtain⟨kc,hc⟩:=V8 (h.AP c) hc;have E1:(ti.bytes:Int)*(n:Int)<=281474976710656:=by
  rw[hbi];have h1:=Nat.mul_comm n (P.bytesOf e);have h2:((P.bytesOf e*n:Nat):Int)<=281474976710656:=by omega
  rwa [Int.natCast_mul] at h2
 have Xt:=run_make (P:=P) w t e ti zv ht CM Fl kl kc n n (by omega) (LY _) E1 (by omega);simp only[N5] at Xt;refine .value (v:=.slice (some ⟨w.heap.size,0,none⟩) n n) (w':=w.alloc (.cells (madeCells zv.cells (n*ti.size)) e)) (by simp[execOp,ho,hl,hc,Xt]) ?_;have W8:(madeCells zv.cells (n*ti.size)).toList=(List.replicate n zv.cells.toList).flatten:=by rw[PL,<-Dy];exact vQ _ _
 exact vS (r:=[]) h rfl rfl Zt Yk hk (by simp) (by unfold maxLen;omega) (λq hq=>by rw[(LU.1 hq).2];simp[Dy]) (by rw[size_madeCells];simp[PL]) (λ_=>by rw[W8];exact B3.Fp Hk n) (λhf=>by cases hf)
end
section
variable {P:Program} {B:Nat} {io:Nat->Prop} {w w':World} {a:Act} {tmps:Array Value} {s s':St} {U U':AX} {F F':Id->List Nat} {fl fl':List Nat} {k:Nat} {o:Oper} {v:V}
theorem Y1b {u:Value} (h:D9 u=true):u.oneCell'=true:=by
 cases u<;>simp_all [D9,Value.oneCell']
theorem Y5u {id:Id} {b:Bc} (h:s.heap id=some b):s.A5 id b=s:=by
 unfold St.A5
 congr 1
 funext x
 unfold Bi;split
 .rename_i e;rw[e,h]
 .rfl
theorem Y84 (h:Rel P B io w a.tmps s U F fl) {t e:TypeId} {x:Operand} {id:Id} {off n:Nat} {b:Bc} {z:List V} (ho:o.op=.call {callee:=.builtin .clear,args:=#[x],argTypes:=#[t]}) (Q0:Qu P t=some e) (hz:Fc P e=some z) (hx:s.AP x=.sl id off n)
  (hb:s.heap id=some b) (Yw:b.own=true) (Xl:b.box=false) (Yo:off+n<=b.rows.length) (PF:b.el=e) (ID:z.length=Z4 P e) (Ww:Z4 P e≠0):
  Cg P o a w (Ch P B io w a.tmps s U fl k (.AZ []) (s.A5 id {b with rows:=b.rows.take off++List.replicate n (z.map EH)++b.rows.drop (off+n)})):=by
 have ht:=Me Q0;obtain⟨ti,zv,CM,Fl,rfl,Hk⟩:=iO hz;simp only[Z4] at ID Ww;have Dy:zv.cells.size=P.cellsOf e:=by simpa using ID
 have E0:=h.AP x;rw[hx] at E0;generalize hq:a.eval x=q at E0;have X0:n=0->(∃A c,q=.slice A 0 c)->Cg P o a w (Ch P B io w a.tmps s U fl k (.AZ []) (s.A5 id {b with rows:=b.rows.take off++List.replicate n (zv.cells.toList.map V.lit |>.map EH)++b.rows.drop (off+n)})):=by
  rintro rfl ⟨A,c,rfl⟩;have WD:({b with rows:=b.rows.take off++List.replicate 0 (zv.cells.toList.map V.lit |>.map EH)++b.rows.drop (off+0)}:Bc)=b:=by simp
  rw[WD,Y5u hb];refine .value (v:=.tuple #[]) (w':=w) ?_ (.same h (.AZ (by simp) (λk v x hv=>by simp at hv)));cases A<;>simp[execOp,ho,resolve,invoke,builtin,hq,Builtin.clear_,run_underlying ht]
 cases E0 with
 | @sle _ A _ hU=>exact X0 rfl ⟨A,0,rfl⟩
 | @sl _ g o0 c sz _ _ hU hoc=>
  by_cases hn:n=0
  .subst hn;exact X0 rfl ⟨_,_,rfl⟩
  have hB:=h.heap id b hb;rw[hU] at hB;unfold Xs at hB;rw[Xl,Yw] at hB;rcases hB with⟨Y3,_⟩|⟨g',o',c',cur,Y3,hg,hl,hm,BX,VS,fp,CR,h1,h2⟩
  .cases Y3
  .cases Y3
   subst PF
   let us:=(List.replicate n zv.cells.toList).flatten
   let ys:=(List.replicate n ((zv.cells.toList.map V.lit).map EH)).flatten
   have WE:us=(List.replicate n zv.cells.toList).flatten:=rfl;have vV:ys=(List.replicate n ((zv.cells.toList.map V.lit).map EH)).flatten:=rfl;have Px:us.length=n*P.cellsOf b.el:=by rw[WE,HM (sz:=P.cellsOf b.el) (λr hr=>by rw[(LU.1 hr).2];simp[Dy])];simp
   have Tn:ys.length=n*P.cellsOf b.el:=by rw[vV,HM (sz:=P.cellsOf b.el) (λr hr=>by rw[(LU.1 hr).2];simp[Dy])];simp
   have hO0:∀{w:World},B3 w us ys []:=B3.Fp Hk n;have vW:∀u∈us,u.oneCell'=true:=λu hu=>by
    obtain⟨r,hr,hu⟩:=gO.1 hu;rw[(LU.1 hr).2] at hu;exact Y1b (Hk u hu)
   have hrc:b.rows.length*P.cellsOf b.el<=c*P.cellsOf b.el:=N3 _ hl;have hon:(off+n)*P.cellsOf b.el<=b.rows.length*P.cellsOf b.el:=N3 _ Yo;rw[Nat.add_mul] at hon;have Fo:=run_storeCells_at P g (o0+off*P.cellsOf b.el) b.el us 0 cur w hg (by omega) vW;simp only[He] at Fo;generalize Y4:(cur.toList.take (o0+off*P.cellsOf b.el)++us++cur.toList.drop (o0+off*P.cellsOf b.el+us.length)).toArray=new at Fo;have Xt:(execOp a.eval o).run P w=.ok (.value (.tuple #[])) (w.setRow g new):=by
    have hzt:(Builtin.zeroCells zv.cells n).toList=us:=by rw[WE];exact vQ zv.cells n
    have hnn:n≠0:=hn;cases n with
    | zero=>exact absurd rfl hn
    | succ n=>simp[execOp,ho,resolve,invoke,builtin,hq,Builtin.clear_,run_underlying ht,zeroValue,typeInfo,CM,Fl,hzt,Fo]
   have KY:new.size=cur.size:=by rw[<-Y4];simp;omega
   have Ml:∀k',k'≠g->(w.setRow g new).heap[k']?=w.heap[k']?:=λk' W9=>setRow_other w g k' _ W9;have NN:∀m,new[o0+m]?=if off*P.cellsOf b.el<=m/\m < off*P.cellsOf b.el+us.length then us[m - off*P.cellsOf b.el]? else cur[o0+m]?:=by
    intro m;rw[<-Y4];have:=NI (cur:=cur.toList) (n:=o0+off*P.cellsOf b.el) (vs:=us) (by simp;omega) (j:=o0+m);rw[gE,this];by_cases hc:off*P.cellsOf b.el<=m/\m < off*P.cellsOf b.el+us.length
    .rw[Aj (by omega),Aj hc];congr 1;omega
    .rw[Ak (by omega),Ak hc];simp
   have NM:=HM BX;have To:(b.rows.take off++List.replicate n ((zv.cells.toList.map V.lit).map EH)++b.rows.drop (off+n)).flatten=b.rows.flatten.take (off*P.cellsOf b.el)++ys++b.rows.flatten.drop (off*P.cellsOf b.el+ys.length):=by
    rw[List.flatten_append,List.flatten_append,u5 off BX,Tn,<-Nat.add_mul,VB (off+n) BX]
   have PA:∀r'∈b.rows.take off++List.replicate n ((zv.cells.toList.map V.lit).map EH)++b.rows.drop (off+n),r'.length=P.cellsOf b.el:=λr' Cj=>by
    rcases BU.1 Cj with h4|h4
    .rcases BU.1 h4 with h4|h4
     .exact BX r' (FY h4)
     .rw[(LU.1 h4).2];simp[Dy]
    .exact BX r' (FX h4)
   have PB:(b.rows.take off++List.replicate n ((zv.cells.toList.map V.lit).map EH)++b.rows.drop (off+n)).length=b.rows.length:=by simp;omega
   have Fj:(new.toList.drop o0).take (b.rows.length*P.cellsOf b.el)=((cur.toList.drop o0).take (b.rows.length*P.cellsOf b.el)).take (off*P.cellsOf b.el)++us++((cur.toList.drop o0).take (b.rows.length*P.cellsOf b.el)).drop (off*P.cellsOf b.el+us.length):=by
    apply Vp;intro m;rw[NI (by simp;omega),Dg,Dg,D7,D7];have hm:=NN m;simp only[gG];rw[hm];by_cases hc:off*P.cellsOf b.el<=m/\m < off*P.cellsOf b.el+us.length
    .rw[Aj hc,Aj hc,Aj (by omega)]
    .rw[Ak hc,Ak hc]
   have I7:g ∉ fp:=by
    have:=h.once id b hb Yw;rw[CR] at this;exact (EF.1 this).1
   let b':Bc:={b with rows:=b.rows.take off++List.replicate n ((zv.cells.toList.map V.lit).map EH)++b.rows.drop (off+n)}
   have Wc:AJ s U g:=⟨id,b,_,_,_,hb,Yw,hU⟩;have Ej:∀{u:Value} {z:V},Rd w (AG s U w) u z->Rd (w.setRow g new) (AG (s.A5 id b') U (w.setRow g new)) u z:=λhu=>
    hu.mono (λg' Yc _=>Ml g' (λe=>Yc.1 (e▸Wc))) (λg' Yc=>⟨λht=>Yc.1 ((iF (b':=b') hb rfl g').1 ht),by simpa using Yc.2⟩)
   have fin:∀(Fs:List Nat),(∃r',Fs=g::r')->(∀k'∈Fs,k'∈F id)->Fs.Nodup->
     Xs P (w.setRow g new) (AG (s.A5 id b') U (w.setRow g new)) U (some (.Bl g o0 c (P.cellsOf b.el))) Fs b'->
     Cg P o a w (Ch P B io w a.tmps s U fl k (.AZ []) (s.A5 id b')):=by
    intro Fs P8 Hl Cu u9;obtain⟨w1,w2,w3⟩:=h.write (b':=b') (Fs:=Fs) (fl':=fl) (new:=new) hb Yw Yw hU hg ⟨fp,CR⟩ P8 (λk hk=>.inl (Hl k hk)) Cu (λ_ h=>h) h.AT (λk' W9=>h.A7 id b hb Yw k' (Hl k' W9)) (by omega) u9;exact .value Xt ⟨rfl,rfl,w2,U,Bi F id Fs,w1,.AZ (by simp) (λk v x hv=>by simp at hv),λ_ _ h=>h,λ_ h=>.inl h⟩
   show Cg P o a w (Ch P B io w a.tmps s U fl k (.AZ []) (s.A5 id b'));cases W8:b.cl with
   | true=>
    have vA:=(h1 W8).frame (w':=w.setRow g new) (λk' W9=>Ml k' (λe=>I7 (e▸W9)));obtain⟨f',hO,NO,vB⟩:=vA.put (hO0 (w:=w.setRow g new)) (off*P.cellsOf b.el);rw[<-Fj,show us.length=ys.length by omega,<-To] at hO;have Cu:=h.once id b hb Yw;rw[CR] at Cu;have WG:∀k'∈f',k'∈fp:=λk' W9=>by
     rcases NO k' W9 with h4|h4
     .exact h4
     .simp at h4
    refine fin (g::f') ⟨f',rfl⟩ (λk' W9=>?_) (EF.2 ⟨λhf=>I7 (WG g hf),vB (by simpa using (EF.1 Cu).2)⟩) (.Cr (fp:=f') Xl Yw rfl (setRow_heap w g cur new _ _ hg) (by show (b'.rows).length<=c;simp only[b'];rw[PB];exact hl) hm PA (by rw[KY];exact VS) rfl (λ_=>by simp only[b'];rw[PB];exact hO) (λhf=>by simp[b',W8] at hf));rw[CR];rcases Ce.1 W9 with rfl|W9
    .exact BJ
    .exact Cp _ (WG k' W9)
   | false=>
    refine fin [g] ⟨[],rfl⟩ (λk' W9=>by rw[List.mem_singleton.1 W9,CR];exact BJ) (by simp) (.Cr (fp:=[]) Xl Yw rfl (setRow_heap w g cur new _ _ hg) (by show (b'.rows).length<=c;simp only[b'];rw[PB];exact hl) hm PA (by rw[KY];exact VS) rfl (λhf=>by simp[b',W8] at hf) (λ_=>⟨rfl,λm z Hn=>?_⟩));simp only[b'] at Hn;rw[To,NI (by rw[NM];omega)] at Hn;rw[NN m,show us.length=ys.length by omega];split at Hn
    .rename_i hc
     rw[Aj hc];obtain⟨u,hu,hr⟩:=(hO0 (w:=w)).rd (ok:=AG s U w) (λg hg=>by simp at hg) Hn;exact⟨u,hu,Ej hr⟩
    .rename_i hc
     rw[Ak hc];obtain⟨u,hu,hr⟩:=(h2 W8).2 m z Hn;exact⟨u,hu,Ej hr⟩
theorem Yyt:∀{rows:List (List V)} {bs:List UInt8},NC rows=some bs->∃ns:List Int,rows=ns.map (λn=>[V.lit (.int .u8 n)])/\bs=ns.map λn=>UInt8.ofNat n.toNat:=by
 intro rows
 induction rows with
 | nil=>intro bs h;simp only[NC,Hf,Th,AB] at h;subst h;exact⟨[],rfl,rfl⟩
 | cons r rows ih=>
  intro bs h;simp only[NC,C7] at h;split at h
  .rename_i n
   simp only[Th] at h;obtain⟨bs',hb,rfl⟩:=AL.1 h;obtain⟨ns,h1,h2⟩:=ih hb;exact⟨n::ns,by rw[h1];rfl,by rw[h2];rfl⟩
  .simp[Th] at h
theorem Y58 (ns:List Int) (s:ByteArray):ns.foldl (λr n=>r.push (UInt8.ofNat n.toNat)) s=⟨s.data++(ns.map λn=>UInt8.ofNat n.toNat).toArray⟩:=by
 induction ns generalizing s with
 | nil=>simp
 | cons n ns ih=>
  rw[HG,ih]
  congr 1
  apply Vz;simp[ByteArray.push]
theorem Y88 (h:Rel P B io w a.tmps s U F fl) {src dst e:TypeId} {x:Operand} {rows:List (List V)} {bs:List UInt8} (ho:o.op=.convert src dst x) (hs:P.underlying src=some (.slice e)) (hd:P.underlying dst=some .string) (he:P.underlying e=some (.int .u8))
  (hr:s.rowsOf (s.AP x)=some rows) (hb:NC rows=some bs):Cg P o a w (Ch P B io w a.tmps s U fl k (.lit (.string ⟨bs.toArray⟩)) s):=by
 obtain⟨ns,Wq,Lc⟩:=Yyt hb;have Xt:(Conv.bytesToString (a.eval x)).run P w=.ok (.string ⟨bs.toArray⟩) w:=by
  have hu:=h.AP x;generalize a.eval x=u at hu;rcases vD h hu hr (sz:=1) (λq hq=>by
   rw[Wq] at hq;obtain⟨n,_,rfl⟩:=Dx.1 hq;rfl) with⟨rfl,A,c,rfl⟩|⟨us,hC⟩
  .have:ns=[]:=by cases ns with|nil=>rfl|cons n ns=>simp at Wq
   subst this;simp only[Hf] at Lc;subst Lc;cases A with
   | none=>simp[Conv.bytesToString];rfl
   | some ad=>
    have:=run_bytesToString (P:=P) w ad 0 c [] (by simp[loadCells,loadCellsFrom]);rw[gT] at this;exact this
  .obtain⟨ad,c,rfl,hc⟩:=hC.val
   have vX:us=ns.map (Value.int .u8):=by
    apply Vp;intro j;have Yo:us.length=ns.length:=by have:=hC.len;rw[Wq] at this;simpa using this
    by_cases hj:j < ns.length
    .have h1:rows.flatten[j]?=some (V.lit (.int .u8 ns[j])):=by
      rw[Wq];have:=Tj (sz:=1) (rows:=ns.map λn=>[V.lit (.int .u8 n)]) (i:=j) (j:=0) (x:=V.lit (.int .u8 ns[j])) (λr hr=>by obtain⟨n,_,rfl⟩:=Dx.1 hr;rfl) (by rw[Dt,CB hj];rfl) rfl;simpa using this
     have vY:∃v,us[j]?=some v/\Rd w (AG s U w) v (V.lit (.int .u8 ns[j])):=by
      cases W8:Fe rows with
      | true=>exact (hC.own W8).rd (λg hg=>by simp at hg) h1
      | false=>exact (hC.see W8).2 j _ h1
     obtain⟨v,hv,hr⟩:=vY;cases hr;rw[hv,Dt,CB hj];rfl
    .rw[SZ (by omega),SZ (by simp;omega)]
   have hld:(loadCells ad rows.length).run P w=.ok (ns.map (Value.int .u8)).toArray w:=by
    have:=run_loadCells_list (P:=P) (w:=w) ad us (λj u hj=>hc j u hj);rw[vX] at this;rw[Wq];simpa using this
   have:=run_bytesToString (P:=P) w ad rows.length c ns hld;rw[this,Y58,Lc];simp
 refine .value (v:=.string ⟨bs.toArray⟩) (w':=w) ?_ (.same h (.lit rfl));have PM:∃A n c,a.eval x=.slice A n c:=by
  have hu:=h.AP x;generalize a.eval x=u at hu;rcases vD h hu hr (sz:=1) (λq hq=>by
   rw[Wq] at hq;obtain⟨n,_,rfl⟩:=Dx.1 hq;rfl) with⟨_,A,c,rfl⟩|⟨us,hC⟩
  .exact⟨_,_,_,rfl⟩
  .obtain⟨ad,c,rfl,_⟩:=hC.val;exact⟨_,_,_,rfl⟩
 obtain⟨A,n,c,hq⟩:=PM;rw[hq] at Xt;simp[execOp,ho,hq,convert,run_underlying hs,run_underlying hd,run_underlying he,Xt]
def NU:BinOp->Bool|.neq=>true|_=>false
theorem iQ (h:Rel P B io w a.tmps s U F fl) {op:BinOp} {t yt e:TypeId} {x y z:Operand} {rows:List (List V)} {r:List V} (ho:o.op=.binOp op t x y yt) (Q0:Qu P t=some e) (WH:op=.eql\/op=.neq)
  (hz:(z=x/\s.AP y=.lit (.slice none 0 0))\/(z=y/\s.AP x=.lit (.slice none 0 0))) (hr:s.rowsOf (s.AP z)=some (r::rows)) (he:v=.lit (.bool (NU op))):
  Cg P o a w (Ch P B io w a.tmps s U fl k v s):=by
 have ht:=Me Q0;have Fl:∃ad n c,a.eval z=.slice (some ad) n c:=by
  have hR:=h.rowsOf (ok':=λg=>g < w.heap.size) (h.AP z) hr (λg hg=>hg.2) (λ_ _ _ _ _ _ _ _ _ _ _ _ hg _=>hg);generalize a.eval z=q at hR;cases hR with
  | tr=>exact⟨_,_,_,rfl⟩
 obtain⟨ad,n,c,Fl⟩:=Fl;have IB:∀{y:Operand},s.AP y=.lit (.slice none 0 0)->a.eval y=.slice none 0 0:=λ{y} hy=>by
  have:=h.AP y;rw[hy] at this;generalize a.eval y=q at this;cases this;rfl
 subst he;refine .value (v:=.bool (NU op)) (w':=w) ?_ (.same h (.lit rfl));have g1:∀d (u v:Value),(u=.slice (some ad) n c/\v=.slice none 0 0)\/(u=.slice none 0 0/\v=.slice (some ad) n c)->(Op.equalIn (d+1) t u v).run P w=.ok false w:=by
  rintro d u v (⟨rfl,rfl⟩|⟨rfl,rfl⟩)<;>simp[Op.equalIn,run_underlying ht]
 have g2:∀(u v:Value),(u=.slice (some ad) n c/\v=.slice none 0 0)\/(u=.slice none 0 0/\v=.slice (some ad) n c)->(Op.equal t u v).run P w=.ok false w:=λu v h=>g1 9999 u v h;have g3:∀(u v:Value) (x y:Operand),(u=.slice (some ad) n c/\v=.slice none 0 0)\/(u=.slice none 0 0/\v=.slice (some ad) n c)->(eqGuard op t x y u v).run P w=.ok () w:=by
  rintro u v x y (⟨rfl,rfl⟩|⟨rfl,rfl⟩)<;>rcases WH with rfl|rfl<;>simp[eqGuard]
 have g4:∀(u v:Value),(u=.slice (some ad) n c/\v=.slice none 0 0)\/(u=.slice none 0 0/\v=.slice (some ad) n c)->(binOp op t u v).run P w=.ok (.bool (NU op)) w:=by
  intro u v h;have:=g2 u v h;rcases h with⟨rfl,rfl⟩|⟨rfl,rfl⟩<;>rcases WH with rfl|rfl<;>simp[binOp,this,NU]
 rcases hz with⟨rfl,hy⟩|⟨rfl,hx⟩
 .have hh:(a.eval z=.slice (some ad) n c/\a.eval y=.slice none 0 0)\/(a.eval z=.slice none 0 0/\a.eval y=.slice (some ad) n c):=.inl ⟨Fl,IB hy⟩
  simp only[execOp,ho,Sem.run_bind,Sem.run_pure,Result.andThen_ok,g3 _ _ _ _ hh,g4 _ _ hh]
 .have hh:(a.eval x=.slice (some ad) n c/\a.eval z=.slice none 0 0)\/(a.eval x=.slice none 0 0/\a.eval z=.slice (some ad) n c):=.inr ⟨IB hx,Fl⟩
  simp only[execOp,ho,Sem.run_bind,Sem.run_pure,Result.andThen_ok,g3 _ _ _ _ hh,g4 _ _ hh]
theorem Yo3 (h:Rel P B io w a.tmps s U F fl) {op:BinOp} {t yt:TypeId} {x y:Operand} {id:Id} {i off:Nat} (ho:o.op=.binOp op t x y yt) (ht:Pr P t=true) (WH:op=.eql\/op=.neq)
  (hx:s.AP x=.ptr id i off) (hy:s.AP y=.lit (.pointer none)) (he:v=.lit (.bool (NU op))):Cg P o a w (Ch P B io w a.tmps s U fl k v s):=by
 obtain⟨el,ht⟩:∃el,P.underlying t=some (.pointer el):=by
  unfold Pr at ht;split at ht
  .rename_i el hu;exact⟨el,hu⟩
  .cases ht
 obtain⟨ad,WI⟩:∃ad,a.eval x=.pointer (some ad):=by
  have:=h.AP x;rw[hx] at this;generalize a.eval x=u at this ⊢;generalize hq:V.ptr id i off=q at this;cases this<;>cases hq;exact⟨_,rfl⟩
 have hyv:a.eval y=.pointer none:=by
  have:=h.AP y;rw[hy] at this;generalize a.eval y=q at this;cases this;rfl
 subst he;refine .value (v:=.bool (NU op)) (w':=w) ?_ (.same h (.lit rfl));have g1:∀d,(Op.equalIn (d+1) t (.pointer (some ad)) (.pointer none)).run P w=.ok false w:=λd=>by simp[Op.equalIn,run_underlying ht]
 have g2:(Op.equal t (.pointer (some ad)) (.pointer none)).run P w=.ok false w:=g1 9999;have g3:(eqGuard op t x y (.pointer (some ad)) (.pointer none)).run P w=.ok () w:=by rcases WH with rfl|rfl<;>simp[eqGuard]
 have g4:(binOp op t (.pointer (some ad)) (.pointer none)).run P w=.ok (.bool (NU op)) w:=by rcases WH with rfl|rfl<;>simp[binOp,g2,NU]
 simp only[execOp,ho,WI,hyv,Sem.run_bind,Sem.run_pure,Result.andThen_ok,g3,g4]
end
def WJ (P:Program) (o:Oper) (a:Act) (w:World) (C9:Value->World->Prop):Prop:=∀(K:Act->World->Prop) (Q:Exit->Act->World->Prop),(∀v w',C9 v w'->K (a.put o.dst v) w')->o.wp P a w K Q
theorem Cg.Co {P:Program} {o:Oper} {a:Act} {w:World} {C9:Value->World->Prop} (h:Cg P o a w C9):WJ P o a w C9:=λ_ _ hK=>h.wp hK
theorem iR {α:Type} {a:Array α} {x:α} (h:a.toList=[x]):a=#[x]:=by apply Vz;simpa using h
theorem Ylg {α:Type} {a:Array α} {x y:α} (h:a.toList=[x,y]):a=#[x,y]:=by apply Vz;simpa using h
def iS (P:Program) (B:Nat) (io:Nat->Prop) (w:World) (tmps:Array Value) (s:St) (U:AX) (fl:List Nat) (k:Nat) (v:V) (s':St) (M:X6) (C:Ki):Prop:=
 ∀(g:FuncId) (args:List V) (us:Array Value),us.size=args.length->(∀(j:Nat) (u:Value) (x:V),us[j]?=some u->args[j]?=some x->En w (AG s U w) U u x)->KR P M C s k g args=some (v,s')->
  ∃fn,P.funcs[g]?=some fn/\fn.body.isSome=true/\(fn.name == "runtime.NumGoroutine")=false/\Calls P g us w (λe w'=>∃val,e=.returned val/\Ch P B io w tmps s U fl k v s' val w')
section
variable {P:Program} {B:Nat} {io:Nat->Prop} {w w':World} {a:Act} {s s':St} {U:AX} {F:Id->List Nat} {fl:List Nat} {k:Nat} {o:Oper} {v:V} {M:X6} {C:Ki}
theorem Xa7 (h:Rel P B io w a.tmps s U F fl) {f:Operand} {IE:Array Operand} {ts:Array TypeId} {g:FuncId} {Bu:List V} (ho:o.op=.call {callee:=.value f,args:=IE,argTypes:=ts}) (hf:s.AP f=.fn g Bu)
  (he:KR P M C s k g (IE.toList.map s.AP++Bu)=some (v,s')) (WK:iS P B io w a.tmps s U fl k v s' M C):WJ P o a w (Ch P B io w a.tmps s U fl k v s'):=by
 have vZ:=h.AP f;rw[hf] at vZ;generalize hq:a.eval f=q at vZ;have key:∀(vs:Array Value),q=.func (.func g) #[] vs->vs.size=Bu.length->(∀(j:Nat) (u:Value) (x:V),vs[j]?=some u->Bu[j]?=some x->En w (AG s U w) U u x)->WJ P o a w (Ch P B io w a.tmps s U fl k v s'):=by
  rintro vs rfl hl hr;obtain⟨fn,h1,h2,h3,h4⟩:=WK g _ (IE.map a.eval++vs) (by simp[hl]) (λj u x hu hx=>by
   by_cases hj:j < IE.size
   .rw[gD (by simpa using hj)] at hu
    rw[EX (by simpa using hj)] at hx;simp only[Array.getElem?_map,Dt,AL] at hu hx;obtain⟨y,hy,rfl⟩:=hu;obtain⟨z,hz,rfl⟩:=hx;have:y=z:=by
     have h1:IE.toList[j]?=some y:=by simpa using hy
     rw[h1] at hz;injection hz
    subst this;exact h.AP y
   .rw[Array.getElem?_append_right (by simp;omega)] at hu
    rw[FE (by simp;omega)] at hx;simp only[Array.size_map,KH,Array.length_toList] at hu hx;exact hr _ u x hu hx) he
  have hb:fn.body.isNone=false:=by cases u7:fn.body with
   | none=>rw[u7] at h2;cases h2
   | some c=>rfl
  have Xt:(execOp a.eval o).run P w=.ok (.enter g (IE.map a.eval++vs)) w:=by
   have h3':¬fn.name = "runtime.NumGoroutine" := by simpa using h3
   have Yx:¬fn.body=none:=λhh=>by rw[hh] at h2;cases h2
   simp[execOp,ho,resolve,hq,Deferred.ofValue,invoke,callFunc,h1,h3',Yx]
  intro K Q hK;unfold Oper.wp;rw[Xt,Oper.upon_enter];refine h4.mono ?_;rintro e w'' ⟨val,rfl,hp⟩;exact hK _ _ hp
 cases vZ with
 | fn hl hr=>exact key _ rfl hl hr
theorem Xb5 (h:Rel P B io w a.tmps s U F fl) (he:Iw P M C s k o=some (v,s')) (Y4:∀id:Id,id.1=s.ep->id.2 / 1024=k->U id=none) (WK:iS P B io w a.tmps s U fl k v s' M C):
  WJ P o a w (Ch P B io w a.tmps s U fl k v s'):=by
 have Zt:U (s.ep,1024*k)=none:=Y4 _ rfl (by simp);have WL:(s.ep,1024*k).2 / 1024=k:=by simp
 have sc:∀{x:Option V},x=Qc P s.AP o->(x.map λy=>(y,s))=some (v,s')->WJ P o a w (Ch P B io w a.tmps s U fl k v s'):=by
  rintro _ rfl hx;obtain⟨y,hy,he⟩:=AL.1 hx;simp only[A6] at he;obtain⟨rfl,rfl⟩:=he;exact (Y6g h hy).Co
 unfold Iw Xj at he;simp only at he;split at he
 .rename_i x ho
  split at he
  .cases he
  .simp only[AB,A6] at he
   obtain⟨hv,rfl⟩:=he;exact (Y0q h (.inl ho) hv).Co
 .rename_i x ho
  split at he
  .cases he
  .simp only[AB,A6] at he
   obtain⟨hv,rfl⟩:=he;exact (Y0q h (.inr ho) hv).Co
 .rename_i c x y ho
  split at he
  .rename_i t hc
   simp only[AB,A6] at he;obtain⟨hv,rfl⟩:=he;exact (Xaz h ho hc hv).Co
  .cases he
 .rename_i t i ho
  split at he
  .rename_i vs ht
   obtain⟨y,hy,he⟩:=AL.1 he;simp only[A6] at he;obtain⟨rfl,rfl⟩:=he;exact (Y1r h ho ht hy).Co
  .cases he
 .rename_i x ho
  split at he
  .rename_i i j n hx
   simp only[AB,A6] at he;obtain⟨rfl,rfl⟩:=he;exact (uW h ho hx (.inl ⟨_,_,_,rfl⟩)).Co
  .rename_i b r n hx
   simp only[AB,A6] at he;obtain⟨rfl,rfl⟩:=he;exact (uW h ho hx (.inr (.inl ⟨_,_,_,rfl⟩))).Co
  .rename_i f cs hx
   simp only[AB,A6] at he;obtain⟨rfl,rfl⟩:=he;exact (uW h ho hx (.inr (.inr ⟨_,_,rfl⟩))).Co
  .cases he
 .rename_i t ho
  obtain⟨z,hz,he⟩:=AL.1 he;simp only[A6] at he;obtain⟨rfl,rfl⟩:=he;exact (Y8f h ho hz Zt rfl WL).Co
 .rename_i t x ho
  obtain⟨cs,BO,he⟩:=A8.1 he;split at he
  .simp only[AB,A6] at he
   obtain⟨rfl,rfl⟩:=he;exact (P7 h ho BO Zt rfl WL).Co
  .cases he
 .rename_i t parts ho
  obtain⟨z,hz,he⟩:=A8.1 he;split at he
  .rename_i fs hu
   split at he
   .cases he
   .rename_i K3
    obtain⟨cs,BO,he⟩:=AL.1 he;simp only[A6] at he;obtain⟨rfl,rfl⟩:=he;exact (Y9b h ho hz hu (by cases hh:fs.toList.all (λf=>(P.info? f.type).isSome) with|true=>rfl|false=>exact absurd hh K3) BO).Co
  .cases he
 .rename_i t n parts ho
  obtain⟨e,Q0,he⟩:=A8.1 he;obtain⟨z,hz,he⟩:=A8.1 he;split at he
  .cases he
  .rename_i hc
   obtain⟨cs,BO,he⟩:=A8.1 he;obtain⟨⟨rows,c,s1⟩,hs,he⟩:=AL.1 he;simp only[A6] at he;obtain⟨rfl,rfl⟩:=he;have iN:Z4 P e≠0:=λhh=>hc (.inl hh);have IC:n*Z4 P e<=1048576:=by
    rcases KN 1048576 (n*Z4 P e) with hh|hh
    .exact absurd (.inr (.inl hh)) hc
    .exact hh
   have hc3:Mb P e=true:=by
    cases hh:Mb P e with
    | true=>rfl
    | false=>exact absurd (.inr (.inr hh)) hc
   exact (Yrk h ho Q0 hz iN IC hc3 BO hs Zt rfl WL).Co
 .rename_i t x ho
  split at he
  .rename_i i j n hx
   obtain⟨b,hb,he⟩:=A8.1 he;obtain⟨row,Xg,he⟩:=A8.1 he;split at he
   .rename_i Yo
    obtain⟨y,hy,he⟩:=AL.1 he;simp only[A6] at he;obtain⟨rfl,rfl⟩:=he;exact (Yz4 h ho (.inl ⟨i,j,n,b,row,hx,hb,Xg,Yo,hy⟩)).Co
   .cases he
  .rename_i sh row n hx
   split at he
   .rename_i Yo
    obtain⟨y,hy,he⟩:=AL.1 he;simp only[A6] at he;obtain⟨rfl,rfl⟩:=he;exact (Yz4 h ho (.inr ⟨sh,row,n,hx,Yo,hy⟩)).Co
   .cases he
  .cases he
 .rename_i t x y ho
  split at he
  .rename_i i j n hx
   obtain⟨b,hb,he⟩:=A8.1 he;obtain⟨row,Xg,he⟩:=A8.1 he;obtain⟨cs,BO,he⟩:=A8.1 he;split at he
   .rename_i hc
    obtain⟨h1,h2,h3,h4⟩:=hc;split at he
    .rename_i Xl
     simp only[AB,A6] at he;obtain⟨rfl,rfl⟩:=he;exact (Yza h ho hx hb Xg BO h1 Xl h2 h3 h4).Co
    .rename_i Xl
     obtain⟨⟨ys,c,s1⟩,hs,he⟩:=A8.1 he;simp only at he;split at he
     .rename_i b1 CA
      simp only[AB,A6] at he;obtain⟨rfl,rfl⟩:=he;exact (Yyf h ho hx hb Xg BO h1 (by simpa using Xl) h2 h3 h4 hs CA).Co
     .cases he
   .cases he
  .cases he
 .rename_i t x f ho
  obtain⟨off,WM,he⟩:=A8.1 he;split at he
  .rename_i i j n hx
   simp only[AB,A6] at he;obtain⟨rfl,rfl⟩:=he;exact (Ych h ho WM (.inl ⟨_,_,_,hx,rfl⟩)).Co
  .rename_i b r n hx
   simp only[AB,A6] at he;obtain⟨rfl,rfl⟩:=he;exact (Ych h ho WM (.inr ⟨_,_,_,hx,rfl⟩)).Co
  .cases he
 .rename_i t x ix ho
  obtain⟨e,Q0,he⟩:=A8.1 he;split at he
  .cases he
  .rename_i hz
   obtain⟨n,hn,he⟩:=A8.1 he;split at he
   .rename_i i off len hx
    split at he
    .rename_i Z7
     obtain⟨b,hb,he⟩:=A8.1 he;obtain⟨row,Xg,he⟩:=A8.1 he;split at he
     .rename_i Dj
      simp only[AB,A6] at he;obtain⟨rfl,rfl⟩:=he;exact (uX h ho Q0 hn (.inl ⟨i,off,len,b,row,hx,Z7,hb,Xg,Dj,rfl⟩) hz).Co
     .cases he
    .cases he
   .rename_i rows hx
    obtain⟨row,Xg,he⟩:=A8.1 he;split at he
    .rename_i Dj
     simp only[AB,A6] at he;obtain⟨rfl,rfl⟩:=he;exact (uX h ho Q0 hn (.inr ⟨true,rows,row,.inl hx,Xg,Dj,rfl⟩) hz).Co
    .cases he
   .rename_i rows hx
    obtain⟨row,Xg,he⟩:=A8.1 he;split at he
    .rename_i Dj
     simp only[AB,A6] at he;obtain⟨rfl,rfl⟩:=he;exact (uX h ho Q0 hn (.inr ⟨false,rows,row,.inr hx,Xg,Dj,rfl⟩) hz).Co
    .cases he
   .cases he
 .rename_i t x lo hi ho
  split at he
  .obtain⟨y,hy,he⟩:=AL.1 he
   simp only[A6] at he;obtain⟨rfl,rfl⟩:=he;exact (vN h ho hy).Co
  .obtain⟨y,hy,he⟩:=AL.1 he
   simp only[A6] at he;obtain⟨rfl,rfl⟩:=he;exact (vN h ho hy).Co
  .obtain⟨y,hy,he⟩:=AL.1 he
   simp only[A6] at he;obtain⟨rfl,rfl⟩:=he;exact (vN h ho hy).Co
  .exact sc rfl he
 .rename_i t l c ho
  obtain⟨e,Q0,he⟩:=A8.1 he;obtain⟨z,hz,he⟩:=A8.1 he;obtain⟨n,hn,he⟩:=A8.1 he;obtain⟨m,hm,he⟩:=A8.1 he;split at he
  .rename_i hc
   obtain⟨rfl,h2,h3,h4,h5⟩:=hc;simp only[AB,A6] at he;obtain⟨rfl,rfl⟩:=he;exact (Yvw h ho Q0 hz hn hm h2 h3 h4 h5 Zt rfl WL).Co
  .cases he
 .rename_i f first Bu ho
  split at he
  .rename_i hf
   simp only[AB,A6] at he;obtain⟨rfl,rfl⟩:=he;have:first=#[]:=Array.eq_empty_of_size_eq_zero hf
   subst this;exact (Yxi h ho rfl).Co
  .cases he
 .rename_i src dst x ho
  split at he
  .exact sc rfl he
  .split at he
   .rename_i e hs hd
    split at he
    .rename_i hu
     obtain⟨rows,hr,he⟩:=A8.1 he;obtain⟨bs,hb,he⟩:=AL.1 he;simp only[A6] at he;obtain⟨rfl,rfl⟩:=he;exact (Y88 h ho hs hd hu hr hb).Co
    .cases he
   .cases he
   .cases he
 .rename_i c ho
  obtain⟨callee,IE,ts⟩:=c;simp only at he;split at he
  .split at he
   .rename_i b x t t' ha ht
    split at he
    .rename_i htt
     subst htt;have:=Ylg ha;subst this;have:=Ylg ht;subst this;exact (Y5r h ho he Zt rfl WL).Co
    .cases he
   .cases he
  .split at he
   .rename_i x t ha ht
    have:=iR ha;subst this;have:=iR ht;subst this;split at he
    .rename_i i off n hx
     split at he
     .rename_i Q0
      simp only[AB,A6] at he;obtain⟨rfl,rfl⟩:=he;exact (uZ h ho Q0 (.inl ⟨i,off,hx⟩) rfl).Co
     .cases he
    .rename_i rows hx
     split at he
     .rename_i Q0
      simp only[AB,A6] at he;obtain⟨rfl,rfl⟩:=he;exact (uZ h ho Q0 (.inr ⟨rows,.inl hx,rfl⟩) rfl).Co
     .cases he
    .rename_i rows hx
     split at he
     .rename_i Q0
      simp only[AB,A6] at he;obtain⟨rfl,rfl⟩:=he;exact (uZ h ho Q0 (.inr ⟨rows,.inr hx,rfl⟩) rfl).Co
     .cases he
    .exact sc rfl he
   .cases he
  .split at he
   .rename_i x t ha ht
    have:=iR ha;subst this;have:=iR ht;subst this;obtain⟨e,Q0,he⟩:=A8.1 he;obtain⟨z,hz,he⟩:=A8.1 he;split at he
    .rename_i i off n hx
     obtain⟨b,hb,he⟩:=A8.1 he;split at he
     .rename_i hc
      obtain⟨h1,h2,h3,h4,h5,h6⟩:=hc;simp only[AB,A6] at he;obtain⟨rfl,rfl⟩:=he;exact (Y84 h ho Q0 hz hx hb h1 h2 h3 h4 h5 h6).Co
     .cases he
    .cases he
   .cases he
  .exact sc rfl he
  .split at he
   .rename_i f g Bu hf
    exact Xa7 h ho hf he WK
   .cases he
  .cases he
 .rename_i op t x y yt ho
  split at he
  .exact sc rfl he
  .exact sc rfl he
  .exact sc rfl he
  .rename_i id i off hx hy
   split at he
   .rename_i ht
    split at he
    .simp only[AB,A6] at he
     obtain⟨rfl,rfl⟩:=he;exact (Yo3 h ho ht (.inl rfl) hx hy rfl).Co
    .simp only[AB,A6] at he
     obtain⟨rfl,rfl⟩:=he;exact (Yo3 h ho ht (.inr rfl) hx hy rfl).Co
    .cases he
   .cases he
  .rename_i z1 z2 hx hy
   split at he
   .cases he
   .rename_i Q0
    obtain⟨e,Q0⟩:=EY.1 (show (Qu P t).isSome=true by cases hh:(Qu P t).isSome with|true=>rfl|false=>exact absurd hh Q0);split at he
    .rename_i r rows hr
     simp only[AB,A6] at he;obtain⟨rfl,rfl⟩:=he;exact (iQ h ho Q0 (.inl rfl) (.inl ⟨rfl,by assumption⟩) hr rfl).Co
    .rename_i r rows hr
     simp only[AB,A6] at he;obtain⟨rfl,rfl⟩:=he;exact (iQ h ho Q0 (.inr rfl) (.inl ⟨rfl,by assumption⟩) hr rfl).Co
    .cases he
  .rename_i z1 z2 hx hy
   split at he
   .cases he
   .rename_i Q0
    obtain⟨e,Q0⟩:=EY.1 (show (Qu P t).isSome=true by cases hh:(Qu P t).isSome with|true=>rfl|false=>exact absurd hh Q0);split at he
    .rename_i r rows hr
     simp only[AB,A6] at he;obtain⟨rfl,rfl⟩:=he;exact (iQ h ho Q0 (.inl rfl) (.inr ⟨rfl,by assumption⟩) hr rfl).Co
    .rename_i r rows hr
     simp only[AB,A6] at he;obtain⟨rfl,rfl⟩:=he;exact (iQ h ho Q0 (.inr rfl) (.inr ⟨rfl,by assumption⟩) hr rfl).Co
    .cases he
  .cases he
 .exact sc rfl he
end
theorem Rd.C2 {w:World} {ok ok':Nat->Prop} {v:Value} {x:V} (h:Rd w ok v x) (Yf:∀g,ok g->ok' g):Rd w ok' v x:=h.mono (λ_ _ _=>rfl) Yf
theorem En.ext {w:World} {ok ok':Nat->Prop} {U U':AX} {v:Value} {x:V} (h:En w ok U v x) (Yf:∀g,ok g->ok' g) (hU:∀id i,U id=some i->U' id=some i):En w ok' U' v x:=by
 induction h with
 | undef=>exact .undef
 | lit h=>exact .lit h
 | tr h=>exact .tr (h.C2 Yf)
 | vw h=>exact .vw (h.C2 Yf)
 | rp h=>exact .rp (h.C2 Yf)
 | ptr h=>exact .ptr (hU _ _ h)
 | sl h hc=>exact .sl (hU _ _ h) hc
 | sle h=>
  obtain⟨i,hi⟩:=EY.1 h;exact .sle (by rw[hU _ _ hi];rfl)
 | fn hl hr ih=>exact .fn hl ih
 | agg hl hc hr ih=>exact .agg hl hc ih
 | AZ hl hr ih=>exact .AZ hl ih
theorem En.world {w w':World} {ok:Nat->Prop} {U:AX} {v:Value} {x:V} (h:En w ok U v x) (hw:∀g,ok g->w'.heap[g]?=w.heap[g]?):En w' ok U v x:=by
 induction h with
 | undef=>exact .undef
 | lit h=>exact .lit h
 | tr h=>exact .tr (h.mono (λg hg _=>hw g hg) (λ_ h=>h))
 | vw h=>exact .vw (h.mono (λg hg _=>hw g hg) (λ_ h=>h))
 | rp h=>exact .rp (h.mono (λg hg _=>hw g hg) (λ_ h=>h))
 | ptr h=>exact .ptr h
 | sl h hc=>exact .sl h hc
 | sle h=>exact .sle h
 | fn hl hr ih=>exact .fn hl ih
 | agg hl hc hr ih=>exact .agg hl hc ih
 | AZ hl hr ih=>exact .AZ hl ih
theorem Xs.ext {P:Program} {w:World} {ok ok':Nat->Prop} {U U':AX} {i:Option G4} {F:List Nat} {b:Bc} (h:Xs P w ok U i F b) (Yf:∀g,ok g->ok' g) (hU:∀id i,U id=some i->U' id=some i):Xs P w ok' U' i F b:=by
 unfold Xs at h ⊢;split at h
 .obtain⟨h1,g,cur,e,row,hi,hg,hr,hs,he,V6,rfl⟩:=h
  exact⟨h1,g,cur,e,row,hi,hg,hr,hs,λk v x hv hx=>(he k v x hv hx).ext Yf hU,V6,rfl⟩
 .rcases h with h|⟨g,o,c,cur,hi,hg,hl,hm,hu,hz,fp,rfl,h1,h2⟩
  .exact .inl h
  .refine .inr ⟨g,o,c,cur,hi,hg,hl,hm,hu,hz,fp,rfl,h1,λhc=>⟨(h2 hc).1,λk x hx=>?_⟩⟩
   obtain⟨v,hv,hr⟩:=(h2 hc).2 k x hx;exact⟨v,hv,hr.C2 Yf⟩
 .obtain⟨h0,h⟩:=h
  refine⟨h0,?_⟩;rcases h with h|⟨g,o,c,sz,hi,hu,hr⟩
  .exact .inl h
  .exact .inr ⟨g,o,c,sz,hi,hu,hr.C2 Yf⟩
theorem Xs.world {P:Program} {w w':World} {ok:Nat->Prop} {U:AX} {i:Option G4} {F:List Nat} {b:Bc} (h:Xs P w ok U i F b) (hw:∀g,ok g->w'.heap[g]?=w.heap[g]?) (hF:∀g∈F,w'.heap[g]?=w.heap[g]?):Xs P w' ok U i F b:=by
 unfold Xs at h ⊢;split at h
 .obtain⟨h1,g,cur,e,row,hi,hg,hr,hs,he,V6,rfl⟩:=h
  exact⟨h1,g,cur,e,row,hi,by rw[hF g BJ];exact hg,hr,hs,λk v x hv hx=>(he k v x hv hx).world hw,V6,rfl⟩
 .rcases h with h|⟨g,o,c,cur,hi,hg,hl,hm,hu,hz,fp,rfl,h1,h2⟩
  .exact .inl h
  .refine .inr ⟨g,o,c,cur,hi,by rw[hF g BJ];exact hg,hl,hm,hu,hz,fp,rfl,λhc=>(h1 hc).frame λk hk=>hF k (Cp _ hk),λhc=>⟨(h2 hc).1,λk x hx=>?_⟩⟩
   obtain⟨v,hv,hr⟩:=(h2 hc).2 k x hx;exact⟨v,hv,hr.mono (λg hg _=>hw g hg) (λ_ h=>h)⟩
 .obtain⟨h0,h⟩:=h
  refine⟨h0,?_⟩;rcases h with h|⟨g,o,c,sz,hi,hu,hr⟩
  .exact .inl h
  .exact .inr ⟨g,o,c,sz,hi,hu,hr.mono (λg hg _=>hw g hg) (λ_ h=>h)⟩
structure Jn (P:Program) (B:Nat) (io:Nat->Prop) (w:World) (tmps:Array Value) (s:St) (U:AX) (F:Id->List Nat) (fl:List Nat) (ok:Nat->Prop):Prop where
 env:∀(t:Nat) (v:Value),tmps[t]?=some v->En w ok U v (s.env t)
 out:∀t,tmps.size<=t->s.env t=.undef
 heap:∀id b,s.heap id=some b->Xs P w ok U (U id) (F id) b
 CH:∀id b,s.heap id=some b->b.own=true->∀g∈F id,g < w.heap.size
 top:∀id b,s.heap id=some b->b.own=true->Pu (U id)->∀g,(F id).head?=some g->io g\/B<=g
 apart:∀id Av b b',s.heap id=some b->b.own=true->s.heap Av=some b'->b'.own=true->id≠Av->∀g∈F id,g ∉ F Av
 once:∀id b,s.heap id=some b->b.own=true->(F id).Nodup
 C4:∀id,(U id).isSome=true->id.1<=s.ep
 Cs:V5 B io w
 AR:∀g∈fl,g < w.heap.size
 A7:∀id b,s.heap id=some b->b.own=true->∀g∈F id,g ∉ fl
 AT:fl.Nodup
inductive Da (P:Program) (w:World) (ok top:Nat->Prop):Value->V->List Nat->Prop
 | lit {v:Value} (h:D9 v=true):Da P w ok top v (.lit v) []
 | tr {v:Value} {rows:List (List V)} (h:Rd w ok v (.tr rows)):Da P w ok top v (.tr rows) []
 | own {v:Value} {e:TypeId} {rows:List (List V)} {fp:List Nat} (h:NG P w e v rows fp) (ht:∀g,fp.head?=some g->top g):Da P w ok top v (.own e rows) fp
inductive Fq (P:Program) (w:World) (ok top:Nat->Prop):List Value->List V->List Nat->Prop
 | nil:Fq P w ok top [] [] []
 | cons {v:Value} {x:V} {vs:List Value} {xs:List V} {f1 f2:List Nat} (h:Da P w ok top v x f1) (hs:Fq P w ok top vs xs f2):Fq P w ok top (v::vs) (x::xs) (f1++f2)
theorem Fq.length {P:Program} {w:World} {ok top:Nat->Prop} {vs:List Value} {xs:List V} {fp:List Nat} (h:Fq P w ok top vs xs fp):vs.length=xs.length:=by
 induction h with
 | nil=>rfl
 | cons _ _ ih=>simp[ih]
def Dz (P:Program) (w:World) (ok top:Nat->Prop) (u:Value):V->List Nat->Prop
 | .agg cs,fp=>∃us:Array Value,u=.agg us/\Fq P w ok top us.toList cs fp
 | .CL cs,fp=>∃g cur e BQ,u=.pointer (some ⟨g,0,none⟩)/\w.heap[g]?=some (.cells cur e (0,0))/\Fq P w ok top cur.toList cs BQ/\fp=g::BQ/\top g
 | x,fp=>Da P w ok top u x fp
inductive NV (P:Program) (w:World) (ok top:Nat->Prop):Value->V->List Nat->Prop
 | one {v:Value} {x:V} {fp:List Nat} (h:Da P w ok top v x fp):NV P w ok top v x fp
 | box {v:Value} {cs:List V} {fp:List Nat} (h:Dz P w ok top v (.CL cs) fp):NV P w ok top v (.CL cs) fp
inductive FI (P:Program) (w:World) (ok top:Nat->Prop):List Value->List V->List Nat->Prop
 | nil:FI P w ok top [] [] []
 | cons {v:Value} {x:V} {vs:List Value} {xs:List V} {f1 f2:List Nat} (h:NV P w ok top v x f1) (hs:FI P w ok top vs xs f2):FI P w ok top (v::vs) (x::xs) (f1++f2)
theorem FI.length {P:Program} {w:World} {ok top:Nat->Prop} {vs:List Value} {xs:List V} {fp:List Nat} (h:FI P w ok top vs xs fp):vs.length=xs.length:=by
 induction h with
 | nil=>rfl
 | cons _ _ ih=>simp[ih]
def IF (P:Program) (w:World) (ok top:Nat->Prop) (u:Value) (cs:List V) (fp:List Nat):Prop:=∃g cur e BQ,u=.pointer (some ⟨g,0,none⟩)/\w.heap[g]?=some (.cells cur e (0,0))/\FI P w ok top cur.toList cs BQ/\fp=g::BQ/\top g
section
variable {P:Program} {B:Nat} {io:Nat->Prop} {w w':World} {tmps:Array Value} {s s':St} {U U':AX} {F F':Id->List Nat} {fl fl':List Nat} {ok ok' top:Nat->Prop}
theorem Jn.IG (h:Jn P B io w tmps s U F fl ok) (Yf:∀g,ok g->AG s U w g):Rel P B io w tmps s U F fl:=
 {h with
  env:=λt v hv=>(h.env t v hv).ext Yf (λ_ _ h=>h)
  heap:=λid b hb=>(h.heap id b hb).ext Yf (λ_ _ h=>h)}
theorem Jn.less (h:Jn P B io w tmps s U F fl ok) (hs:fl'.Sublist fl):Jn P B io w tmps s U F fl' ok:=
 {h with
  AR:=λg hg=>h.AR g (hs.subset hg)
  A7:=λid b hb ho g hg Yc=>h.A7 id b hb ho g hg (hs.subset Yc)
  AT:=h.AT.sublist hs}
theorem Jn.perm (h:Jn P B io w tmps s U F fl ok) (hs:fl'.Perm fl):Jn P B io w tmps s U F fl' ok:=
 {h with
  AR:=λg hg=>h.AR g (hs.mem_iff.1 hg)
  A7:=λid b hb ho g hg Yc=>h.A7 id b hb ho g hg (hs.mem_iff.1 Yc)
  AT:=hs.nodup_iff.2 h.AT}
theorem Jn.put (h:Jn P B io w tmps s U F fl ok) {p:Nat} {x:V} {u:Value} (hp:tmps[p]?=some u) (hx:En w ok U u x):Jn P B io w tmps (s.put (some p) x) U F fl ok:=
 {h with
  env:=λt v hv=>by
   simp only[St.put,Bi];split
   .rename_i e;subst e;rw[hp] at hv;injection hv with hv;subst hv;exact hx
   .exact h.env t v hv
  out:=λt ht=>by
   simp only[St.put,Bi];split
   .rename_i e;subst e
    have:=(HE.1 hp).1;omega
   .exact h.out t ht}
theorem Jn.add {fp:List Nat} (h:Jn P B io w tmps s U F (fp++fl) ok) {id:Id} (hs:s.heap id=none) (Yk:id.1<=s.ep) (hU:∀Av i,U Av=some i->U' Av=some i) (KV:∀Av,Av≠id->U' Av=U Av) {b:Bc} (hB:Xs P w ok U' (U' id) fp b)
  (Wc:Pu (U' id)->∀g,fp.head?=some g->io g\/B<=g):Jn P B io w tmps (s.A5 id b) U' (Bi F id fp) fl ok:=by
 have Cu:=EE.1 h.AT;refine⟨λt v hv=>(h.env t v hv).ext (λ_ h=>h) hU,h.out,λAv b' hb=>?_,λAv b' hb ho g hg=>?_,λAv b' hb ho Cm g hg=>?_,λwA Gf b1 b2 CA Pz E1 HN Yg g WN IH=>?_,λAv b' hb ho=>?_,λAv hi=>?_,h.Cs,λg hg=>h.AR g (Ds _ hg),λAv b' hb ho g hg Yc=>?_,Cu.2.1⟩
 .by_cases e:Av=id
  .subst e;rw[KX] at hb;injection hb with hb;subst hb;rw[Z8];exact hB
  .rw[X2 e] at hb;rw[KV Av e,X9 e];exact (h.heap Av b' hb).ext (λ_ h=>h) hU
 .by_cases e:Av=id
  .subst e;rw[Z8] at hg;exact h.AR g (CC _ hg)
  .rw[X2 e] at hb;rw[X9 e] at hg;exact h.CH Av b' hb ho g hg
 .by_cases e:Av=id
  .subst e;rw[Z8] at hg;exact Wc Cm g hg
  .rw[X2 e] at hb;rw[X9 e] at hg;rw[KV Av e] at Cm;exact h.top Av b' hb ho Cm g hg
 .by_cases e1:wA=id
  .subst e1
   rw[Z8] at WN;rw[X2 (Ne.symm Yg)] at E1;rw[X9 (Ne.symm Yg)] at IH;exact h.A7 Gf b2 E1 HN g IH (CC _ WN)
  .rw[X2 e1] at CA
   rw[X9 e1] at WN;by_cases e2:Gf=id
   .subst e2
    rw[Z8] at IH;exact h.A7 wA b1 CA Pz g WN (CC _ IH)
   .rw[X2 e2] at E1;rw[X9 e2] at IH
    exact h.apart wA Gf b1 b2 CA Pz E1 HN Yg g WN IH
 .by_cases e:Av=id
  .subst e;rw[Z8];exact Cu.1
  .rw[X2 e] at hb;rw[X9 e];exact h.once Av b' hb ho
 .by_cases e:Av=id
  .subst e;exact Yk
  .rw[KV Av e] at hi;exact h.C4 Av hi
 .by_cases e:Av=id
  .subst e;rw[Z8] at hg;exact Cu.2.2 g hg g Yc rfl
  .rw[X2 e] at hb;rw[X9 e] at hg;exact h.A7 Av b' hb ho g hg (Ds _ Yc)
structure C3 (P:Program) (B:Nat) (io:Nat->Prop) (w:World) (tmps:Array Value) (s:St) (U:AX) (fl:List Nat) (ok top:Nat->Prop) (J:Id->Prop) (s':St) (U':AX) (F':Id->List Nat):Prop where
 rel:Jn P B io w tmps s' U' F' fl ok
 ext:∀id i,U id=some i->U' id=some i
 C4:∀id,(U' id).isSome=true->(U id).isSome=true\/J id
 env:s'.env=s.env
 ep:s'.ep=s.ep
 heap:∀id,¬J id->s'.heap id=s.heap id
 AJ:∀g,Ev.AJ s' U' g->Ev.AJ s U g\/top g
theorem C3.trans {fl1:List Nat} {J K:Id->Prop} {s1 s2:St} {U1 U2:AX} {F1 F2:Id->List Nat} (h1:C3 P B io w tmps s U fl1 ok top J s1 U1 F1) (h2:C3 P B io w tmps s1 U1 fl ok top K s2 U2 F2):C3 P B io w tmps s U fl ok top (λid=>J id\/K id) s2 U2 F2 where
 rel:=h2.rel
 ext:=λid i h=>h2.ext id i (h1.ext id i h)
 C4:=λid h=>by
  rcases h2.C4 id h with h|h
  .rcases h1.C4 id h with h|h
   .exact .inl h
   .exact .inr (.inl h)
  .exact .inr (.inr h)
 env:=h2.env.trans h1.env
 ep:=h2.ep.trans h1.ep
 heap:=λid h=>(h2.heap id λhk=>h (.inr hk)).trans (h1.heap id λhj=>h (.inl hj))
 AJ:=λg h=>by
  rcases h2.AJ g h with h|h
  .exact h1.AJ g h
  .exact .inr h
theorem C3.mono {J K:Id->Prop} {s1:St} {U1:AX} {F1:Id->List Nat} (h:C3 P B io w tmps s U fl ok top J s1 U1 F1) (hJ:∀id,J id->K id):C3 P B io w tmps s U fl ok top K s1 U1 F1:=
 {h with
  C4:=λid hi=>(h.C4 id hi).imp (λh=>h) (hJ id)
  heap:=λid hk=>h.heap id λhj=>hk (hJ id hj)}
theorem C3.refl (h:Jn P B io w tmps s U F fl ok):C3 P B io w tmps s U fl ok top (λ_=>False) s U F:=
 ⟨h,λ_ _ h=>h,λ_ h=>.inl h,rfl,rfl,λ_ _=>rfl,λ_ h=>.inl h⟩
theorem WO {id:Id} {b:Bc} (KV:∀Av,Av≠id->U' Av=U Av) {g:Nat} (h:AJ (s.A5 id b) U' g):AJ s U g\/(b.own=true/\∃o c sz,U' id=some (.Bl g o c sz)):=by
 obtain⟨Av,b',o,c,sz,hb,ho,hU⟩:=h;by_cases e:Av=id
 .subst e;rw[KX] at hb;injection hb with hb;subst hb;exact .inr ⟨ho,o,c,sz,hU⟩
 .rw[X2 e] at hb;rw[KV Av e] at hU;exact .inl ⟨Av,b',o,c,sz,hb,ho,hU⟩
theorem Y9l {fp:List Nat} (h:Jn P B io w tmps s U F (fp++fl) ok) {u:Value} {e:TypeId} {rows:List (List V)} (hO:NG P w e u rows fp) (ht:∀g,fp.head?=some g->top g) (Wc:∀g,top g->io g\/B<=g) {id:Id} (Zt:U id=none) (hs:s.heap id=none) (Yk:id.1<=s.ep):
  ∃U' F',C3 P B io w tmps s U fl ok top (λAv=>Av=id) (s.A5 id ⟨false,true,true,e,rows⟩) U' F'/\En w ok U' u (.sl id 0 rows.length):=by
 rcases hO with⟨A,rfl,rfl,rfl⟩|⟨g,o,c,cur,BQ,rfl,hg,hl,hm,BX,hz,hO,rfl⟩
 .refine⟨Bi U id (some .emp),Bi F id [],⟨h.add hs Yk (Ez Zt) (λAv e=>X9 e) (by rw[Z8];exact .I0 rfl rfl rfl rfl rfl) (λ_ g hg=>by simp at hg),Ez Zt,λAv hi=>?_,rfl,rfl,λAv e=>X2 e,λg hg=>?_⟩,.sle (by rw[Z8];rfl)⟩
  .by_cases e:Av=id
   .exact .inr e
   .rw[X9 e] at hi;exact .inl hi
  .rcases WO (λAv e=>X9 e) hg with h1|⟨_,o,c,sz,h1⟩
   .exact .inl h1
   .rw[Z8] at h1;cases h1
 .refine⟨Bi U id (some (.Bl g o c (P.cellsOf e))),Bi F id (g::BQ),⟨h.add hs Yk (Ez Zt) (λAv e=>X9 e) (by
   rw[Z8];exact .Cr rfl rfl rfl hg hl hm BX hz rfl (λ_=>hO) (λhf=>by cases hf)) (λ_ g' Yc=>Wc g' (ht g' Yc)),Ez Zt,λAv hi=>?_,rfl,rfl,λAv e=>X2 e,λg' Yc=>?_⟩,?_⟩
  .by_cases e:Av=id
   .exact .inr e
   .rw[X9 e] at hi;exact .inl hi
  .rcases WO (λAv e=>X9 e) Yc with h1|⟨_,o',c',sz,h1⟩
   .exact .inl h1
   .rw[Z8] at h1
    injection h1 with h1;injection h1 with h1;subst h1;exact .inr (ht _ rfl)
  .have:=En.sl (w:=w) (ok:=ok) (off:=0) (len:=rows.length) (Z8 U id (some (.Bl g o c (P.cellsOf e)))) (by omega)
   simpa using this
theorem wB {fp:List Nat} (h:Jn P B io w tmps s U F (fp++fl) ok) {u:Value} {x y:V} (hg:Da P w ok top u x fp) (Wc:∀g,top g->io g\/B<=g) {id:Id} (Zt:U id=none) (hs:s.heap id=none) (Yk:id.1<=s.ep) (ht:s.AS id x=some (y,s')):
  ∃U' F',C3 P B io w tmps s U fl ok top (λAv=>Av=id) s' U' F'/\En w ok U' u y/\AD y=true:=by
 cases hg with
 | lit Hk=>
  simp only[St.AS,AB,A6] at ht;obtain⟨rfl,rfl⟩:=ht;exact⟨U,F,(C3.refl h).mono (λ_ h=>h.elim),.lit Hk,rfl⟩
 | tr hr=>
  simp only[St.AS,AB,A6] at ht;obtain⟨rfl,rfl⟩:=ht;exact⟨U,F,(C3.refl h).mono (λ_ h=>h.elim),.tr hr,rfl⟩
 | own hO htp=>
  simp only[St.AS,AB,A6] at ht;obtain⟨rfl,rfl⟩:=ht;obtain⟨U',F',h1,h2⟩:=Y9l h hO htp Wc Zt hs Yk;exact⟨U',F',h1,h2,rfl⟩
theorem wC {e:Nat}:∀(xs:List V) {us:List Value} {k:Nat} {fp fl:List Nat} {s s':St} {U:AX} {F:Id->List Nat} {ys:List V},Jn P B io w tmps s U F (fp++fl) ok->Fq P w ok top us xs fp->(∀g,top g->io g\/B<=g)->e<=s.ep->
  (∀j,k<=j->j < k+xs.length->U (e,j)=none/\s.heap (e,j)=none)->s.AM e k xs=some (ys,s')->
  ∃U' F',C3 P B io w tmps s U fl ok top (λid=>id.1=e/\k<=id.2/\id.2 < k+xs.length) s' U' F'/\us.length=ys.length/\(∀y∈ys,AD y=true)/\(∀(j:Nat) (u:Value) (y:V),us[j]?=some u->ys[j]?=some y->En w ok U' u y):=by
 intro xs
 induction xs with
 | nil=>
  intro us k fp fl s s' U F ys h hg Wc Yk Y4 ht;cases hg;simp only[St.AM,AB,A6] at ht;obtain⟨rfl,rfl⟩:=ht;exact⟨U,F,(C3.refl h).mono (λ_ h=>h.elim),rfl,by simp,λj u y hu=>by simp at hu⟩
 | cons x xs ih=>
  intro us k fp fl s s' U F ys h hg Wc Yk Y4 ht;cases hg with
  | @cons u _ us _ f1 f2 hg WQ=>
   simp only[St.AM] at ht;obtain⟨⟨y,s1⟩,h1,ht⟩:=A8.1 ht;obtain⟨⟨zs,s2⟩,h2,ht⟩:=AL.1 ht;simp only[A6] at ht;obtain⟨rfl,rfl⟩:=ht;simp only at h2;obtain⟨WR,PN⟩:=Y4 k (B2 _) (by simp);obtain⟨U1,F1,t1,e1,c1⟩:=wB (fl:=f2++fl) (by rw[<-List.append_assoc];exact h) hg Wc WR PN Yk h1;obtain⟨U2,F2,t2,l2,c2,e2⟩:=ih t1.rel WQ Wc (by rw[t1.ep];exact Yk) (λj hj Z7=>by
    obtain⟨a1,a2⟩:=Y4 j (by omega) (by simp only[AU];omega);have Yg:¬((e,j):Id)=(e,k):=λhh=>by injection hh with _ hh;omega
    refine⟨?_,by rw[t1.heap _ Yg];exact a2⟩;cases hr:U1 (e,j) with
    | none=>rfl
    | some i=>
     rcases t1.C4 (e,j) (by rw[hr];rfl) with hh|hh
     .rw[a1] at hh;cases hh
     .exact absurd hh Yg) h2
   refine⟨U2,F2,(t1.trans t2).mono (λid Zt=>?_),by simp[l2],λz hz=>?_,λj u' z hu hz=>?_⟩
   .rcases Zt with rfl|⟨a,b,c⟩
    .exact⟨rfl,B2 _,by simp⟩
    .exact⟨a,by omega,by simp only[AU];omega⟩
   .rcases Ce.1 hz with rfl|hz
    .exact c1
    .exact c2 z hz
   .cases j with
    | zero=>
     have a1:u=u':=by simpa using hu
     have a2:y=z:=by simpa using hz
     subst a1;subst a2;exact e1.ext (λ_ h=>h) t2.ext
    | succ j=>exact e2 j u' z (by simpa using hu) (by simpa using hz)
theorem wD {g:Nat} {J:Id->Prop} {s1:St} {U1:AX} {F1:Id->List Nat} (t:C3 P B io w tmps s U ([g]++fl) ok top J s1 U1 F1) {id:Id} (Yk:id.1<=s.ep) (n1:U id=none) (n2:s.heap id=none) (hJ:¬J id) (Wc:∀g,top g->io g\/B<=g) (II:top g)
  {cur:Array Value} {e':TypeId} {ys:List V} (Ea:w.heap[g]?=some (.cells cur e' (0,0))) (l:cur.toList.length=ys.length) (c:∀y∈ys,AD y=true) (en:∀(j:Nat) (u:Value) (y:V),cur.toList[j]?=some u->ys[j]?=some y->En w ok U1 u y):
  ∃U' F',C3 P B io w tmps s U fl ok top (λi=>J i\/i=id) (s1.A5 id ⟨true,true,true,0,[ys]⟩) U' F'/\En w ok U' (.pointer (some ⟨g,0,none⟩)) (.ptr id 0 0):=by
 have WR:U1 id=none:=by
  cases hr:U1 id with
  | none=>rfl
  | some i=>
   rcases t.C4 _ (by rw[hr];rfl) with hh|hh
   .rw[n1] at hh;cases hh
   .exact absurd hh hJ
 have PN:s1.heap id=none:=by rw[t.heap _ hJ];exact n2
 have HO:=t.rel.add (fp:=[g]) (fl:=fl) (id:=id) (U':=Bi U1 id (some (.Bl g 0 1 ys.length))) (b:=⟨true,true,true,0,[ys]⟩) PN (by rw[t.ep];exact Yk) (Ez WR) (λAv e=>X9 e) (by
  rw[Z8];exact .Iz rfl rfl rfl Ea rfl (by simpa using l) (λj v z hv hz=>(en j v z (by simpa using hv) hz).ext (λ_ h=>h) (Ez WR)) c rfl) (λ_ g' Yc=>by
  have:g=g':=by simpa using Yc
  subst this;exact Wc g II)
 refine⟨_,_,⟨HO,λid i hi=>Ez WR id i (t.ext id i hi),λi hi=>?_,t.env,t.ep,λi Zt=>?_,λg' Yc=>?_⟩,?_⟩
 .by_cases e1:i=id
  .exact .inr (.inr e1)
  .rw[X9 e1] at hi
   exact (t.C4 i hi).imp (λh=>h) .inl
 .rw[X2 (λhh=>Zt (.inr hh))]
  exact t.heap i (λhh=>Zt (.inl hh))
 .rcases WO (λAv e=>X9 e) Yc with h3|⟨_,o,c',sz,h3⟩
  .exact t.AJ g' h3
  .rw[Z8] at h3
   injection h3 with h3;injection h3 with h3;subst h3;exact .inr II
 .have:=En.ptr (w:=w) (ok:=ok) (i:=0) (off:=0) (Z8 U1 id (some (.Bl g 0 1 ys.length)))
  simpa using this
theorem wE {fp:List Nat} (h:Jn P B io w tmps s U F (fp++fl) ok) {u:Value} {x y:V} (hg:Dz P w ok top u x fp) (Wc:∀g,top g->io g\/B<=g) {e k:Nat} (Yk:e<=s.ep) (Y4:∀j,k<=j->j < k+64->U (e,j)=none/\s.heap (e,j)=none) (ht:s.Bb e k x=some (y,s')):
  ∃U' F',C3 P B io w tmps s U fl ok top (λid=>id.1=e/\k<=id.2/\id.2 < k+64) s' U' F'/\En w ok U' u y:=by
 have one:∀{x},Da P w ok top u x fp->s.AS (e,k) x=some (y,s')->∃U' F',C3 P B io w tmps s U fl ok top (λid=>id.1=e/\k<=id.2/\id.2 < k+64) s' U' F'/\En w ok U' u y:=by
  intro x hg ht;obtain⟨a1,a2⟩:=Y4 k (B2 _) (by omega);obtain⟨U',F',h1,h2,_⟩:=wB h hg Wc a1 a2 Yk ht;exact⟨U',F',h1.mono (λid Zt=>by subst Zt;exact⟨rfl,B2 _,by omega⟩),h2⟩
 unfold St.Bb at ht;split at ht
 .rename_i cs
  split at ht
  .rename_i hl
   obtain⟨⟨ys,s1⟩,h1,ht⟩:=AL.1 ht;simp only[A6] at ht;obtain⟨rfl,rfl⟩:=ht;obtain⟨us,rfl,GB⟩:=hg;obtain⟨U',F',t,l,c,en⟩:=wC cs h GB Wc Yk (λj hj Z7=>Y4 j hj (by omega)) h1;exact⟨U',F',t.mono (λid Zt=>⟨Zt.1,Zt.2.1,by omega⟩),.agg (by simpa using l) c (λj v z hv hz=>en j v z (by simpa using hv) hz)⟩
  .cases ht
 .rename_i cs
  split at ht
  .rename_i hl
   obtain⟨⟨ys,s1⟩,h1,ht⟩:=AL.1 ht;simp only[A6] at ht;obtain⟨rfl,rfl⟩:=ht;obtain⟨g,cur,e',BQ,rfl,Ea,GB,rfl,II⟩:=hg;have wF:((BQ++([g]++fl)):List Nat).Perm (g::BQ++fl):=by
    exact Td
   obtain⟨U1,F1,t,l,c,en⟩:=wC cs (fl:=[g]++fl) (h.perm wF) GB Wc Yk (λj hj Z7=>Y4 j hj (by omega)) h1;obtain⟨n1,n2⟩:=Y4 (k+63) (by omega) (by omega);obtain⟨U',F',t2,e2⟩:=wD t (id:=(e,k+63)) Yk n1 n2 (λhh=>by have:=hh.2.2;simp only at this;omega) Wc II Ea l c en;refine⟨U',F',t2.mono λid Zt=>?_,e2⟩;rcases Zt with hh|rfl
   .exact⟨hh.1,hh.2.1,by omega⟩
   .exact⟨rfl,by simp,by simp⟩
  .cases ht
 .rename_i h1 h2
  exact one (by
   cases x with
   | agg cs=>exact absurd rfl (h1 cs)
   | CL cs=>exact absurd rfl (h2 cs)
   | _=>exact hg) ht
theorem Ysq {fp:List Nat} (h:Jn P B io w tmps s U F (fp++fl) ok) {u:Value} {x y:V} (hg:NV P w ok top u x fp) (Wc:∀g,top g->io g\/B<=g) {e k:Nat} (Yk:e<=s.ep) (Y4:∀j,k<=j->j < k+KQ x->U (e,j)=none/\s.heap (e,j)=none) (ht:s.B1 e k x=some (y,s')):
  ∃U' F',C3 P B io w tmps s U fl ok top (λid=>id.1=e/\k<=id.2/\id.2 < k+KQ x) s' U' F'/\En w ok U' u y/\AD y=true:=by
 cases hg with
 | one hg=>
  have hx:KQ x=1/\s.B1 e k x=s.AS (e,k) x:=by cases hg<;>exact⟨rfl,rfl⟩
  rw[hx.2] at ht;obtain⟨a1,a2⟩:=Y4 k (B2 _) (by omega);obtain⟨U',F',h1,h2,h3⟩:=wB h hg Wc a1 a2 Yk ht;exact⟨U',F',h1.mono (λid Zt=>by subst Zt;exact⟨rfl,B2 _,by rw[hx.1];omega⟩),h2,h3⟩
 | @box cs _ hg=>
  simp only[St.B1] at ht;obtain⟨⟨ys,s1⟩,h1,ht⟩:=AL.1 ht;simp only[A6] at ht;obtain⟨rfl,rfl⟩:=ht;obtain⟨g,cur,e',BQ,rfl,Ea,GB,rfl,II⟩:=hg;simp only[KQ] at Y4 ⊢;obtain⟨U1,F1,t,l,c,en⟩:=wC cs (fl:=[g]++fl) (h.perm Td) GB Wc Yk (λj hj Z7=>Y4 j (by omega) (by omega)) h1;obtain⟨n1,n2⟩:=Y4 k (B2 _) (by omega);obtain⟨U',F',t2,e2⟩:=wD t (id:=(e,k)) Yk n1 n2 (λhh=>by have:=hh.2.1;simp only at this;omega) Wc II Ea l c en;refine⟨U',F',t2.mono λid Zt=>?_,e2,rfl⟩;rcases Zt with hh|rfl
  .exact⟨hh.1,by omega,by omega⟩
  .exact⟨rfl,B2 _,by simp only;omega⟩
theorem Yao {e:Nat}:∀(xs:List V) {us:List Value} {k:Nat} {fp fl:List Nat} {s s':St} {U:AX} {F:Id->List Nat} {ys:List V},Jn P B io w tmps s U F (fp++fl) ok->FI P w ok top us xs fp->(∀g,top g->io g\/B<=g)->e<=s.ep->
  (∀j,k<=j->j < k+wt xs->U (e,j)=none/\s.heap (e,j)=none)->s.AW e k xs=some (ys,s')->
  ∃U' F',C3 P B io w tmps s U fl ok top (λid=>id.1=e/\k<=id.2/\id.2 < k+wt xs) s' U' F'/\us.length=ys.length/\(∀y∈ys,AD y=true)/\(∀(j:Nat) (u:Value) (y:V),us[j]?=some u->ys[j]?=some y->En w ok U' u y):=by
 intro xs
 induction xs with
 | nil=>
  intro us k fp fl s s' U F ys h hg Wc Yk Y4 ht;cases hg;simp only[St.AW,AB,A6] at ht;obtain⟨rfl,rfl⟩:=ht;exact⟨U,F,(C3.refl h).mono (λ_ h=>h.elim),rfl,by simp,λj u y hu=>by simp at hu⟩
 | cons x xs ih=>
  intro us k fp fl s s' U F ys h hg Wc Yk Y4 ht;simp only[wt] at Y4 ⊢;cases hg with
  | @cons u _ us _ f1 f2 hg WQ=>
   simp only[St.AW] at ht;obtain⟨⟨y,s1⟩,h1,ht⟩:=A8.1 ht;obtain⟨⟨zs,s2⟩,h2,ht⟩:=AL.1 ht;simp only[A6] at ht;obtain⟨rfl,rfl⟩:=ht;simp only at h2;obtain⟨U1,F1,t1,e1,c1⟩:=Ysq (fl:=f2++fl) (by rw[<-List.append_assoc];exact h) hg Wc Yk (λj hj Z7=>Y4 j hj (by omega)) h1;obtain⟨U2,F2,t2,l2,c2,e2⟩:=ih t1.rel WQ Wc (by rw[t1.ep];exact Yk) (λj hj Z7=>by
    obtain⟨a1,a2⟩:=Y4 j (by omega) (by omega);have Yg:¬(((e,j):Id).1=e/\k<=((e,j):Id).2/\((e,j):Id).2 < k+KQ x):=λhh=>by have:=hh.2.2;simp only at this;omega
    refine⟨?_,by rw[t1.heap _ Yg];exact a2⟩;cases hr:U1 (e,j) with
    | none=>rfl
    | some i=>
     rcases t1.C4 (e,j) (by rw[hr];rfl) with hh|hh
     .rw[a1] at hh;cases hh
     .exact absurd hh Yg) h2
   refine⟨U2,F2,(t1.trans t2).mono (λid Zt=>?_),by simp[l2],λz hz=>?_,λj u' z hu hz=>?_⟩
   .rcases Zt with⟨a,b,c⟩|⟨a,b,c⟩
    .exact⟨a,b,by omega⟩
    .exact⟨a,by omega,by omega⟩
   .rcases Ce.1 hz with rfl|hz
    .exact c1
    .exact c2 z hz
   .cases j with
    | zero=>
     have a1:u=u':=by simpa using hu
     have a2:y=z:=by simpa using hz
     subst a1;subst a2;exact e1.ext (λ_ h=>h) t2.ext
    | succ j=>exact e2 j u' z (by simpa using hu) (by simpa using hz)
theorem Y3b {fp:List Nat} (h:Jn P B io w tmps s U F (fp++fl) ok) {u:Value} {cs:List V} {y:V} (hg:IF P w ok top u cs fp) (Wc:∀g,top g->io g\/B<=g) {e k:Nat} (Yk:e<=s.ep) (Y4:∀j,k<=j->j < k+64->U (e,j)=none/\s.heap (e,j)=none) (ht:s.BC e k cs=some (y,s')):
  ∃U' F',C3 P B io w tmps s U fl ok top (λid=>id.1=e/\k<=id.2/\id.2 < k+64) s' U' F'/\En w ok U' u y/\y=.ptr (e,k+63) 0 0:=by
 unfold St.BC at ht;split at ht
 .rename_i hl
  obtain⟨⟨ys,s1⟩,h1,ht⟩:=AL.1 ht;simp only[A6] at ht;obtain⟨rfl,rfl⟩:=ht;obtain⟨g,cur,e',BQ,rfl,Ea,GB,rfl,II⟩:=hg;obtain⟨U1,F1,t,l,c,en⟩:=Yao cs (fl:=[g]++fl) (h.perm Td) GB Wc Yk (λj hj Z7=>Y4 j hj (by omega)) h1;obtain⟨n1,n2⟩:=Y4 (k+63) (by omega) (by omega);obtain⟨U',F',t2,e2⟩:=wD t (id:=(e,k+63)) Yk n1 n2 (λhh=>by have:=hh.2.2;simp only at this;omega) Wc II Ea l c en;refine⟨U',F',t2.mono λid Zt=>?_,e2,rfl⟩;rcases Zt with hh|rfl
  .exact⟨hh.1,hh.2.1,by omega⟩
  .exact⟨rfl,by simp,by simp⟩
 .cases ht
end
def DB (s s':St) (U:AX) (F:Id->List Nat) (g:Nat):Prop:=∃id b,s.heap id=some b/\b.own=true/\s'.heap id=none/\(F id).head?=some g/\Pu (U id)
structure Wg (s s':St):Prop where
 env:s'.env=s.env
 ep:s'.ep=s.ep
 sub:∀id b,s'.heap id=some b->s.heap id=some b
theorem Wg.refl (s:St):Wg s s:=⟨rfl,rfl,λ_ _ h=>h⟩
theorem Wg.trans {a b c:St} (h:Wg a b) (k:Wg b c):Wg a c:=⟨k.env.trans h.env,k.ep.trans h.ep,λid x hx=>h.sub id x (k.sub id x hx)⟩
theorem Wg.none {a b:St} (h:Wg a b) {id:Id} (hn:a.heap id=none):b.heap id=none:=by
 cases hb:b.heap id with
 | none=>rfl
 | some x=>rw[h.sub id x hb] at hn;cases hn
theorem Wg.kill (s:St) (id:Id):Wg s (s.kill id):=⟨rfl,rfl,λ_ _ h=>I2 h⟩
theorem DB.left {a b c:St} {U:AX} {F:Id->List Nat} {g:Nat} (h:DB a b U F g) (k:Wg b c):DB a c U F g:=by
 obtain⟨id,x,h1,h2,h3,h4⟩:=h;exact⟨id,x,h1,h2,k.none h3,h4⟩
theorem DB.right {a b c:St} {U:AX} {F:Id->List Nat} {g:Nat} (h:DB b c U F g) (k:Wg a b):DB a c U F g:=by
 obtain⟨id,x,h1,h2,h3,h4⟩:=h;exact⟨id,x,k.sub id x h1,h2,h3,h4⟩
theorem Da.top {P:Program} {w:World} {ok top top':Nat->Prop} {v:Value} {x:V} {fp:List Nat} (h:Da P w ok top v x fp) (ht:∀g,top g->top' g):Da P w ok top' v x fp:=by
 cases h with
 | lit h=>exact .lit h
 | tr h=>exact .tr h
 | own h k=>exact .own h λg hg=>ht g (k g hg)
theorem Fq.top {P:Program} {w:World} {ok top top':Nat->Prop} {v:List Value} {x:List V} {fp:List Nat} (h:Fq P w ok top v x fp) (ht:∀g,top g->top' g):Fq P w ok top' v x fp:=by
 induction h with
 | nil=>exact .nil
 | cons h _ ih=>exact .cons (h.top ht) ih
theorem Dz.top {P:Program} {w:World} {ok top top':Nat->Prop} {v:Value} {x:V} {fp:List Nat} (h:Dz P w ok top v x fp) (ht:∀g,top g->top' g):Dz P w ok top' v x fp:=by
 cases x
 case agg cs=>obtain⟨us,h1,h2⟩:=h;exact⟨us,h1,h2.top ht⟩
 case CL cs=>obtain⟨g,cur,e,BQ,h1,h2,h3,h4,h5⟩:=h;exact⟨g,cur,e,BQ,h1,h2,h3.top ht,h4,ht g h5⟩
 all_goals exact Da.top h ht
theorem NV.top {P:Program} {w:World} {ok top top':Nat->Prop} {v:Value} {x:V} {fp:List Nat} (h:NV P w ok top v x fp) (ht:∀g,top g->top' g):NV P w ok top' v x fp:=by
 cases h with
 | one h=>exact .one (h.top ht)
 | box h=>exact .box (Dz.top h ht)
theorem FI.top {P:Program} {w:World} {ok top top':Nat->Prop} {v:List Value} {x:List V} {fp:List Nat} (h:FI P w ok top v x fp) (ht:∀g,top g->top' g):FI P w ok top' v x fp:=by
 induction h with
 | nil=>exact .nil
 | cons h _ ih=>exact .cons (h.top ht) ih
theorem IF.top {P:Program} {w:World} {ok top top':Nat->Prop} {u:Value} {cs:List V} {fp:List Nat} (h:IF P w ok top u cs fp) (ht:∀g,top g->top' g):IF P w ok top' u cs fp:=by
 obtain⟨g,cur,e,BQ,h1,h2,h3,h4,h5⟩:=h;exact⟨g,cur,e,BQ,h1,h2,h3.top ht,h4,ht g h5⟩
section
variable {P:Program} {B:Nat} {io:Nat->Prop} {w w':World} {tmps:Array Value} {s s' s1:St} {U U':AX} {F F':Id->List Nat} {fl fl':List Nat} {ok ok' top:Nat->Prop}
theorem PO (h:Wg s s') {g:Nat} (hg:AG s U w g):AG s' U w g:=
 ⟨λ⟨id,b,o,c,sz,h1,h2,h3⟩=>hg.1 ⟨id,b,o,c,sz,h.sub id b h1,h2,h3⟩,hg.2⟩
theorem Rel.Ek (h:Rel P B io w tmps s U F fl) {id:Id} {b:Bc} {g:Nat} (hb:s.heap id=some b) (ho:b.own=true) (hg:(F id).head?=some g):AJ s U g:=by
 have hB:=h.heap id b hb;unfold Xs at hB;split at hB
 .obtain⟨_,g',cur,e,row,hi,_,_,_,_,_,hF⟩:=hB
  rw[hF] at hg;have:g'=g:=by simpa using hg
  subst this;exact⟨id,b,_,_,_,hb,ho,hi⟩
 .rcases hB with⟨_,_,hF⟩|⟨g',o',c',cur,hi,_,_,_,_,_,fp,hF,_⟩
  .rw[hF] at hg;simp at hg
  .rw[hF] at hg
   have:g'=g:=by simpa using hg
   subst this;exact⟨id,b,_,_,_,hb,ho,hi⟩
 .rename_i h2;rw[ho] at h2;cases h2
theorem iT (h:Rel P B io w tmps s U F fl) {u:Value} {x y:V} {t:Option TypeId} (hu:En w ok U u x) (Yf:∀g,ok g->AG s U w g) (hg:s.A9 t x=some (y,s')):
  ∃fp,Rel P B io w tmps s' U F (fp++fl)/\Da P w ok (DB s s' U F) u y fp/\Wg s s':=by
 unfold St.A9 at hg;split at hg
 .obtain⟨e,_,he⟩:=AL.1 hg
  simp only[A6] at he;obtain⟨rfl,rfl⟩:=he;cases hu;exact⟨[],h,.own (.inl ⟨none,rfl,rfl,rfl⟩) (λg hg=>by simp at hg),.refl _⟩
 .simp only[AB,A6] at hg
  obtain⟨rfl,rfl⟩:=hg;cases hu with|lit hs=>exact⟨[],h,.lit hs,.refl _⟩
 .simp only[AB,A6] at hg
  obtain⟨rfl,rfl⟩:=hg;cases hu with|tr hr=>exact⟨[],h,.tr hr,.refl _⟩
 .simp only[AB,A6] at hg
  obtain⟨rfl,rfl⟩:=hg;cases hu with|vw hr=>exact⟨[],h,.tr hr,.refl _⟩
 .rename_i id off len
  obtain⟨⟨e,rows⟩,hw,he⟩:=AL.1 hg;simp only[A6] at he;obtain⟨rfl,rfl⟩:=he;obtain⟨fp,hR,hO,hh⟩:=h.Gc (hu.ext Yf (λ_ _ h=>h)) hw;refine⟨fp,hR,.own hO (λg hg=>?_),.kill s id⟩;unfold St.whole at hw;obtain⟨b,hb,hw⟩:=A8.1 hw;split at hw
  .rename_i hc
   exact⟨id,b,hb,hc.2.1,Ka,(hh g hg).1,(hh g hg).2⟩
  .cases hw
 .cases hg
theorem Ybk:∀(xs:List V) {us:List Value} {ts:List (Option TypeId)} {s s':St} {fl:List Nat} {ys:List V},Rel P B io w tmps s U F fl->us.length=xs.length->(∀(j:Nat) (u:Value) (x:V),us[j]?=some u->xs[j]?=some x->En w ok U u x)->
  (∀g,ok g->AG s U w g)->s.AK ts xs=some (ys,s')->∃fp,Rel P B io w tmps s' U F (fp++fl)/\Fq P w ok (DB s s' U F) us ys fp/\Wg s s'/\ys.length=xs.length:=by
 intro xs
 induction xs with
 | nil=>
  intro us ts s s' fl ys h hl X7 Yf hg;have:us=[]:=Gz (by simpa using hl);subst this;simp only[St.AK,AB,A6] at hg;obtain⟨rfl,rfl⟩:=hg;exact⟨[],h,.nil,.refl _,rfl⟩
 | cons x xs ih=>
  intro us ts s s' fl ys h hl X7 Yf hg
  match us,hl with
  | u::us,hl=>
   simp only[St.AK] at hg;obtain⟨⟨y,s1⟩,h1,hg⟩:=A8.1 hg;obtain⟨⟨zs,s2⟩,h2,hg⟩:=AL.1 hg;simp only[A6] at hg;obtain⟨rfl,rfl⟩:=hg;simp only at h2;obtain⟨f1,r1,g1,l1⟩:=iT h (X7 0 u x rfl rfl) Yf h1;obtain⟨f2,r2,g2,l2,l3⟩:=ih r1 (by simpa using hl) (λj v z hv hz=>X7 (j+1) v z (by simpa using hv) (by simpa using hz)) (λg hg=>PO l1 (Yf g hg)) h2;refine⟨f1++f2,r2.perm ?_,.cons (g1.top λg hg=>hg.left l2) (g2.top λg hg=>hg.right l1),l1.trans l2,by simp[l3]⟩;rw[List.append_assoc];exact (Ph _ _ _)
theorem wG (h:Rel P B io w tmps s U F fl) {ts:List (Option TypeId)} {u:Value} {x y:V} (hu:En w ok U u x) (Yf:∀g,ok g->AG s U w g) (hg:s.Ba ts x=some (y,s')):
  ∃fp,Rel P B io w tmps s' U F (fp++fl)/\Dz P w ok (DB s s' U F) u y fp/\Wg s s':=by
 unfold St.Ba at hg;split at hg
 .rename_i cs
  obtain⟨⟨ys,s1⟩,h1,he⟩:=AL.1 hg;simp only[A6] at he;obtain⟨rfl,rfl⟩:=he;cases hu with
  | @agg vs _ hl hc hr=>
   obtain⟨fp,a,b,c,_⟩:=Ybk cs (us:=vs.toList) h (by simpa using hl) (λj v z hv hz=>hr j v z (by simpa using hv) hz) Yf h1;exact⟨fp,a,⟨vs,rfl,b⟩,c⟩
 .rename_i Yg
  obtain⟨fp,a,b,c⟩:=iT h hu Yf hg;refine⟨fp,a,?_,c⟩;cases b with
  | lit h=>exact .lit h
  | tr h=>exact .tr h
  | own h k=>exact .own h k
theorem Ykb (h:Rel P B io w tmps s U F fl) {ts:List (Option TypeId)} {u:Value} {id:Id} {ys:List V} (hu:En w ok U u (.ptr id 0 0)) (Yf:∀g,ok g->AG s U w g) (FJ:∀b row,s.heap id=some b->b.rows=[row]->b.box=true->∀(j:Nat) (cur:Array Value) (e:TypeId) (g o c sz:Nat) (v:Value) (x:V),U id=some (.Bl g o c sz)->w.heap[g]?=some (.cells cur e (0,0))->cur[j]?=some v->row[j]?=some x->En w ok U v x)
  (hg:s.Bv ts id=some (ys,s')):∃fp,Rel P B io w tmps s' U F (fp++fl)/\Dz P w ok (DB s s' U F) u (.CL ys) fp/\Wg s s'/\∃g,U id=some (.Bl g 0 1 ys.length):=by
 unfold St.Bv at hg;obtain⟨b,hb,hg⟩:=A8.1 hg;split at hg
 .rename_i hc
  obtain⟨Xl,Yw⟩:=hc;split at hg
  .rename_i row hr
   have hB:=h.heap id b hb;unfold Xs at hB;rw[Xl] at hB;obtain⟨_,g,cur,e,Ci,hi,Ea,Cj,hs,he,G5,hF⟩:=hB;rw[hr] at Cj;injection Cj with Cj _;subst Cj;have BM:=h.float hb Yw;obtain⟨fp,a,b',c,d⟩:=Ybk row (us:=cur.toList) BM (by simpa using hs) (λj v z hv hz=>FJ b row hb hr Xl j cur e g _ _ _ v z hi Ea (by simpa using hv) hz) (λg hg=>PO (.kill s id) (Yf g hg)) hg;rw[hF] at a;refine⟨g::fp,a.perm (Td (l₁:=fp) (l₂:=fl)).symm,?_,(Wg.kill s id).trans c,g,by rw[d];exact hi⟩;generalize hq:(V.ptr id 0 0)=q at hu;cases hu<;>cases hq;rename_i g' o' c' sz hU;rw[hi] at hU;injection hU with hU;injection hU with h1 h2 h3 h4;subst h1;subst h2;refine⟨g,cur,e,fp,by simp,Ea,b'.top (λg hg=>hg.right (.kill s id)),rfl,⟨id,b,hb,Yw,c.none Ka,by rw[hF];rfl,g,0,1,_,hi,Nat.one_pos⟩⟩
  .cases hg
 .cases hg
def PQ (w:World) (ok:Nat->Prop) (U:AX) (s:St):Prop:=∀(id:Id) b row,s.heap id=some b->b.rows=[row]->b.box=true->∀(j:Nat) (cur:Array Value) (e:TypeId) (g o c sz:Nat) (v:Value) (x:V),U id=some (.Bl g o c sz)->w.heap[g]?=some (.cells cur e (0,0))->cur[j]?=some v->row[j]?=some x->En w ok U v x
theorem PQ.less (h:PQ w ok U s) (hl:Wg s s'):PQ w ok U s':=λid b row hb=>h id b row (hl.sub id b hb)
theorem Ysa (h:Rel P B io w tmps s U F fl) {u:Value} {x y:V} {t:Option TypeId} (hu:En w ok U u x) (Yf:∀g,ok g->AG s U w g) (FJ:PQ w ok U s) (hg:s.Bh t x=some (y,s')):
  ∃fp,Rel P B io w tmps s' U F (fp++fl)/\NV P w ok (DB s s' U F) u y fp/\Wg s s':=by
 unfold St.Bh at hg;split at hg
 .rename_i id
  obtain⟨⟨cs,s4⟩,h3,he⟩:=AL.1 hg;simp only[A6] at he;obtain⟨rfl,rfl⟩:=he;obtain⟨fp,a,b,c,_⟩:=Ykb h hu Yf (FJ id) h3;exact⟨fp,a,.box b,c⟩
 .obtain⟨fp,a,b,c⟩:=iT h hu Yf hg
  exact⟨fp,a,.one b,c⟩
theorem Yqp:∀(xs:List V) {us:List Value} {ts:List (Option TypeId)} {s s':St} {fl:List Nat} {ys:List V},Rel P B io w tmps s U F fl->us.length=xs.length->(∀(j:Nat) (u:Value) (x:V),us[j]?=some u->xs[j]?=some x->En w ok U u x)->
  (∀g,ok g->AG s U w g)->PQ w ok U s->s.AQ ts xs=some (ys,s')->∃fp,Rel P B io w tmps s' U F (fp++fl)/\FI P w ok (DB s s' U F) us ys fp/\Wg s s'/\ys.length=xs.length:=by
 intro xs
 induction xs with
 | nil=>
  intro us ts s s' fl ys h hl X7 Yf _ hg;have:us=[]:=Gz (by simpa using hl);subst this;simp only[St.AQ,AB,A6] at hg;obtain⟨rfl,rfl⟩:=hg;exact⟨[],h,.nil,.refl _,rfl⟩
 | cons x xs ih=>
  intro us ts s s' fl ys h hl X7 Yf FJ hg
  match us,hl with
  | u::us,hl=>
   simp only[St.AQ] at hg;obtain⟨⟨y,s1⟩,h1,hg⟩:=A8.1 hg;obtain⟨⟨zs,s2⟩,h2,hg⟩:=AL.1 hg;simp only[A6] at hg;obtain⟨rfl,rfl⟩:=hg;simp only at h2;obtain⟨f1,r1,g1,l1⟩:=Ysa h (X7 0 u x rfl rfl) Yf FJ h1;obtain⟨f2,r2,g2,l2,l3⟩:=ih r1 (by simpa using hl) (λj v z hv hz=>X7 (j+1) v z (by simpa using hv) (by simpa using hz)) (λg hg=>PO l1 (Yf g hg)) (FJ.less l1) h2;refine⟨f1++f2,r2.perm ?_,.cons (g1.top λg hg=>hg.left l2) (g2.top λg hg=>hg.right l1),l1.trans l2,by simp[l3]⟩;rw[List.append_assoc];exact (Ph _ _ _)
theorem Ygt (h:Rel P B io w tmps s U F fl) {ts:List (Option TypeId)} {u:Value} {id:Id} {ys:List V} (hu:En w ok U u (.ptr id 0 0)) (Yf:∀g,ok g->AG s U w g) (FJ:PQ w ok U s)
  (hg:s.Bd ts id=some (ys,s')):∃fp,Rel P B io w tmps s' U F (fp++fl)/\IF P w ok (DB s s' U F) u ys fp/\Wg s s'/\∃g,U id=some (.Bl g 0 1 ys.length):=by
 unfold St.Bd at hg;obtain⟨b,hb,hg⟩:=A8.1 hg;split at hg
 .rename_i hc
  obtain⟨Xl,Yw⟩:=hc;split at hg
  .rename_i row hr
   have hB:=h.heap id b hb;unfold Xs at hB;rw[Xl] at hB;obtain⟨_,g,cur,e,Ci,hi,Ea,Cj,hs,he,G5,hF⟩:=hB;rw[hr] at Cj;injection Cj with Cj _;subst Cj;have BM:=h.float hb Yw;obtain⟨fp,a,b',c,d⟩:=Yqp row (us:=cur.toList) BM (by simpa using hs) (λj v z hv hz=>FJ id b row hb hr Xl j cur e g _ _ _ v z hi Ea (by simpa using hv) hz) (λg hg=>PO (.kill s id) (Yf g hg)) (FJ.less (.kill s id)) hg;rw[hF] at a;refine⟨g::fp,a.perm (Td (l₁:=fp) (l₂:=fl)).symm,?_,(Wg.kill s id).trans c,g,by rw[d];exact hi⟩;generalize hq:(V.ptr id 0 0)=q at hu;cases hu<;>cases hq;rename_i g' o' c' sz hU;rw[hi] at hU;injection hU with hU;injection hU with h1 h2 h3 h4;subst h1;subst h2;refine⟨g,cur,e,fp,by simp,Ea,b'.top (λg hg=>hg.right (.kill s id)),rfl,⟨id,b,hb,Yw,c.none Ka,by rw[hF];rfl,g,0,1,_,hi,Nat.one_pos⟩⟩
  .cases hg
 .cases hg
end
end Go.Proofs.YthdljdelfgofdaaGreatDoor.Ev
